/-
  Long division: the whole, as numbers.
-/
import Derived.Test.YtddfimfgcfgpbaaSDw
namespace Go.Proofs.Ytddfimfgcfgpbaa
open Sx
set_option exponentiation.threshold 2000
structure DvOk (m M n s : Nat) : Prop where
  pos : 0 < m
  eq : M = m * 2 ^ s
  s63 : s ≤ 63
  n1 : 1 ≤ n
  n9 : n ≤ 9
  lt : M < 2 ^ (64 * n)
  ge : 2 ^ (64 * n - 1) ≤ M
theorem shl_word {m i s : Nat} (h1 : 0 < s) (h2 : s < 64) : dg m (i + 1) * 2 ^ s % 18446744073709551616 ||| dg m i / 2 ^ (64 - s) = dg (m * 2 ^ s) (i + 1) := by
  have h := shr_word m i (64 - s) 0 (by omega)
  rw [Nat.zero_add, show 64 - (64 - s) = s by omega] at h
  rw [Nat.or_comm, h]
  unfold dg
  rw [Nat.mul_zero, Nat.pow_zero, Nat.div_one]
  congr 1
  rw [show 64 * (i + 1) = 64 * i + (64 - s) + s by omega, Nat.pow_add 2 (64 * i + (64 - s)) s, Nat.mul_div_mul_right _ _ (Nat.pow_pos (by decide))]
theorem shl_word0 {m s : Nat} : dg m 0 * 2 ^ s % 18446744073709551616 = dg (m * 2 ^ s) 0 := by
  unfold dg
  simp only [Nat.mul_zero, Nat.pow_zero, Nat.div_one]
  exact Nat.mod_mul_mod _ _ _
theorem up_or {X i s : Nat} (hs : s ≤ 63) : dg (X % 2 ^ (64 * i) * 2 ^ s) i ||| dg X i * 2 ^ s % 18446744073709551616 = dg (X % 2 ^ (64 * i) * 2 ^ s) i + dg X i * 2 ^ s % 18446744073709551616 := by
  have h1 : X % 2 ^ (64 * i) * 2 ^ s / 2 ^ (64 * i) < 2 ^ s := by
    rw [Nat.div_lt_iff_lt_mul (pw_pos i), Nat.mul_comm (2 ^ s)]
    exact Nat.mul_lt_mul_of_pos_right (Nat.mod_lt _ (pw_pos i)) (Nat.pow_pos (by decide))
  have h2 : dg (X % 2 ^ (64 * i) * 2 ^ s) i < 2 ^ s := Nat.lt_of_le_of_lt (Nat.mod_le _ _) h1
  have p := pow_split (r := s) (by omega)
  have h3 : dg X i * 2 ^ s % 18446744073709551616 = 2 ^ s * (dg X i % 2 ^ (64 - s)) := by
    rw [show (18446744073709551616 : Nat) = 2 ^ s * 2 ^ (64 - s) from p, Nat.mul_comm, Nat.mul_mod_mul_left]
  rw [h3, Nat.or_comm, Nat.add_comm]
  exact (Nat.two_pow_add_eq_or_of_lt h2 _).symm
theorem up_lt {X i s : Nat} (hs : s ≤ 63) : X % 2 ^ (64 * i) * 2 ^ s < 2 ^ (64 * (i + 1)) := by
  rw [Nat.mul_succ, Nat.pow_add]
  have h1 := Nat.mod_lt X (pw_pos i)
  have h2 : 2 ^ s < 2 ^ 64 := Nat.pow_lt_pow_right (by decide) (by omega)
  exact Nat.lt_of_lt_of_le (Nat.mul_lt_mul_of_pos_right h1 (Nat.pow_pos (by decide))) (Nat.mul_le_mul_left _ (Nat.le_of_lt h2))
theorem up_step {X i s : Nat} (hs : s ≤ 63) (h0 : 0 < s) :
    setw (setw (X % 2 ^ (64 * i) * 2 ^ s) i (dg (X % 2 ^ (64 * i) * 2 ^ s) i ||| dg X i * 2 ^ s % 18446744073709551616)) (i + 1) (dg X i / 2 ^ (64 - s)) = X % 2 ^ (64 * (i + 1)) * 2 ^ s := by
  have hl := up_lt (X := X) (i := i) hs
  have hd : dg (X % 2 ^ (64 * i) * 2 ^ s) i ||| dg X i * 2 ^ s % 18446744073709551616 < 18446744073709551616 := or_lt (dg_lt _ _) (Nat.mod_lt _ (by decide))
  have e1 := setw_val (X % 2 ^ (64 * i) * 2 ^ s) i (dg (X % 2 ^ (64 * i) * 2 ^ s) i ||| dg X i * 2 ^ s % 18446744073709551616)
  have e2 := setw_val (setw (X % 2 ^ (64 * i) * 2 ^ s) i (dg (X % 2 ^ (64 * i) * 2 ^ s) i ||| dg X i * 2 ^ s % 18446744073709551616)) (i + 1) (dg X i / 2 ^ (64 - s))
  rw [dg_setw _ _ _ _ hd, if_neg (by omega), dg_big hl (Nat.le_refl _), Nat.zero_mul, Nat.add_zero] at e2
  rw [e2]
  have p := pow_split (r := s) (by omega)
  have e3 : dg X i / 2 ^ (64 - s) = dg X i * 2 ^ s / 18446744073709551616 := by
    rw [show (18446744073709551616 : Nat) = 2 ^ (64 - s) * 2 ^ s by rw [Nat.mul_comm]; exact p]
    exact (Nat.mul_div_mul_right _ _ (Nat.pow_pos (by decide))).symm
  rw [up_or hs, Nat.add_mul] at e1
  rw [up_or hs]
  rw [lo_succ, Nat.add_mul, e3, pw_succ, show dg X i * 2 ^ (64 * i) * 2 ^ s = dg X i * 2 ^ s * 2 ^ (64 * i) by rw [Nat.mul_right_comm]]
  have e4 := Nat.div_add_mod (dg X i * 2 ^ s) 18446744073709551616
  have e5 : dg X i * 2 ^ s * 2 ^ (64 * i) = dg X i * 2 ^ s / 18446744073709551616 * (18446744073709551616 * 2 ^ (64 * i)) + dg X i * 2 ^ s % 18446744073709551616 * 2 ^ (64 * i) := by
    conv => lhs; rw [← e4, Nat.add_mul, Nat.mul_comm 18446744073709551616, Nat.mul_assoc]
  rw [e5]
  omega
theorem up_step0 {X i s : Nat} (h0 : s = 0) :
    setw (X % 2 ^ (64 * i) * 2 ^ s) i (dg (X % 2 ^ (64 * i) * 2 ^ s) i ||| dg X i * 2 ^ s % 18446744073709551616) = X % 2 ^ (64 * (i + 1)) * 2 ^ s := by
  have e1 := setw_val (X % 2 ^ (64 * i) * 2 ^ s) i (dg (X % 2 ^ (64 * i) * 2 ^ s) i ||| dg X i * 2 ^ s % 18446744073709551616)
  rw [up_or (by omega), Nat.add_mul] at e1
  rw [up_or (by omega)]
  have h1 : dg X i * 2 ^ s % 18446744073709551616 = dg X i := by subst h0; simp [Nat.mod_eq_of_lt (dg_lt X i)]
  rw [h1] at e1 ⊢
  rw [lo_succ, Nat.add_mul]
  subst h0
  simp only [Nat.pow_zero, Nat.mul_one] at *
  omega
theorem qt_iff {M u a x : Nat} (hM : 0 < M) : u / 2 ^ (64 * a) / M < x ↔ u < x * M * 2 ^ (64 * a) := by
  rw [Nat.div_lt_iff_lt_mul hM, Nat.div_lt_iff_lt_mul (pw_pos a)]
theorem tkb_iff {M u a x : Nat} (hM : 0 < M) : decide (tkb M u a x = 1) = decide (u / 2 ^ (64 * a) / M < x) := by
  rw [decide_eq_decide, qt_iff hM]
  unfold tkb
  split <;> simp_all
theorem xm_lt {M n a x : Nat} (hM : M < 2 ^ (64 * n)) (hx : x < 18446744073709551616) : x * M * 2 ^ (64 * a) < 2 ^ (64 * (a + n + 1)) := by
  rw [pw_succ, Nat.mul_add, Nat.pow_add, Nat.mul_comm (2 ^ (64 * a)), ← Nat.mul_assoc]
  refine Nat.mul_lt_mul_of_pos_right ?_ (pw_pos a)
  exact Nat.lt_of_le_of_lt (Nat.mul_le_mul_right _ (Nat.le_of_lt hx)) (Nat.mul_lt_mul_of_pos_left hM (by decide))
def DgI (M n u a x V : Nat) : Prop := V + x * M * 2 ^ (64 * a) = u + (if u / 2 ^ (64 * a) / M < x then 1 else 0) * 2 ^ (64 * (a + n + 1)) ∧ u / 2 ^ (64 * a) / M ≤ x ∧ V < 2 ^ (64 * (a + n + 1)) ∧ x < 18446744073709551616
theorem dgI_start {M n u a x : Nat} (h0 : 0 < M) (hM : M < 2 ^ (64 * n)) (hu : u < 2 ^ (64 * (a + n + 1))) (h1 : u / 2 ^ (64 * a) / M ≤ x) (h2 : x < 18446744073709551616) : DgI M n u a x (tku M n u a x) := by
  have hx := xm_lt (a := a) hM h2
  have hi := qt_iff (u := u) (a := a) (x := x) h0
  refine ⟨?_, h1, ?_, h2⟩
  · unfold tku tkb
    by_cases h : u < x * M * 2 ^ (64 * a)
    · rw [if_pos h, if_pos (hi.2 h)]; omega
    · rw [if_neg h, if_neg (fun h' => h (hi.1 h'))]; omega
  · unfold tku tkb
    split <;> omega
theorem dgI_back {M n u a x V : Nat} (h0 : 0 < M) (hu : u < 2 ^ (64 * (a + n + 1))) (h : DgI M n u a x V) (hx : u / 2 ^ (64 * a) / M < x) :
    0 < x ∧ DgI M n u a (x - 1) (bku M n V a) ∧ (!decide (bkb M n V a = 1)) = decide (u / 2 ^ (64 * a) / M < x - 1) := by
  obtain ⟨h1, h2, h3, h4⟩ := h
  rw [if_pos hx, Nat.one_mul] at h1
  have hx0 : 0 < x := Nat.lt_of_le_of_lt (Nat.zero_le _) hx
  obtain ⟨y, rfl⟩ : ∃ y, x = y + 1 := ⟨x - 1, by omega⟩
  rw [Nat.add_mul, Nat.add_mul, Nat.one_mul] at h1
  have hi := qt_iff (u := u) (a := a) (x := y) h0
  simp only [Nat.add_sub_cancel]
  refine ⟨Nat.succ_pos y, ?_⟩
  by_cases hy : u < y * M * 2 ^ (64 * a)
  · have hlt : V + M * 2 ^ (64 * a) < 2 ^ (64 * (a + n + 1)) := by omega
    have e1 : bkb M n V a = 0 := Nat.div_eq_of_lt hlt
    have e2 : bku M n V a = V + M * 2 ^ (64 * a) := Nat.mod_eq_of_lt hlt
    refine ⟨⟨?_, Nat.le_of_lt_succ hx, ?_, by omega⟩, ?_⟩
    · rw [e2, if_pos (hi.2 hy), Nat.one_mul]; omega
    · rw [e2]; exact hlt
    · rw [e1]; simp [hi.2 hy]
  · have hge : V + M * 2 ^ (64 * a) = (u - y * M * 2 ^ (64 * a)) + 1 * 2 ^ (64 * (a + n + 1)) := by omega
    have hl : u - y * M * 2 ^ (64 * a) < 2 ^ (64 * (a + n + 1)) := by omega
    have e1 : bkb M n V a = 1 := by unfold bkb; rw [hge, Nat.add_mul_div_right _ _ (pw_pos _), Nat.div_eq_of_lt hl]
    have e2 : bku M n V a = u - y * M * 2 ^ (64 * a) := by unfold bku; rw [hge, Nat.add_mul_mod_self_right, Nat.mod_eq_of_lt hl]
    have hn : ¬ u / 2 ^ (64 * a) / M < y := fun h' => hy (hi.1 h')
    refine ⟨⟨?_, Nat.le_of_lt_succ hx, ?_, by omega⟩, ?_⟩
    · rw [e2, if_neg hn]; omega
    · rw [e2]; exact hl
    · rw [e1]; simp [hn]
theorem dgI_end {M n u a x V : Nat} (h : DgI M n u a x V) (hx : ¬ u / 2 ^ (64 * a) / M < x) : x = u / 2 ^ (64 * a) / M ∧ V + x * M * 2 ^ (64 * a) = u := by
  obtain ⟨h1, h2, h3, h4⟩ := h
  rw [if_neg hx, Nat.zero_mul, Nat.add_zero] at h1
  exact ⟨Nat.le_antisymm (Nat.le_of_not_lt hx) h2, h1⟩
def QuI (N M k u Q : Nat) : Prop := N = Q * M + u ∧ u < M * 2 ^ (64 * k) ∧ Q % 2 ^ (64 * k) = 0
theorem quI_window {N M n a u Q : Nat} (hM : M < 2 ^ (64 * n)) (h : QuI N M (a + 1) u Q) : u / 2 ^ (64 * a) < M * 18446744073709551616 ∧ u < 2 ^ (64 * (a + n + 1)) := by
  have h2 := h.2.1
  rw [pw_succ, ← Nat.mul_assoc] at h2
  constructor
  · rw [Nat.div_lt_iff_lt_mul (pw_pos a)]; exact h2
  · refine Nat.lt_trans h2 ?_
    rw [Nat.mul_right_comm, pw_succ, Nat.mul_add, Nat.pow_add, Nat.mul_comm, Nat.mul_comm (2 ^ (64 * a)), Nat.mul_comm M]
    rw [Nat.mul_comm (2 ^ (64 * a)) M]
    exact Nat.mul_lt_mul_of_pos_left (Nat.mul_lt_mul_of_pos_right hM (pw_pos a)) (by decide)
theorem quI_step {N M n a u Q x V : Nat} (h0 : 0 < M) (h : QuI N M (a + 1) u Q) (hd : DgI M n u a x V) (hx : ¬ u / 2 ^ (64 * a) / M < x) : QuI N M a V (setw Q a x) := by
  obtain ⟨e1, e2⟩ := dgI_end hd hx
  obtain ⟨h1, h2, h3⟩ := h
  have hQ : dg Q a = 0 := by
    have := lo_succ Q a
    rw [h3] at this
    have hp := pw_pos a
    have h4 : dg Q a * 2 ^ (64 * a) = 0 := by omega
    rcases Nat.mul_eq_zero.1 h4 with h5 | h5
    · exact h5
    · omega
  have hQ2 : Q % 2 ^ (64 * a) = 0 := by
    have := lo_succ Q a
    rw [h3] at this
    omega
  have hs := setw_val Q a x
  rw [hQ, Nat.zero_mul, Nat.add_zero] at hs
  refine ⟨?_, ?_, ?_⟩
  · rw [hs, Nat.add_mul, h1, Nat.mul_right_comm]; omega
  · have h5 : u < (x + 1) * M * 2 ^ (64 * a) := (qt_iff h0).1 (by omega)
    rw [Nat.add_mul, Nat.add_mul, Nat.one_mul] at h5
    omega
  · rw [hs, Nat.add_mul_mod_self_right]; exact hQ2
theorem quI_start {X m M n s L k : Nat} (D : DvOk m M n s) (hX : X < 2 ^ (64 * L)) (hk : L + 1 ≤ n + k) : QuI (X * 2 ^ s) M k (X * 2 ^ s) 0 := by
  refine ⟨by simp, ?_, by simp⟩
  have h1 : X * 2 ^ s < 2 ^ (64 * L) * 2 ^ s := Nat.mul_lt_mul_of_pos_right hX (Nat.pow_pos (by decide))
  have h2 : 2 ^ (64 * n - 1) * 2 ^ (64 * k) ≤ M * 2 ^ (64 * k) := Nat.mul_le_mul_right _ D.ge
  rw [← Nat.pow_add] at h1 h2
  have h3 : 2 ^ (64 * L + s) ≤ 2 ^ (64 * n - 1 + 64 * k) := Nat.pow_le_pow_right (by decide) (by have := D.s63; have := D.n1; omega)
  omega
theorem quI_end {X m M n s u Q : Nat} (D : DvOk m M n s) (h : QuI (X * 2 ^ s) M 0 u Q) : Q = X / m ∧ u / 2 ^ s = X % m := by
  obtain ⟨h1, h2, _⟩ := h
  rw [Nat.mul_zero, Nat.pow_zero, Nat.mul_one] at h2
  have hp : 0 < 2 ^ s := Nat.pow_pos (by decide)
  have e : X = Q * m + u / 2 ^ s := by
    have := congrArg (· / 2 ^ s) h1
    simp only [D.eq] at this
    rw [Nat.mul_div_cancel _ hp, ← Nat.mul_assoc, Nat.mul_comm _ (2 ^ s), Nat.mul_add_div hp] at this
    exact this
  have hl : u / 2 ^ s < m := by rw [Nat.div_lt_iff_lt_mul hp, ← D.eq]; exact h2
  constructor
  · rw [e, Nat.mul_comm, Nat.mul_add_div D.pos, Nat.div_eq_of_lt hl, Nat.add_zero]
  · rw [e, Nat.mul_comm, Nat.mul_add_mod, Nat.mod_eq_of_lt hl]
theorem rest_end {X m M n s u : Nat} (D : DvOk m M n s) (h : u / 2 ^ s = X % m) : U9 (mixw (u / 2 ^ s) 0 n) = U9 (X % m) := by
  have h2 : X % m < 2 ^ (64 * n) := by
    refine Nat.lt_of_lt_of_le (Nat.mod_lt _ D.pos) (Nat.le_trans ?_ (Nat.le_of_lt D.lt))
    rw [D.eq]; exact Nat.le_mul_of_pos_right _ (Nat.pow_pos (by decide))
  rw [h]
  refine U9_congr (fun j _ => ?_)
  rw [dg_mixw]
  split
  · rfl
  · rw [dg_big h2 (by omega), dg_big (n := 0) (a := 0) (by decide) (Nat.zero_le _)]
theorem dvOk_of {m : Nat} (h0 : 0 < m) (hm : m < 2 ^ 576) : DvOk m (m * 2 ^ (64 - Lib.bitLen (dg m (nw m - 1)))) (nw m) (64 - Lib.bitLen (dg m (nw m - 1))) := by
  have hnz : ¬ nw m = 0 := fun h => by have := (nw_zero hm).1 h; omega
  have h1 := bl_nw hm hnz
  have h2 : dg m (nw m - 1) ≠ 0 := nwk_top (n := 9) (by show 0 < nw m; omega)
  have h3 : 0 < Lib.bitLen (dg m (nw m - 1)) := by rw [bl_lib _ (dg_lt _ _)]; exact bl_pos (by omega)
  have h4 : Lib.bitLen (dg m (nw m - 1)) ≤ 64 := Lib.bitLen_le _ 64 (by decide) (dg_lt _ _)
  have h5 := lt_bl m
  have h6 := bl_ge h0
  have hp : 0 < 2 ^ (64 - Lib.bitLen (dg m (nw m - 1))) := Nat.pow_pos (by decide)
  refine ⟨h0, rfl, by omega, by omega, nw_le m, ?_, ?_⟩
  · have := Nat.mul_lt_mul_of_pos_right h5 hp
    rw [← Nat.pow_add, show bl m + (64 - Lib.bitLen (dg m (nw m - 1))) = 64 * nw m by omega] at this
    exact this
  · have := Nat.mul_le_mul_right (2 ^ (64 - Lib.bitLen (dg m (nw m - 1)))) h6
    rw [← Nat.pow_add, show bl m - 1 + (64 - Lib.bitLen (dg m (nw m - 1))) = 64 * nw m - 1 by omega] at this
    exact this
end Go.Proofs.Ytddfimfgcfgpbaa
