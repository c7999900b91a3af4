/-
  Long division: what each part does, as numbers.
-/
import Derived.Test.YtddfimfgcfgpbaaSNd
namespace Go.Proofs.Ytddfimfgcfgpbaa
open Sx
set_option exponentiation.threshold 2000
def gl (top m2 u3 : Nat) : Nat → Nat → Nat
  | 0, _ => 0
  | q + 1, r => if (q + 1) * m2 / 18446744073709551616 < r ∨ ((q + 1) * m2 / 18446744073709551616 = r ∧ (q + 1) * m2 % 18446744073709551616 ≤ u3) then q + 1
    else if (r + top) % 18446744073709551616 < r then q else gl top m2 u3 q ((r + top) % 18446744073709551616)
theorem gl_stop {top m2 u3 q r : Nat} (h : q * m2 / 18446744073709551616 < r ∨ (q * m2 / 18446744073709551616 = r ∧ q * m2 % 18446744073709551616 ≤ u3)) : gl top m2 u3 q r = q := by
  cases q with
  | zero => rfl
  | succ q => unfold gl; rw [if_pos h]
theorem gl_pos {m2 u3 q r : Nat} (h : ¬ (q * m2 / 18446744073709551616 < r ∨ (q * m2 / 18446744073709551616 = r ∧ q * m2 % 18446744073709551616 ≤ u3))) : 0 < q := by
  cases q with
  | zero => exact absurd (by simp; omega) h
  | succ q => omega
theorem gl_over {top m2 u3 q r : Nat} (h : ¬ (q * m2 / 18446744073709551616 < r ∨ (q * m2 / 18446744073709551616 = r ∧ q * m2 % 18446744073709551616 ≤ u3))) (h2 : (r + top) % 18446744073709551616 < r) : gl top m2 u3 q r = q - 1 := by
  have hp := gl_pos h
  obtain ⟨k, rfl⟩ : ∃ k, q = k + 1 := ⟨q - 1, by omega⟩
  unfold gl; rw [if_neg h, if_pos h2]; rfl
theorem gl_next {top m2 u3 q r : Nat} (h : ¬ (q * m2 / 18446744073709551616 < r ∨ (q * m2 / 18446744073709551616 = r ∧ q * m2 % 18446744073709551616 ≤ u3))) (h2 : ¬ (r + top) % 18446744073709551616 < r) : gl top m2 u3 q r = gl top m2 u3 (q - 1) ((r + top) % 18446744073709551616) := by
  have hp := gl_pos h
  obtain ⟨k, rfl⟩ : ∃ k, q = k + 1 := ⟨q - 1, by omega⟩
  conv => lhs; unfold gl
  rw [if_neg h, if_neg h2]; rfl
theorem gl_spec {M Wd e H top m2 u3 : Nat} (hM0 : 0 < M) (hM : (top * 18446744073709551616 + m2) * e ≤ M) (hW : Wd < (H * 18446744073709551616 + u3 + 1) * e) (ht : top < 18446744073709551616) (hu3 : u3 < 18446744073709551616) :
    ∀ q r, q * top + r = H → Wd / M ≤ q → r < 18446744073709551616 → Wd / M ≤ gl top m2 u3 q r ∧ gl top m2 u3 q r ≤ q := by
  intro q
  induction q with
  | zero => intro r _ h _; exact ⟨h, Nat.le_refl _⟩
  | succ q ih =>
    intro r h1 h2 h3
    by_cases hc : (q + 1) * m2 / 18446744073709551616 < r ∨ ((q + 1) * m2 / 18446744073709551616 = r ∧ (q + 1) * m2 % 18446744073709551616 ≤ u3)
    · rw [gl_stop hc]; exact ⟨h2, Nat.le_refl _⟩
    · have h4 : Wd / M ≤ q := by
        refine Nat.le_of_lt_succ ?_
        rw [Nat.div_lt_iff_lt_mul hM0]
        refine Nat.lt_of_lt_of_le hW ?_
        refine Nat.le_trans ?_ (Nat.mul_le_mul_left (q + 1) hM)
        rw [← Nat.mul_assoc]
        refine Nat.mul_le_mul_right _ ?_
        rw [Nat.mul_add, ← Nat.mul_assoc, ← h1]
        generalize (q + 1) * m2 = z at *
        generalize (q + 1) * top = y at *
        omega
      by_cases ho : (r + top) % 18446744073709551616 < r
      · rw [gl_over hc ho]; exact ⟨h4, by omega⟩
      · rw [gl_next hc ho]
        have h5 := ih ((r + top) % 18446744073709551616) (by rw [Nat.add_mul] at h1; omega) h4 (Nat.mod_lt _ (by decide))
        exact ⟨h5.1, Nat.le_trans h5.2 (Nat.le_succ q)⟩
def gs (M n u at_ : Nat) : Nat :=
  if dg M (n - 1) ≤ dg u (at_ + n) then 18446744073709551615
  else if n = 1 then (dg u (at_ + n) * 18446744073709551616 + dg u (at_ + n - 1)) / dg M (n - 1)
  else gl (dg M (n - 1)) (dg M (n - 2)) (dg u (at_ + n - 2)) ((dg u (at_ + n) * 18446744073709551616 + dg u (at_ + n - 1)) / dg M (n - 1)) ((dg u (at_ + n) * 18446744073709551616 + dg u (at_ + n - 1)) % dg M (n - 1))
theorem div_pw (x i j : Nat) : x / 2 ^ (64 * i) / 2 ^ (64 * j) = x / 2 ^ (64 * (i + j)) := by
  rw [Nat.div_div_eq_div_mul, ← Nat.pow_add, ← Nat.mul_add]
theorem dg_of {x i : Nat} (h : x / 2 ^ (64 * i) < 18446744073709551616) : dg x i = x / 2 ^ (64 * i) := Nat.mod_eq_of_lt h
theorem gs_spec {M n u a : Nat} (hn : 1 ≤ n) (hM : M < 2 ^ (64 * n)) (hM2 : 2 ^ (64 * n - 1) ≤ M) (hu : u / 2 ^ (64 * a) < M * 18446744073709551616) : u / 2 ^ (64 * a) / M ≤ gs M n u a ∧ gs M n u a < 18446744073709551616 := by
  have hM0 : 0 < M := Nat.lt_of_lt_of_le (Nat.pow_pos (by decide)) hM2
  obtain ⟨k, rfl⟩ : ∃ k, n = k + 1 := ⟨n - 1, by omega⟩
  have hq : u / 2 ^ (64 * a) / M < 18446744073709551616 := by rw [Nat.div_lt_iff_lt_mul hM0, Nat.mul_comm 18446744073709551616 M]; exact hu
  have htop : dg M k = M / 2 ^ (64 * k) := dg_top hM
  have hW1 : u / 2 ^ (64 * a) < 2 ^ (64 * (k + 1 + 1)) := by
    refine Nat.lt_trans hu ?_
    rw [pw_succ (k + 1), Nat.mul_comm M]; exact Nat.mul_lt_mul_of_pos_left hM (by decide)
  have e1 : u / 2 ^ (64 * a) / 2 ^ (64 * k) = dg u (a + k + 1) * 18446744073709551616 + dg u (a + k) := by
    have h1 := hi_succ u (a + k)
    have h2 : u / 2 ^ (64 * (a + k + 1)) < 18446744073709551616 := by
      rw [show a + k + 1 = a + (k + 1) from rfl, ← div_pw, Nat.div_lt_iff_lt_mul (pw_pos _)]
      rw [pw_succ (k + 1)] at hW1
      exact hW1
    rw [div_pw, h1, dg_of h2]
  have hqh : u / 2 ^ (64 * a) / M ≤ (dg u (a + k + 1) * 18446744073709551616 + dg u (a + k)) / dg M k := by
    have ht0 : 0 < dg M k := by
      rw [htop]; refine Nat.div_pos (Nat.le_trans (Nat.pow_le_pow_right (by decide) (by omega)) hM2) (pw_pos k)
    rw [Nat.le_div_iff_mul_le ht0, ← e1, Nat.le_div_iff_mul_le (pw_pos k), Nat.mul_assoc]
    refine Nat.le_trans (Nat.mul_le_mul_left _ (m := M) ?_) (Nat.div_mul_le_self _ _)
    rw [htop]; exact Nat.div_mul_le_self _ _
  unfold gs
  simp only [Nat.add_sub_cancel, show a + (k + 1) = a + k + 1 from rfl]
  split
  · exact ⟨by omega, by decide⟩
  · next hlt =>
    have hqW : (dg u (a + k + 1) * 18446744073709551616 + dg u (a + k)) / dg M k < 18446744073709551616 := by
      have := dg_lt u (a + k)
      rw [Nat.div_lt_iff_lt_mul (by omega)]
      omega
    split
    · exact ⟨hqh, hqW⟩
    · next hk =>
      obtain ⟨j, rfl⟩ : ∃ j, k = j + 1 := ⟨k - 1, by omega⟩
      simp only [show j + 1 + 1 - 2 = j from rfl, show a + (j + 1) + 1 - 2 = a + j by omega] at *
      have hMe : (dg M (j + 1) * 18446744073709551616 + dg M j) * 2 ^ (64 * j) ≤ M := by
        have h1 := hi_succ M j
        rw [htop, ← h1]; exact Nat.div_mul_le_self _ _
      have hWe : u / 2 ^ (64 * a) < ((dg u (a + (j + 1) + 1) * 18446744073709551616 + dg u (a + (j + 1))) * 18446744073709551616 + dg u (a + j) + 1) * 2 ^ (64 * j) := by
        have h1 := hi_succ u (a + j)
        rw [← e1, div_pw, show a + (j + 1) = a + j + 1 by omega, ← h1, ← div_pw, Nat.add_mul, Nat.one_mul]
        have h2 := Nat.div_add_mod (u / 2 ^ (64 * a)) (2 ^ (64 * j))
        have h3 := Nat.mod_lt (u / 2 ^ (64 * a)) (pw_pos j)
        rw [Nat.mul_comm] at h2
        omega
      have h := gl_spec hM0 hMe hWe (dg_lt _ _) (dg_lt _ _) ((dg u (a + (j + 1) + 1) * 18446744073709551616 + dg u (a + (j + 1))) / dg M (j + 1)) ((dg u (a + (j + 1) + 1) * 18446744073709551616 + dg u (a + (j + 1))) % dg M (j + 1)) (by rw [Nat.mul_comm]; exact Nat.div_add_mod _ _) hqh (Nat.lt_trans (Nat.mod_lt _ (by omega)) (dg_lt _ _))
      exact ⟨h.1, Nat.lt_of_le_of_lt h.2 hqW⟩
def tkb (M u a q : Nat) : Nat := if u < q * M * 2 ^ (64 * a) then 1 else 0
def tku (M n u a q : Nat) : Nat := u + tkb M u a q * 2 ^ (64 * (a + n + 1)) - q * M * 2 ^ (64 * a)
theorem tk_end {M n u a q V b : Nat} (hV : V < 2 ^ (64 * (a + n + 1))) (hb : b ≤ 1) (h : V + q * M * 2 ^ (64 * a) = u + b * 2 ^ (64 * (a + n + 1))) : b = tkb M u a q ∧ V = tku M n u a q := by
  have hB : b = tkb M u a q := by
    unfold tkb
    generalize q * M * 2 ^ (64 * a) = z at *
    generalize 2 ^ (64 * (a + n + 1)) = B at *
    have : b = 0 ∨ b = 1 := by omega
    rcases this with rfl | rfl <;> split <;> omega
  refine ⟨hB, ?_⟩
  unfold tku
  rw [← hB]
  omega
theorem tk_word {x y c : Nat} (hx : x < 18446744073709551616) (hy : y < 18446744073709551616) (hc : c < 18446744073709551616) :
    (x * y % 18446744073709551616 + c + 0) % 18446744073709551616 + 18446744073709551616 * ((x * y / 18446744073709551616 + (x * y % 18446744073709551616 + c + 0) / 18446744073709551616) % 18446744073709551616) = x * y + c := by
  have h : x * y ≤ 18446744073709551615 * 18446744073709551615 := Nat.mul_le_mul (by omega) (by omega)
  generalize x * y = p at *
  omega
theorem sub_one {x y b : Nat} (hx : x < 18446744073709551616) (hy : y < 18446744073709551616) (hb : b ≤ 1) :
    (x + 18446744073709551616 - y - b) % 18446744073709551616 + y + b = x + (if x < y + b then 1 else 0) * 18446744073709551616 := by
  split <;> omega
theorem tk_step {M u a q i V br ca d br' ca' lw : Nat} (h : V + q * (M % 2 ^ (64 * i)) * 2 ^ (64 * a) = u + (br + ca) * 2 ^ (64 * (a + i))) (h1 : d + lw + br = dg V (a + i) + br' * 18446744073709551616) (h2 : lw + 18446744073709551616 * ca' = q * dg M i + ca) :
    setw V (a + i) d + q * (M % 2 ^ (64 * (i + 1))) * 2 ^ (64 * a) = u + (br' + ca') * 2 ^ (64 * (a + (i + 1))) := by
  have h3 := setw_val V (a + i) d
  rw [show a + (i + 1) = a + i + 1 from rfl, pw_succ (a + i), mod_succ, Nat.mul_add q, Nat.add_mul, show q * (dg M i * 2 ^ (64 * i)) * 2 ^ (64 * a) = q * dg M i * 2 ^ (64 * (a + i)) by rw [Nat.mul_add, Nat.pow_add]; simp only [Nat.mul_assoc, Nat.mul_left_comm, Nat.mul_comm]]
  have e1 := congrArg (· * 2 ^ (64 * (a + i))) h1
  have e2 := congrArg (· * 2 ^ (64 * (a + i))) h2
  simp only [Nat.add_mul] at e1 e2 h ⊢
  have e3 : br' * (18446744073709551616 * 2 ^ (64 * (a + i))) = br' * 18446744073709551616 * 2 ^ (64 * (a + i)) := by rw [Nat.mul_assoc]
  have e4 : ca' * (18446744073709551616 * 2 ^ (64 * (a + i))) = 18446744073709551616 * ca' * 2 ^ (64 * (a + i)) := by rw [← Nat.mul_assoc, Nat.mul_comm ca']
  rw [e3, e4]
  generalize br' * 18446744073709551616 * 2 ^ (64 * (a + i)) = t1 at *
  generalize 18446744073709551616 * ca' * 2 ^ (64 * (a + i)) = t2 at *
  generalize q * dg M i * 2 ^ (64 * (a + i)) = t3 at *
  generalize q * (M % 2 ^ (64 * i)) * 2 ^ (64 * a) = t4 at *
  omega
theorem tk_last {M n u a q V br ca d br' : Nat} (hM : M < 2 ^ (64 * n)) (h : V + q * (M % 2 ^ (64 * n)) * 2 ^ (64 * a) = u + (br + ca) * 2 ^ (64 * (a + n))) (h1 : d + ca + br = dg V (a + n) + br' * 18446744073709551616) :
    setw V (a + n) d + q * M * 2 ^ (64 * a) = u + br' * 2 ^ (64 * (a + n + 1)) := by
  have h3 := setw_val V (a + n) d
  rw [Nat.mod_eq_of_lt hM] at h
  rw [pw_succ]
  have e1 := congrArg (· * 2 ^ (64 * (a + n))) h1
  simp only [Nat.add_mul] at e1 h
  have e3 : br' * (18446744073709551616 * 2 ^ (64 * (a + n))) = br' * 18446744073709551616 * 2 ^ (64 * (a + n)) := by rw [Nat.mul_assoc]
  rw [e3]
  generalize br' * 18446744073709551616 * 2 ^ (64 * (a + n)) = t1 at *
  generalize q * M * 2 ^ (64 * a) = t4 at *
  omega
def bkb (M n u a : Nat) : Nat := (u + M * 2 ^ (64 * a)) / 2 ^ (64 * (a + n + 1))
def bku (M n u a : Nat) : Nat := (u + M * 2 ^ (64 * a)) % 2 ^ (64 * (a + n + 1))
theorem bk_end {M n u a V c : Nat} (hV : V < 2 ^ (64 * (a + n + 1))) (h : V + c * 2 ^ (64 * (a + n + 1)) = u + M * 2 ^ (64 * a)) : c = bkb M n u a ∧ V = bku M n u a := by
  unfold bkb bku
  rw [← h, Nat.add_mul_div_right _ _ (pw_pos _), Nat.div_eq_of_lt hV, Nat.zero_add, Nat.add_mul_mod_self_right, Nat.mod_eq_of_lt hV]
  exact ⟨rfl, rfl⟩
theorem bk_step {M u a i V c d c' : Nat} (h : V + c * 2 ^ (64 * (a + i)) = u + M % 2 ^ (64 * i) * 2 ^ (64 * a)) (h1 : d + 18446744073709551616 * c' = dg V (a + i) + dg M i + c) :
    setw V (a + i) d + c' * 2 ^ (64 * (a + (i + 1))) = u + M % 2 ^ (64 * (i + 1)) * 2 ^ (64 * a) := by
  have h3 := setw_val V (a + i) d
  rw [show a + (i + 1) = a + i + 1 from rfl, pw_succ (a + i), mod_succ, Nat.add_mul, show dg M i * 2 ^ (64 * i) * 2 ^ (64 * a) = dg M i * 2 ^ (64 * (a + i)) by rw [Nat.mul_add, Nat.pow_add]; simp only [Nat.mul_assoc, Nat.mul_comm]]
  have e1 := congrArg (· * 2 ^ (64 * (a + i))) h1
  simp only [Nat.add_mul] at e1
  have e4 : c' * (18446744073709551616 * 2 ^ (64 * (a + i))) = 18446744073709551616 * c' * 2 ^ (64 * (a + i)) := by rw [← Nat.mul_assoc, Nat.mul_comm c']
  rw [e4]
  generalize 18446744073709551616 * c' * 2 ^ (64 * (a + i)) = t2 at *
  generalize M % 2 ^ (64 * i) * 2 ^ (64 * a) = t4 at *
  omega
theorem bk_last {M n u a V c d c' : Nat} (hM : M < 2 ^ (64 * n)) (h : V + c * 2 ^ (64 * (a + n)) = u + M % 2 ^ (64 * n) * 2 ^ (64 * a)) (h1 : d + 18446744073709551616 * c' = dg V (a + n) + 0 + c) :
    setw V (a + n) d + c' * 2 ^ (64 * (a + n + 1)) = u + M * 2 ^ (64 * a) := by
  have h3 := setw_val V (a + n) d
  rw [Nat.mod_eq_of_lt hM] at h
  rw [pw_succ]
  have e1 := congrArg (· * 2 ^ (64 * (a + n))) h1
  simp only [Nat.add_mul, Nat.add_zero] at e1
  have e4 : c' * (18446744073709551616 * 2 ^ (64 * (a + n))) = 18446744073709551616 * c' * 2 ^ (64 * (a + n)) := by rw [← Nat.mul_assoc, Nat.mul_comm c']
  rw [e4]
  generalize 18446744073709551616 * c' * 2 ^ (64 * (a + n)) = t2 at *
  omega
end Go.Proofs.Ytddfimfgcfgpbaa
