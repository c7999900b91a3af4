/-
  nat.Mul.
-/
import Derived.Test.YtddfimfgcfgpbaaSTf
import Derived.Test.YtddfimfgcfgpbaaSNc
namespace Go.Proofs.Ytddfimfgcfgpbaa
open Sx
open Go.RowKit (Below)
set_option exponentiation.threshold 2000
theorem mul_word {x y o c : Nat} (hx : x < 18446744073709551616) (hy : y < 18446744073709551616) (ho : o < 18446744073709551616) (hc : c < 18446744073709551616) :
    ((x * y % 18446744073709551616 + o + 0) % 18446744073709551616 + c + 0) % 18446744073709551616 + 18446744073709551616 * (((x * y / 18446744073709551616 + (x * y % 18446744073709551616 + o + 0) / 18446744073709551616) % 18446744073709551616 + ((x * y % 18446744073709551616 + o + 0) % 18446744073709551616 + c + 0) / 18446744073709551616) % 18446744073709551616) = x * y + o + c := by
  have h : x * y ≤ 18446744073709551615 * 18446744073709551615 := Nat.mul_le_mul (by omega) (by omega)
  generalize x * y = p at *
  omega
theorem mod_succ (b k : Nat) : b % 2 ^ (64 * (k + 1)) = dg b k * 2 ^ (64 * k) + b % 2 ^ (64 * k) := lo_succ b k
theorem mul_step {a b i k V c d c' : Nat} (h : V + c * 2 ^ (64 * (i + k)) = a % 2 ^ (64 * i) * b + dg a i * 2 ^ (64 * i) * (b % 2 ^ (64 * k))) (hd : d + 18446744073709551616 * c' = dg a i * dg b k + dg V (i + k) + c) :
    setw V (i + k) d + c' * 2 ^ (64 * (i + (k + 1))) = a % 2 ^ (64 * i) * b + dg a i * 2 ^ (64 * i) * (b % 2 ^ (64 * (k + 1))) := by
  have h1 := setw_val V (i + k) d
  have h2 := congrArg (· * 2 ^ (64 * (i + k))) hd
  simp only [Nat.add_mul] at h2
  rw [mod_succ, Nat.mul_add (dg a i * 2 ^ (64 * i)), show i + (k + 1) = i + k + 1 by omega, pw_succ (i + k)]
  have h3 : dg a i * 2 ^ (64 * i) * (dg b k * 2 ^ (64 * k)) = dg a i * dg b k * 2 ^ (64 * (i + k)) := by
    rw [Nat.mul_add, Nat.pow_add]; simp only [Nat.mul_assoc, Nat.mul_left_comm, Nat.mul_comm]
  have h4 : c' * (18446744073709551616 * 2 ^ (64 * (i + k))) = 18446744073709551616 * c' * 2 ^ (64 * (i + k)) := by rw [← Nat.mul_assoc, Nat.mul_comm c']
  rw [h3, h4]
  generalize dg a i * dg b k * 2 ^ (64 * (i + k)) = t1 at *
  generalize 18446744073709551616 * c' * 2 ^ (64 * (i + k)) = t2 at *
  generalize dg V (i + k) * 2 ^ (64 * (i + k)) = t3 at *
  generalize c * 2 ^ (64 * (i + k)) = t4 at *
  generalize d * 2 ^ (64 * (i + k)) = t5 at *
  generalize dg a i * 2 ^ (64 * i) * (b % 2 ^ (64 * k)) = t6 at *
  omega
theorem setw_lt {y i d n : Nat} (hy : y < 2 ^ (64 * n)) (hd : d < 18446744073709551616) (h : i < n) : setw y i d < 2 ^ (64 * n) := by
  have h1 := setw_val y i d
  obtain ⟨m, rfl⟩ : ∃ m, n = i + 1 + m := ⟨n - (i + 1), by omega⟩
  unfold setw
  have e : 2 ^ (64 * (i + 1 + m)) = 2 ^ (64 * m) * 2 ^ (64 * (i + 1)) := by rw [← Nat.pow_add]; congr 1; omega
  have h2 : y / 2 ^ (64 * (i + 1)) < 2 ^ (64 * m) := by rw [Nat.div_lt_iff_lt_mul (pw_pos _), ← e]; exact hy
  have h3 : (y / 2 ^ (64 * (i + 1)) + 1) * 2 ^ (64 * (i + 1)) ≤ 2 ^ (64 * m) * 2 ^ (64 * (i + 1)) := Nat.mul_le_mul_right _ h2
  rw [Nat.add_mul, Nat.one_mul] at h3
  have h4 : d * 2 ^ (64 * i) + 2 ^ (64 * i) ≤ 2 ^ (64 * (i + 1)) := by rw [pw_succ, ← Nat.succ_mul]; exact Nat.mul_le_mul_right _ hd
  have h5 := Nat.mod_lt y (pw_pos i)
  rw [e]
  omega
theorem mul_row {a b i V c n : Nat} (hb : b < 2 ^ (64 * n)) (hV : V < 2 ^ (64 * (i + n))) (h : V + c * 2 ^ (64 * (i + n)) = a % 2 ^ (64 * i) * b + dg a i * 2 ^ (64 * i) * (b % 2 ^ (64 * n))) : setw V (i + n) c = a % 2 ^ (64 * (i + 1)) * b := by
  have h1 := setw_val V (i + n) c
  rw [dg_big hV (Nat.le_refl _), Nat.zero_mul, Nat.add_zero] at h1
  rw [h1, h, lo_succ, Nat.mod_eq_of_lt hb, Nat.add_mul, Nat.add_comm]
theorem mul_lo_lt {a b i n : Nat} (hb : b < 2 ^ (64 * n)) : a % 2 ^ (64 * i) * b < 2 ^ (64 * (i + n)) := by
  rw [Nat.mul_add, Nat.pow_add]
  have h1 := Nat.mod_lt a (pw_pos i)
  exact Nat.lt_of_le_of_lt (Nat.mul_le_mul_right _ (Nat.le_of_lt h1)) (Nat.mul_lt_mul_of_pos_left hb (pw_pos i))
theorem mul_zero18 (a b : Nat) : Un 18 (a % 2 ^ (64 * 0) * b) = Un 18 0 := by simp [Nat.mod_one]
theorem nat_Mul (a b : Nat) (ha : a < 2 ^ 576) (hb : b < 2 ^ 576) (w0 : World) : Calls Try.prog 143 #[nv a, nv b] w0 fun e w => e = .returned (.agg ((Un 18 (a * b)).map (Sc.den fun _ => 0)).toArray) ∧ Below w0.heap.size w0 w := by
 have hna := nw_le a
 have hnb := nw_le b
 have hbn := nw_lt hb
 refine enter_sx [(0, .agg (U9 a)), (1, .agg (U9 b))] 74 Try.func143 rfl rfl (Nat.le_of_ble_eq_true (by kernel_rfl)) (fun γ => by kernel_rfl) ?_
 intro γ ac hE
 refine sq_t hE [Rw 2 (vP 2 0) [(0, .agg (U9 a))] [] [(2, (.sc (U9 a), 37))], Rw 3 (vP 3 0) [(1, .agg (U9 b))] [] [(3, (.sc (U9 b), 37))], Rw 4 (vP 4 0) [] [] [(4, (.sc (Un 18 0), 194))]] [(2, vP 2 0), (3, vP 3 0), (4, vP 4 0)] [(2, (.sc (U9 a), 37)), (3, (.sc (U9 b), 37)), (4, (.sc (Un 18 0), 194))] ⟨tb, tb, ta zt194, trivial⟩ ?_
 clear hE; intro γ ac wc hE
 refine sq_t hE [Rw 5 (vP 5 0) [] [] [(5, (.sc (Un 18 0), 194))]] [(2, vP 2 0), (3, vP 3 0), (4, vP 4 0), (5, vP 5 0)] [(2, (.sc (U9 a), 37)), (3, (.sc (U9 b), 37)), (4, (.sc (Un 18 0), 194)), (5, (.sc (Un 18 0), 194))] ⟨ta zt194, trivial⟩ ?_
 clear hE; intro γ ac wc hE
 refine sq_t hE [Rw 14 (vI (nw a)) [(2, vP 2 0)] [(2, (.sc (U9 a), 37))], Rw 15 (vI (nw b)) [(3, vP 3 0)] [(3, (.sc (U9 b), 37))], Rw 6 (vI (nw a)) [(14, vI (nw a))], Rw 7 (vI (nw b)) [(15, vI (nw b))]] [(2, vP 2 0), (3, vP 3 0), (4, vP 4 0), (5, vP 5 0), (6, vI (nw a)), (7, vI (nw b))] [(2, (.sc (U9 a), 37)), (3, (.sc (U9 b), 37)), (4, (.sc (Un 18 0), 194)), (5, (.sc (Un 18 0), 194))] ⟨tt fun γ w hk hf hks => nat_used _ a w (hks _ (.head _)), tt fun γ w hk hf hks => nat_used _ b w (hks _ (.head _)), tp, tp, trivial⟩ ?_
 clear hE; intro γ ac wc hE
 refine wp_seq ?_
 refine sq_t hE [Rw 16 (vI (nw a)) [(6, vI (nw a))], Rw 17 (vI 0)] [(2, vP 2 0), (3, vP 3 0), (4, vP 4 0), (5, vP 5 0), (7, vI (nw b)), (16, vI (nw a)), (17, vI 0)] [(2, (.sc (U9 a), 37)), (3, (.sc (U9 b), 37)), (4, (.sc (Un 18 0), 194)), (5, (.sc (Un 18 0), 194))] ⟨tp, tp, trivial⟩ ?_
 clear hE; intro γ ac wc hE
 refine wp_block ?_
 refine loop_sx (σ := Nat) (fun i => nw a - i) (fun i => i ≤ nw a)
     (fun i => [(2, vP 2 0), (3, vP 3 0), (4, vP 4 0), (5, vP 5 0), (7, vI (nw b)), (16, vI (nw a)), (17, vI i)])
     (fun i => [(2, (.sc (U9 a), 37)), (3, (.sc (U9 b), 37)), (4, (.sc (Un 18 0), 194)), (5, (.sc (Un 18 (a % 2 ^ (64 * i) * b)), 194))])
     (0) (by omega) (hE.sub (by kernel_rfl) (by rw [mul_zero18]; kernel_rfl)) ?_
 clear hE; intro i γ ac wc hG hE
 refine sq_t hE [Rw 18 (vB (decide (i < nw a))) [(17, vI i), (16, vI (nw a))]] [(2, vP 2 0), (3, vP 3 0), (4, vP 4 0), (5, vP 5 0), (7, vI (nw b)), (16, vI (nw a)), (17, vI i), (18, vB (decide (i < nw a)))] [(2, (.sc (U9 a), 37)), (3, (.sc (U9 b), 37)), (4, (.sc (Un 18 0), 194)), (5, (.sc (Un 18 (a % 2 ^ (64 * i) * b)), 194))] ⟨tE fun _ => d_lss _ _, trivial⟩ ?_
 clear hE; intro γ ac wc hE
 refine wp_seq ?_
 refine cond_sx hE rfl (fun hb1 => ?_) (fun hb1 => ?_)
 ·
  have hb1p := of_decide_eq_true hb1
  refine wp_skip ?_
  refine then_normal ?_
  refine wp_seq ?_
  refine wp_block ?_
  refine sq_t hE [Rw 19 (vI i) [(17, vI i)], Rw 8 (vI i) [(19, vI i)]] [(2, vP 2 0), (3, vP 3 0), (4, vP 4 0), (5, vP 5 0), (7, vI (nw b)), (8, vI i), (16, vI (nw a)), (17, vI i)] [(2, (.sc (U9 a), 37)), (3, (.sc (U9 b), 37)), (4, (.sc (Un 18 0), 194)), (5, (.sc (Un 18 (a % 2 ^ (64 * i) * b)), 194))] ⟨tp, tp, trivial⟩ ?_
  clear hE; intro γ ac wc hE
  refine sq_t hE [Rw 9 (vW 0)] [(2, vP 2 0), (3, vP 3 0), (4, vP 4 0), (5, vP 5 0), (7, vI (nw b)), (8, vI i), (9, vW 0), (16, vI (nw a)), (17, vI i)] [(2, (.sc (U9 a), 37)), (3, (.sc (U9 b), 37)), (4, (.sc (Un 18 0), 194)), (5, (.sc (Un 18 (a % 2 ^ (64 * i) * b)), 194))] ⟨tp, trivial⟩ ?_
  clear hE; intro γ ac wc hE
  refine wp_seq ?_
  refine sq_t hE [Rw 20 (vI (nw b)) [(7, vI (nw b))], Rw 21 (vI 0)] [(2, vP 2 0), (3, vP 3 0), (4, vP 4 0), (5, vP 5 0), (7, vI (nw b)), (8, vI i), (9, vW 0), (16, vI (nw a)), (17, vI i), (20, vI (nw b)), (21, vI 0)] [(2, (.sc (U9 a), 37)), (3, (.sc (U9 b), 37)), (4, (.sc (Un 18 0), 194)), (5, (.sc (Un 18 (a % 2 ^ (64 * i) * b)), 194))] ⟨tp, tp, trivial⟩ ?_
  clear hE; intro γ ac wc hE
  refine wp_block ?_
  refine loop_sx (σ := Nat × Nat × Nat) (fun (k, V, c) => nw b - k) (fun (k, V, c) => k ≤ nw b ∧ V + c * 2 ^ (64 * (i + k)) = a % 2 ^ (64 * i) * b + dg a i * 2 ^ (64 * i) * (b % 2 ^ (64 * k)) ∧ V < 2 ^ (64 * (i + nw b)) ∧ c < 18446744073709551616)
      (fun (k, V, c) => [(2, vP 2 0), (3, vP 3 0), (4, vP 4 0), (5, vP 5 0), (7, vI (nw b)), (8, vI i), (9, vW c), (16, vI (nw a)), (17, vI i), (20, vI (nw b)), (21, vI k)])
      (fun (k, V, c) => [(2, (.sc (U9 a), 37)), (3, (.sc (U9 b), 37)), (4, (.sc (Un 18 0), 194)), (5, (.sc (Un 18 V), 194))])
      ((0, a % 2 ^ (64 * i) * b, 0)) (⟨Nat.zero_le _, by simp [Nat.mod_one], mul_lo_lt hbn, by decide⟩) (hE.sub (by kernel_rfl) (by kernel_rfl)) ?_
  clear hE; rintro ⟨k, V, c⟩ γ ac wc hG2 hE
  replace hG2 : k ≤ nw b ∧ V + c * 2 ^ (64 * (i + k)) = a % 2 ^ (64 * i) * b + dg a i * 2 ^ (64 * i) * (b % 2 ^ (64 * k)) ∧ V < 2 ^ (64 * (i + nw b)) ∧ c < 18446744073709551616 := hG2
  replace hE : Env _ _ _ w0 (lk [(2, vP 2 0), (3, vP 3 0), (4, vP 4 0), (5, vP 5 0), (7, vI (nw b)), (8, vI i), (9, vW c), (16, vI (nw a)), (17, vI i), (20, vI (nw b)), (21, vI k)]) (lk [(2, (.sc (U9 a), 37)), (3, (.sc (U9 b), 37)), (4, (.sc (Un 18 0), 194)), (5, (.sc (Un 18 V), 194))]) γ ac wc := hE
  refine sq_t hE [Rw 22 (vB (decide (k < nw b))) [(21, vI k), (20, vI (nw b))]] [(2, vP 2 0), (3, vP 3 0), (4, vP 4 0), (5, vP 5 0), (7, vI (nw b)), (8, vI i), (9, vW c), (16, vI (nw a)), (17, vI i), (20, vI (nw b)), (21, vI k), (22, vB (decide (k < nw b)))] [(2, (.sc (U9 a), 37)), (3, (.sc (U9 b), 37)), (4, (.sc (Un 18 0), 194)), (5, (.sc (Un 18 V), 194))] ⟨tE fun _ => d_lss _ _, trivial⟩ ?_
  clear hE; intro γ ac wc hE
  refine wp_seq ?_
  refine cond_sx hE rfl (fun hb2 => ?_) (fun hb2 => ?_)
  ·
   have hb2p := of_decide_eq_true hb2
   refine wp_skip ?_
   refine then_normal ?_
   refine wp_seq ?_
   refine wp_block ?_
   refine sq_t hE [Rw 23 (vI k) [(21, vI k)], Rw 10 (vI k) [(23, vI k)]] [(2, vP 2 0), (3, vP 3 0), (4, vP 4 0), (5, vP 5 0), (7, vI (nw b)), (8, vI i), (9, vW c), (10, vI k), (16, vI (nw a)), (17, vI i), (20, vI (nw b)), (21, vI k)] [(2, (.sc (U9 a), 37)), (3, (.sc (U9 b), 37)), (4, (.sc (Un 18 0), 194)), (5, (.sc (Un 18 V), 194))] ⟨tp, tp, trivial⟩ ?_
   clear hE; intro γ ac wc hE
   refine sq_d hE [Rw 25 (vI i) [(8, vI i)], Rw 26 (vP 2 0) [(2, vP 2 0)], Rw 27 (vP 2 i) [(26, vP 2 0), (25, vI i)], Rw 28 (vW (dg a i)) [(27, vP 2 i)] [(2, (.sc (U9 a), 37))], Rw 29 (vI k) [(10, vI k)], Rw 30 (vP 3 0) [(3, vP 3 0)], Rw 31 (vP 3 k) [(30, vP 3 0), (29, vI k)], Rw 32 (vW (dg b k)) [(31, vP 3 k)] [(3, (.sc (U9 b), 37))], Rw 33 (.two (vW ((dg a i) * (dg b k) / 18446744073709551616)) (vW ((dg a i) * (dg b k) % 18446744073709551616))) [(28, vW (dg a i)), (32, vW (dg b k))], Rw 24 (.two (vW ((dg a i) * (dg b k) / 18446744073709551616)) (vW ((dg a i) * (dg b k) % 18446744073709551616))) [(33, .two (vW ((dg a i) * (dg b k) / 18446744073709551616)) (vW ((dg a i) * (dg b k) % 18446744073709551616)))], Rw 34 (vW ((dg a i) * (dg b k) / 18446744073709551616)) [(24, .two (vW ((dg a i) * (dg b k) / 18446744073709551616)) (vW ((dg a i) * (dg b k) % 18446744073709551616)))], Rw 35 (vW ((dg a i) * (dg b k) % 18446744073709551616)) [(24, .two (vW ((dg a i) * (dg b k) / 18446744073709551616)) (vW ((dg a i) * (dg b k) % 18446744073709551616)))], Rw 11 (vW ((dg a i) * (dg b k) / 18446744073709551616)) [(34, vW ((dg a i) * (dg b k) / 18446744073709551616))], Rw 12 (vW ((dg a i) * (dg b k) % 18446744073709551616)) [(35, vW ((dg a i) * (dg b k) % 18446744073709551616))]] [(2, vP 2 0), (3, vP 3 0), (4, vP 4 0), (5, vP 5 0), (7, vI (nw b)), (8, vI i), (9, vW c), (10, vI k), (11, vW ((dg a i) * (dg b k) / 18446744073709551616)), (12, vW ((dg a i) * (dg b k) % 18446744073709551616)), (16, vI (nw a)), (17, vI i), (20, vI (nw b)), (21, vI k)] [(2, (.sc (U9 a), 37)), (3, (.sc (U9 b), 37)), (4, (.sc (Un 18 0), 194)), (5, (.sc (Un 18 V), 194))] ⟨tp, tp, txa0 ar35, tlU on22, tp, tp, txa0 ar35, tlU on22, tq fun w => mul64 (dg a i) (dg b k) (dg_lt _ _) (dg_lt _ _) w, tp, tp, tp, tp, tp, trivial⟩ ?_
   clear hE; intro γ ac wc hE
   refine sq_t hE [Rw 13 (vW 0)] [(2, vP 2 0), (3, vP 3 0), (4, vP 4 0), (5, vP 5 0), (7, vI (nw b)), (8, vI i), (9, vW c), (10, vI k), (11, vW ((dg a i) * (dg b k) / 18446744073709551616)), (12, vW ((dg a i) * (dg b k) % 18446744073709551616)), (13, vW 0), (16, vI (nw a)), (17, vI i), (20, vI (nw b)), (21, vI k)] [(2, (.sc (U9 a), 37)), (3, (.sc (U9 b), 37)), (4, (.sc (Un 18 0), 194)), (5, (.sc (Un 18 V), 194))] ⟨tp, trivial⟩ ?_
   clear hE; intro γ ac wc hE
   refine sq_t hE [Rw 37 (vW ((dg a i) * (dg b k) % 18446744073709551616)) [(12, vW ((dg a i) * (dg b k) % 18446744073709551616))], Rw 38 (vI i) [(8, vI i)], Rw 39 (vI k) [(10, vI k)], Rw 40 (vI (i + k)) [(38, vI i), (39, vI k)], Rw 41 (vP 5 0) [(5, vP 5 0)], Rw 42 (vP 5 (i + k)) [(41, vP 5 0), (40, vI (i + k))], Rw 43 (vW (dg V (i + k))) [(42, vP 5 (i + k))] [(5, (.sc (Un 18 V), 194))], Rw 44 (.two (vW (((dg a i) * (dg b k) % 18446744073709551616 + dg V (i + k) + 0) % 18446744073709551616)) (vW (((dg a i) * (dg b k) % 18446744073709551616 + dg V (i + k) + 0) / 18446744073709551616))) [(37, vW ((dg a i) * (dg b k) % 18446744073709551616)), (43, vW (dg V (i + k)))], Rw 36 (.two (vW (((dg a i) * (dg b k) % 18446744073709551616 + dg V (i + k) + 0) % 18446744073709551616)) (vW (((dg a i) * (dg b k) % 18446744073709551616 + dg V (i + k) + 0) / 18446744073709551616))) [(44, .two (vW (((dg a i) * (dg b k) % 18446744073709551616 + dg V (i + k) + 0) % 18446744073709551616)) (vW (((dg a i) * (dg b k) % 18446744073709551616 + dg V (i + k) + 0) / 18446744073709551616)))], Rw 45 (vW (((dg a i) * (dg b k) % 18446744073709551616 + dg V (i + k) + 0) % 18446744073709551616)) [(36, .two (vW (((dg a i) * (dg b k) % 18446744073709551616 + dg V (i + k) + 0) % 18446744073709551616)) (vW (((dg a i) * (dg b k) % 18446744073709551616 + dg V (i + k) + 0) / 18446744073709551616)))], Rw 46 (vW (((dg a i) * (dg b k) % 18446744073709551616 + dg V (i + k) + 0) / 18446744073709551616)) [(36, .two (vW (((dg a i) * (dg b k) % 18446744073709551616 + dg V (i + k) + 0) % 18446744073709551616)) (vW (((dg a i) * (dg b k) % 18446744073709551616 + dg V (i + k) + 0) / 18446744073709551616)))], Rw 12 (vW (((dg a i) * (dg b k) % 18446744073709551616 + dg V (i + k) + 0) % 18446744073709551616)) [(45, vW (((dg a i) * (dg b k) % 18446744073709551616 + dg V (i + k) + 0) % 18446744073709551616))], Rw 13 (vW (((dg a i) * (dg b k) % 18446744073709551616 + dg V (i + k) + 0) / 18446744073709551616)) [(46, vW (((dg a i) * (dg b k) % 18446744073709551616 + dg V (i + k) + 0) / 18446744073709551616))]] [(2, vP 2 0), (3, vP 3 0), (4, vP 4 0), (5, vP 5 0), (7, vI (nw b)), (8, vI i), (9, vW c), (10, vI k), (11, vW ((dg a i) * (dg b k) / 18446744073709551616)), (12, vW (((dg a i) * (dg b k) % 18446744073709551616 + dg V (i + k) + 0) % 18446744073709551616)), (13, vW (((dg a i) * (dg b k) % 18446744073709551616 + dg V (i + k) + 0) / 18446744073709551616)), (16, vI (nw a)), (17, vI i), (20, vI (nw b)), (21, vI k)] [(2, (.sc (U9 a), 37)), (3, (.sc (U9 b), 37)), (4, (.sc (Un 18 0), 194)), (5, (.sc (Un 18 V), 194))] ⟨tp, tp, tp, tE fun _ => wi_add, tp, txa0 ar192, tlW on22, t_add64, tp, tp, tp, tp, tp, trivial⟩ ?_
   clear hE; intro γ ac wc hE
   refine sq_t hE [Rw 47 (vW ((dg a i) * (dg b k) / 18446744073709551616)) [(11, vW ((dg a i) * (dg b k) / 18446744073709551616))], Rw 48 (vW (((dg a i) * (dg b k) % 18446744073709551616 + dg V (i + k) + 0) / 18446744073709551616)) [(13, vW (((dg a i) * (dg b k) % 18446744073709551616 + dg V (i + k) + 0) / 18446744073709551616))], Rw 49 (vW ((((dg a i) * (dg b k) / 18446744073709551616) + (((dg a i) * (dg b k) % 18446744073709551616 + dg V (i + k) + 0) / 18446744073709551616)) % 18446744073709551616)) [(47, vW ((dg a i) * (dg b k) / 18446744073709551616)), (48, vW (((dg a i) * (dg b k) % 18446744073709551616 + dg V (i + k) + 0) / 18446744073709551616))], Rw 11 (vW ((((dg a i) * (dg b k) / 18446744073709551616) + (((dg a i) * (dg b k) % 18446744073709551616 + dg V (i + k) + 0) / 18446744073709551616)) % 18446744073709551616)) [(49, vW ((((dg a i) * (dg b k) / 18446744073709551616) + (((dg a i) * (dg b k) % 18446744073709551616 + dg V (i + k) + 0) / 18446744073709551616)) % 18446744073709551616))]] [(2, vP 2 0), (3, vP 3 0), (4, vP 4 0), (5, vP 5 0), (7, vI (nw b)), (8, vI i), (9, vW c), (10, vI k), (11, vW ((((dg a i) * (dg b k) / 18446744073709551616) + (((dg a i) * (dg b k) % 18446744073709551616 + dg V (i + k) + 0) / 18446744073709551616)) % 18446744073709551616)), (12, vW (((dg a i) * (dg b k) % 18446744073709551616 + dg V (i + k) + 0) % 18446744073709551616)), (13, vW (((dg a i) * (dg b k) % 18446744073709551616 + dg V (i + k) + 0) / 18446744073709551616)), (16, vI (nw a)), (17, vI i), (20, vI (nw b)), (21, vI k)] [(2, (.sc (U9 a), 37)), (3, (.sc (U9 b), 37)), (4, (.sc (Un 18 0), 194)), (5, (.sc (Un 18 V), 194))] ⟨tp, tp, tE fun _ => wu_add _ _, tp, trivial⟩ ?_
   clear hE; intro γ ac wc hE
   refine sq_t hE [Rw 51 (vW (((dg a i) * (dg b k) % 18446744073709551616 + dg V (i + k) + 0) % 18446744073709551616)) [(12, vW (((dg a i) * (dg b k) % 18446744073709551616 + dg V (i + k) + 0) % 18446744073709551616))], Rw 52 (vW c) [(9, vW c)], Rw 53 (.two (vW ((((dg a i) * (dg b k) % 18446744073709551616 + dg V (i + k) + 0) % 18446744073709551616 + c + 0) % 18446744073709551616)) (vW ((((dg a i) * (dg b k) % 18446744073709551616 + dg V (i + k) + 0) % 18446744073709551616 + c + 0) / 18446744073709551616))) [(51, vW (((dg a i) * (dg b k) % 18446744073709551616 + dg V (i + k) + 0) % 18446744073709551616)), (52, vW c)], Rw 50 (.two (vW ((((dg a i) * (dg b k) % 18446744073709551616 + dg V (i + k) + 0) % 18446744073709551616 + c + 0) % 18446744073709551616)) (vW ((((dg a i) * (dg b k) % 18446744073709551616 + dg V (i + k) + 0) % 18446744073709551616 + c + 0) / 18446744073709551616))) [(53, .two (vW ((((dg a i) * (dg b k) % 18446744073709551616 + dg V (i + k) + 0) % 18446744073709551616 + c + 0) % 18446744073709551616)) (vW ((((dg a i) * (dg b k) % 18446744073709551616 + dg V (i + k) + 0) % 18446744073709551616 + c + 0) / 18446744073709551616)))], Rw 54 (vW ((((dg a i) * (dg b k) % 18446744073709551616 + dg V (i + k) + 0) % 18446744073709551616 + c + 0) % 18446744073709551616)) [(50, .two (vW ((((dg a i) * (dg b k) % 18446744073709551616 + dg V (i + k) + 0) % 18446744073709551616 + c + 0) % 18446744073709551616)) (vW ((((dg a i) * (dg b k) % 18446744073709551616 + dg V (i + k) + 0) % 18446744073709551616 + c + 0) / 18446744073709551616)))], Rw 55 (vW ((((dg a i) * (dg b k) % 18446744073709551616 + dg V (i + k) + 0) % 18446744073709551616 + c + 0) / 18446744073709551616)) [(50, .two (vW ((((dg a i) * (dg b k) % 18446744073709551616 + dg V (i + k) + 0) % 18446744073709551616 + c + 0) % 18446744073709551616)) (vW ((((dg a i) * (dg b k) % 18446744073709551616 + dg V (i + k) + 0) % 18446744073709551616 + c + 0) / 18446744073709551616)))], Rw 12 (vW ((((dg a i) * (dg b k) % 18446744073709551616 + dg V (i + k) + 0) % 18446744073709551616 + c + 0) % 18446744073709551616)) [(54, vW ((((dg a i) * (dg b k) % 18446744073709551616 + dg V (i + k) + 0) % 18446744073709551616 + c + 0) % 18446744073709551616))], Rw 13 (vW ((((dg a i) * (dg b k) % 18446744073709551616 + dg V (i + k) + 0) % 18446744073709551616 + c + 0) / 18446744073709551616)) [(55, vW ((((dg a i) * (dg b k) % 18446744073709551616 + dg V (i + k) + 0) % 18446744073709551616 + c + 0) / 18446744073709551616))]] [(2, vP 2 0), (3, vP 3 0), (4, vP 4 0), (5, vP 5 0), (7, vI (nw b)), (8, vI i), (9, vW c), (10, vI k), (11, vW ((((dg a i) * (dg b k) / 18446744073709551616) + (((dg a i) * (dg b k) % 18446744073709551616 + dg V (i + k) + 0) / 18446744073709551616)) % 18446744073709551616)), (12, vW ((((dg a i) * (dg b k) % 18446744073709551616 + dg V (i + k) + 0) % 18446744073709551616 + c + 0) % 18446744073709551616)), (13, vW ((((dg a i) * (dg b k) % 18446744073709551616 + dg V (i + k) + 0) % 18446744073709551616 + c + 0) / 18446744073709551616)), (16, vI (nw a)), (17, vI i), (20, vI (nw b)), (21, vI k)] [(2, (.sc (U9 a), 37)), (3, (.sc (U9 b), 37)), (4, (.sc (Un 18 0), 194)), (5, (.sc (Un 18 V), 194))] ⟨tp, tp, t_add64, tp, tp, tp, tp, tp, trivial⟩ ?_
   clear hE; intro γ ac wc hE
   refine rg_t hE [Rw 56 (vI i) [(8, vI i)], Rw 57 (vI k) [(10, vI k)], Rw 58 (vI (i + k)) [(56, vI i), (57, vI k)], Rw 59 (vW ((((dg a i) * (dg b k) % 18446744073709551616 + dg V (i + k) + 0) % 18446744073709551616 + c + 0) % 18446744073709551616)) [(12, vW ((((dg a i) * (dg b k) % 18446744073709551616 + dg V (i + k) + 0) % 18446744073709551616 + c + 0) % 18446744073709551616))], Rw 60 (vW ((((dg a i) * (dg b k) / 18446744073709551616) + (((dg a i) * (dg b k) % 18446744073709551616 + dg V (i + k) + 0) / 18446744073709551616)) % 18446744073709551616)) [(11, vW ((((dg a i) * (dg b k) / 18446744073709551616) + (((dg a i) * (dg b k) % 18446744073709551616 + dg V (i + k) + 0) / 18446744073709551616)) % 18446744073709551616))], Rw 61 (vW ((((dg a i) * (dg b k) % 18446744073709551616 + dg V (i + k) + 0) % 18446744073709551616 + c + 0) / 18446744073709551616)) [(13, vW ((((dg a i) * (dg b k) % 18446744073709551616 + dg V (i + k) + 0) % 18446744073709551616 + c + 0) / 18446744073709551616))], Rw 62 (vW ((((((dg a i) * (dg b k) / 18446744073709551616) + (((dg a i) * (dg b k) % 18446744073709551616 + dg V (i + k) + 0) / 18446744073709551616)) % 18446744073709551616) + ((((dg a i) * (dg b k) % 18446744073709551616 + dg V (i + k) + 0) % 18446744073709551616 + c + 0) / 18446744073709551616)) % 18446744073709551616)) [(60, vW ((((dg a i) * (dg b k) / 18446744073709551616) + (((dg a i) * (dg b k) % 18446744073709551616 + dg V (i + k) + 0) / 18446744073709551616)) % 18446744073709551616)), (61, vW ((((dg a i) * (dg b k) % 18446744073709551616 + dg V (i + k) + 0) % 18446744073709551616 + c + 0) / 18446744073709551616))], Rw 63 (vP 5 0) [(5, vP 5 0)], Rw 64 (vP 5 (i + k)) [(63, vP 5 0), (58, vI (i + k))], Rz [(64, vP 5 (i + k)), (59, vW ((((dg a i) * (dg b k) % 18446744073709551616 + dg V (i + k) + 0) % 18446744073709551616 + c + 0) % 18446744073709551616))] [(5, (.sc (Un 18 V), 194))] [(5, (.sc (Un 18 (setw V (i + k) ((((dg a i) * (dg b k) % 18446744073709551616 + dg V (i + k) + 0) % 18446744073709551616 + c + 0) % 18446744073709551616))), 194))], Rw 9 (vW ((((((dg a i) * (dg b k) / 18446744073709551616) + (((dg a i) * (dg b k) % 18446744073709551616 + dg V (i + k) + 0) / 18446744073709551616)) % 18446744073709551616) + ((((dg a i) * (dg b k) % 18446744073709551616 + dg V (i + k) + 0) % 18446744073709551616 + c + 0) / 18446744073709551616)) % 18446744073709551616)) [(62, vW ((((((dg a i) * (dg b k) / 18446744073709551616) + (((dg a i) * (dg b k) % 18446744073709551616 + dg V (i + k) + 0) / 18446744073709551616)) % 18446744073709551616) + ((((dg a i) * (dg b k) % 18446744073709551616 + dg V (i + k) + 0) % 18446744073709551616 + c + 0) / 18446744073709551616)) % 18446744073709551616))]] [(2, vP 2 0), (3, vP 3 0), (4, vP 4 0), (5, vP 5 0), (7, vI (nw b)), (8, vI i), (9, vW ((((((dg a i) * (dg b k) / 18446744073709551616) + (((dg a i) * (dg b k) % 18446744073709551616 + dg V (i + k) + 0) / 18446744073709551616)) % 18446744073709551616) + ((((dg a i) * (dg b k) % 18446744073709551616 + dg V (i + k) + 0) % 18446744073709551616 + c + 0) / 18446744073709551616)) % 18446744073709551616)), (10, vI k), (11, vW ((((dg a i) * (dg b k) / 18446744073709551616) + (((dg a i) * (dg b k) % 18446744073709551616 + dg V (i + k) + 0) / 18446744073709551616)) % 18446744073709551616)), (12, vW ((((dg a i) * (dg b k) % 18446744073709551616 + dg V (i + k) + 0) % 18446744073709551616 + c + 0) % 18446744073709551616)), (13, vW ((((dg a i) * (dg b k) % 18446744073709551616 + dg V (i + k) + 0) % 18446744073709551616 + c + 0) / 18446744073709551616)), (16, vI (nw a)), (17, vI i), (20, vI (nw b)), (21, vI k)] [(2, (.sc (U9 a), 37)), (3, (.sc (U9 b), 37)), (4, (.sc (Un 18 0), 194)), (5, (.sc (Un 18 (setw V (i + k) ((((dg a i) * (dg b k) % 18446744073709551616 + dg V (i + k) + 0) % 18446744073709551616 + c + 0) % 18446744073709551616))), 194))] ⟨tp, tp, tE fun _ => wi_add, tp, tp, tp, tE fun _ => wu_add _ _, tp, txa0 ar192, tsW sz22 (hdd := (Nat.mod_lt _ (by decide))), tp, trivial⟩ ?_
   clear hE; intro γ ac wc hE
   refine blk_normal ?_
   refine then_normal ?_
   refine rg_t hE [Rw 65 (vI (k + 1)) [(21, vI k)], Rw 21 (vI (k + 1)) [(65, vI (k + 1))]] [(2, vP 2 0), (3, vP 3 0), (4, vP 4 0), (5, vP 5 0), (7, vI (nw b)), (8, vI i), (9, vW ((((((dg a i) * (dg b k) / 18446744073709551616) + (((dg a i) * (dg b k) % 18446744073709551616 + dg V (i + k) + 0) / 18446744073709551616)) % 18446744073709551616) + ((((dg a i) * (dg b k) % 18446744073709551616 + dg V (i + k) + 0) % 18446744073709551616 + c + 0) / 18446744073709551616)) % 18446744073709551616)), (10, vI k), (11, vW ((((dg a i) * (dg b k) / 18446744073709551616) + (((dg a i) * (dg b k) % 18446744073709551616 + dg V (i + k) + 0) / 18446744073709551616)) % 18446744073709551616)), (12, vW ((((dg a i) * (dg b k) % 18446744073709551616 + dg V (i + k) + 0) % 18446744073709551616 + c + 0) % 18446744073709551616)), (13, vW ((((dg a i) * (dg b k) % 18446744073709551616 + dg V (i + k) + 0) % 18446744073709551616 + c + 0) / 18446744073709551616)), (16, vI (nw a)), (17, vI i), (20, vI (nw b)), (21, vI (k + 1))] [(2, (.sc (U9 a), 37)), (3, (.sc (U9 b), 37)), (4, (.sc (Un 18 0), 194)), (5, (.sc (Un 18 (setw V (i + k) ((((dg a i) * (dg b k) % 18446744073709551616 + dg V (i + k) + 0) % 18446744073709551616 + c + 0) % 18446744073709551616))), 194))] ⟨tE fun _ => wi_add, tp, trivial⟩ ?_
   clear hE; intro γ ac wc hE
   refine then_normal ⟨(k + 1, setw V (i + k) ((((dg a i) * (dg b k) % 18446744073709551616 + dg V (i + k) + 0) % 18446744073709551616 + c + 0) % 18446744073709551616), (((((dg a i) * (dg b k) / 18446744073709551616) + (((dg a i) * (dg b k) % 18446744073709551616 + dg V (i + k) + 0) / 18446744073709551616)) % 18446744073709551616) + ((((dg a i) * (dg b k) % 18446744073709551616 + dg V (i + k) + 0) % 18446744073709551616 + c + 0) / 18446744073709551616)) % 18446744073709551616), (by show nw b - (k + 1) < nw b - k; omega), ⟨by omega, mul_step hG2.2.1 (mul_word (dg_lt _ _) (dg_lt _ _) (dg_lt _ _) hG2.2.2.2), setw_lt hG2.2.2.1 (Nat.mod_lt _ (by decide)) (by omega), Nat.mod_lt _ (by decide)⟩, γ, hE.sub (by kernel_rfl) (by kernel_rfl)⟩
  ·
   have hb2p := of_decide_eq_false hb2
   have hkn : k = nw b := by omega
   have hk := hkn ▸ hG2.2.1
   have hV := hG2.2.2.1
   have hc := hG2.2.2.2
   refine wp_exit ?_
   refine then_exit ?_
   refine then_exit ?_
   refine blk_hit ?_
   refine then_normal ?_
   refine rg_t hE [Rw 66 (vI i) [(8, vI i)], Rw 67 (vI (nw b)) [(7, vI (nw b))], Rw 68 (vI (i + (nw b))) [(66, vI i), (67, vI (nw b))], Rw 69 (vW c) [(9, vW c)], Rw 70 (vP 5 0) [(5, vP 5 0)], Rw 71 (vP 5 (i + (nw b))) [(70, vP 5 0), (68, vI (i + (nw b)))], Rz [(71, vP 5 (i + (nw b))), (69, vW c)] [(5, (.sc (Un 18 V), 194))] [(5, (.sc (Un 18 (setw V (i + (nw b)) c)), 194))]] [(2, vP 2 0), (3, vP 3 0), (4, vP 4 0), (5, vP 5 0), (7, vI (nw b)), (8, vI i), (9, vW c), (16, vI (nw a)), (17, vI i), (20, vI (nw b)), (21, vI k)] [(2, (.sc (U9 a), 37)), (3, (.sc (U9 b), 37)), (4, (.sc (Un 18 0), 194)), (5, (.sc (Un 18 (setw V (i + (nw b)) c)), 194))] ⟨tp, tp, tE fun _ => wi_add, tp, tp, txa0 ar192, tsW sz22, trivial⟩ ?_
   clear hE; intro γ ac wc hE
   refine blk_normal ?_
   refine then_normal ?_
   refine rg_t hE [Rw 72 (vI (i + 1)) [(17, vI i)], Rw 17 (vI (i + 1)) [(72, vI (i + 1))]] [(2, vP 2 0), (3, vP 3 0), (4, vP 4 0), (5, vP 5 0), (7, vI (nw b)), (8, vI i), (9, vW c), (16, vI (nw a)), (17, vI (i + 1)), (20, vI (nw b)), (21, vI k)] [(2, (.sc (U9 a), 37)), (3, (.sc (U9 b), 37)), (4, (.sc (Un 18 0), 194)), (5, (.sc (Un 18 (setw V (i + (nw b)) c)), 194))] ⟨tE fun _ => wi_add, tp, trivial⟩ ?_
   clear hE; intro γ ac wc hE
   refine then_normal ⟨i + 1, by omega, by omega, γ, hE.sub (by kernel_rfl) (by rw [← mul_row (c := c) hbn hV hk]; kernel_rfl)⟩
 ·
  have hb1p := of_decide_eq_false hb1
  refine wp_exit ?_
  refine then_exit ?_
  refine then_exit ?_
  refine blk_hit ?_
  refine then_normal ?_
  refine sq_t hE [Rw 73 (.agg (Un 18 (a % 2 ^ (64 * i) * b))) [(5, vP 5 0)] [(5, (.sc (Un 18 (a % 2 ^ (64 * i) * b)), 194))], Rz [(4, vP 4 0), (73, .agg (Un 18 (a % 2 ^ (64 * i) * b)))] [(4, (.sc (Un 18 0), 194))] [(4, (.sc (Un 18 (a % 2 ^ (64 * i) * b)), 194))]] [(2, vP 2 0), (3, vP 3 0), (4, vP 4 0), (5, vP 5 0), (7, vI (nw b)), (16, vI (nw a)), (17, vI i)] [(2, (.sc (U9 a), 37)), (3, (.sc (U9 b), 37)), (4, (.sc (Un 18 (a % 2 ^ (64 * i) * b)), 194)), (5, (.sc (Un 18 (a % 2 ^ (64 * i) * b)), 194))] ⟨tl ag194, ts sz194, trivial⟩ ?_
  clear hE; intro γ ac wc hE
  refine wp_ret ?_
  have hi : i = nw a := by omega
  exact (end1 hE rfl (.cells 4 4 0 194 194 (Un 18 (a % 2 ^ (64 * i) * b)) (Un 18 (a % 2 ^ (64 * i) * b)) rfl rfl ag194 (by kernel_rfl)) (⟨by rw [hi, Nat.mod_eq_of_lt (nw_lt ha)]; rfl, hE.keep.below⟩)).1
end Go.Proofs.Ytddfimfgcfgpbaa
