/-
  nat.Small, nat.Bits, nat.Bit, nat.Shr.
-/
import Derived.Test.YtddfimfgcfgpbaaSTf
import Derived.Test.YtddfimfgcfgpbaaSNb
import Derived.Test.YtddfimfgcfgpbaaSWp
import Derived.Test.YtddfimfgcfgpbaaSWm
namespace Go.Proofs.Ytddfimfgcfgpbaa
open Sx
open Go.RowKit (Below)
set_option exponentiation.threshold 2000
theorem dg_le (x i : Nat) : dg x i ≤ 18446744073709551615 := Nat.le_of_lt_succ (dg_lt x i)
theorem len64 (x : Nat) (h : x ≤ 18446744073709551615) (w : World) : Calls Try.prog 130 #[.int .u64 x] w fun e w' => e = .returned (.int .i64 (Lib.bitLen x : Nat)) ∧ Below w.heap.size w w' :=
  (Try.bits_Len64 (x : Int) w (by omega) (by omega)).mono fun _ _ ⟨h1, h2⟩ => ⟨h1, by rw [h2]; exact Below.refl _ _⟩
theorem mul64 (x y : Nat) (hx : x < 18446744073709551616) (hy : y < 18446744073709551616) (w : World) : Calls Try.prog 149 #[.int .u64 x, .int .u64 y] w fun e w' => e = .returned (.tuple #[.int .u64 ((x * y / 18446744073709551616 : Nat) : Int), .int .u64 ((x * y % 18446744073709551616 : Nat) : Int)]) ∧ Below w.heap.size w w' :=
  (Try.bits_Mul64 x y hx hy w).mono fun _ _ ⟨h1, h2⟩ => ⟨h1, by rw [h2]; exact Below.refl _ _⟩
theorem U9_small {x : Nat} (h : x < 18446744073709551616) : U9 x = [inN .u64 x, inN .u64 (dg 0 1), inN .u64 (dg 0 2), inN .u64 (dg 0 3), inN .u64 (dg 0 4), inN .u64 (dg 0 5), inN .u64 (dg 0 6), inN .u64 (dg 0 7), inN .u64 (dg 0 8)] := by
  have e : ∀ j, 0 < j → dg x j = dg 0 j := fun j hj => by rw [dg_big (n := 1) (by simpa using h) hj, dg_big (n := 1) (a := 0) (by decide) hj]
  have e0 : dg x 0 = x := by simp [dg, Nat.mod_eq_of_lt h]
  unfold U9
  rw [e0, e 1 (by decide), e 2 (by decide), e 3 (by decide), e 4 (by decide), e 5 (by decide), e 6 (by decide), e 7 (by decide), e 8 (by decide)]
theorem and1_lt (x : Nat) : x &&& 1 < 9223372036854775808 := by rw [Nat.and_one_is_mod]; omega
theorem setw_setw (y i c d : Nat) (hc : c < 18446744073709551616) (hd : d < 18446744073709551616) : U9 (setw (setw y i c) i d) = U9 (setw y i d) :=
  U9_congr (fun j _ => by rw [dg_setw _ _ _ _ hd, dg_setw _ _ _ _ hd, dg_setw _ _ _ _ hc]; split <;> rfl)
theorem dg_setw_self (y i d : Nat) (hd : d < 18446744073709551616) : dg (setw y i d) i = d := by rw [dg_setw _ _ _ _ hd, if_pos rfl]
theorem shr_lt (x i r : Nat) : dg x i / 2 ^ r < 18446744073709551616 := Nat.lt_of_le_of_lt (Nat.div_le_self _ _) (dg_lt _ _)
theorem or_lt {a b : Nat} (ha : a < 18446744073709551616) (hb : b < 18446744073709551616) : a ||| b < 18446744073709551616 := Nat.or_lt_two_pow (n := 64) ha hb
theorem shr_step1 {a q r i : Nat} (ha : a < 2 ^ 576) (hr : r < 64) (h : ¬ i + q + 1 < 9) : dg a (i + q) / 2 ^ r = dg (a / 2 ^ (64 * q + r)) i := by
  have := shr_word a q r i hr
  rw [dg_big (n := 9) (i := i + q + 1) ha (by omega), Nat.zero_mul, Nat.zero_mod, Nat.or_zero] at this
  exact this
theorem shr_end {a k i : Nat} (ha : a < 2 ^ 576) (h : i = 9 - k / 64) : U9 (mixw (a / 2 ^ k) 0 i) = U9 (a / 2 ^ k) := U9_congr (fun j hj => by
  rw [dg_mixw]
  split
  · rfl
  · rw [dg_big (n := 0) (a := 0) (by decide) (Nat.zero_le _)]
    unfold dg
    rw [Nat.div_div_eq_div_mul, ← Nat.pow_add, Nat.div_eq_of_lt]
    exact Nat.lt_of_lt_of_le ha (Nat.pow_le_pow_right (by decide) (by omega)))
theorem nat_Small (x : Nat) (hx : x < 9223372036854775808) (w0 : World) : Calls Try.prog 104 #[.int .i64 x] w0 fun e w => e = .returned (nv x) ∧ Below w0.heap.size w0 w := by
 refine enter_sx [(0, vI x)] 8 Try.func104 rfl rfl (Nat.le_of_ble_eq_true (by kernel_rfl)) (fun γ => by kernel_rfl) ?_
 intro γ ac hE
 refine sq_t hE [Rw 2 (vP 2 0) [] [] [(2, (.sc (U9 0), 37))]] [(0, vI x), (2, vP 2 0)] [(2, (.sc (U9 0), 37))] ⟨ta zt37, trivial⟩ ?_
 clear hE; intro γ ac wc hE
 refine sq_t hE [Rw 3 (vI x) [(0, vI x)], Rw 4 (vI x) [(3, vI x)], Rw 5 (vW x) [(4, vI x)], Rw 6 (.agg [(wN x), (wN (dg 0 1)), (wN (dg 0 2)), (wN (dg 0 3)), (wN (dg 0 4)), (wN (dg 0 5)), (wN (dg 0 6)), (wN (dg 0 7)), (wN (dg 0 8))]) [(5, vW x)], Rw 7 (.agg [(wN x), (wN (dg 0 1)), (wN (dg 0 2)), (wN (dg 0 3)), (wN (dg 0 4)), (wN (dg 0 5)), (wN (dg 0 6)), (wN (dg 0 7)), (wN (dg 0 8))]) [(6, .agg [(wN x), (wN (dg 0 1)), (wN (dg 0 2)), (wN (dg 0 3)), (wN (dg 0 4)), (wN (dg 0 5)), (wN (dg 0 6)), (wN (dg 0 7)), (wN (dg 0 8))])], Rz [(2, vP 2 0), (7, .agg [(wN x), (wN (dg 0 1)), (wN (dg 0 2)), (wN (dg 0 3)), (wN (dg 0 4)), (wN (dg 0 5)), (wN (dg 0 6)), (wN (dg 0 7)), (wN (dg 0 8))])] [(2, (.sc (U9 0), 37))] [(2, (.sc [(wN x), (wN (dg 0 1)), (wN (dg 0 2)), (wN (dg 0 3)), (wN (dg 0 4)), (wN (dg 0 5)), (wN (dg 0 6)), (wN (dg 0 7)), (wN (dg 0 8))], 37))]] [(2, vP 2 0)] [(2, (.sc [(wN x), (wN (dg 0 1)), (wN (dg 0 2)), (wN (dg 0 3)), (wN (dg 0 4)), (wN (dg 0 5)), (wN (dg 0 6)), (wN (dg 0 7)), (wN (dg 0 8))], 37))] ⟨tp, tp, tE fun _ => wr_u64 rfl (by omega), tp, tp, ts sz37, trivial⟩ ?_
 clear hE; intro γ ac wc hE
 refine wp_ret ?_
 exact (end1 hE rfl (.cells 2 2 0 37 37 [(wN x), (wN (dg 0 1)), (wN (dg 0 2)), (wN (dg 0 3)), (wN (dg 0 4)), (wN (dg 0 5)), (wN (dg 0 6)), (wN (dg 0 7)), (wN (dg 0 8))] [(wN x), (wN (dg 0 1)), (wN (dg 0 2)), (wN (dg 0 3)), (wN (dg 0 4)), (wN (dg 0 5)), (wN (dg 0 6)), (wN (dg 0 7)), (wN (dg 0 8))] rfl rfl ag37 (by kernel_rfl)) (⟨by rw [nv, U9_small (by omega)]; rfl, hE.keep.below⟩)).1
theorem nat_Bits (a : Nat) (ha : a < 2 ^ 576) (w0 : World) : Calls Try.prog 105 #[nv a] w0 fun e w => e = .returned (.int .i64 (bl a : Nat)) ∧ Below w0.heap.size w0 w := by
 have hna := nw_le a
 have hlb : ∀ x i, Lib.bitLen (dg x i) ≤ 64 := fun x i => Lib.bitLen_le _ 64 (by decide) (dg_lt _ _)
 have hlb1 := hlb a (nw a - 1)
 refine enter_sx [(0, .agg (U9 a))] 17 Try.func105 rfl rfl (Nat.le_of_ble_eq_true (by kernel_rfl)) (fun γ => by kernel_rfl) ?_
 intro γ ac hE
 refine sq_t hE [Rw 1 (vP 1 0) [(0, .agg (U9 a))] [] [(1, (.sc (U9 a), 37))], Rw 2 (vI 0)] [(1, vP 1 0), (2, vI 0)] [(1, (.sc (U9 a), 37))] ⟨tb, tp, trivial⟩ ?_
 clear hE; intro γ ac wc hE
 refine sq_t hE [Rw 4 (vI (nw a)) [(1, vP 1 0)] [(1, (.sc (U9 a), 37))], Rw 3 (vI (nw a)) [(4, vI (nw a))]] [(1, vP 1 0), (2, vI 0), (3, vI (nw a))] [(1, (.sc (U9 a), 37))] ⟨tt fun γ w hk hf hks => nat_used _ a w (hks _ (.head _)), tp, trivial⟩ ?_
 clear hE; intro γ ac wc hE
 refine wp_seq ?_
 refine sq_t hE [Rw 5 (vI (nw a)) [(3, vI (nw a))], Rw 6 (vB (decide (nw a = 0))) [(5, vI (nw a))]] [(1, vP 1 0), (2, vI 0), (3, vI (nw a)), (6, vB (decide (nw a = 0)))] [(1, (.sc (U9 a), 37))] ⟨tp, tE fun _ => d_eql _ _, trivial⟩ ?_
 clear hE; intro γ ac wc hE
 refine cond_sx hE rfl (fun hb1 => ?_) (fun hb1 => ?_)
 ·
  have hb1p := of_decide_eq_true hb1
  refine sq_t hE [Rw 2 (vI 0)] [(1, vP 1 0), (2, vI 0), (3, vI (nw a))] [(1, (.sc (U9 a), 37))] ⟨tp, trivial⟩ ?_
  clear hE; intro γ ac wc hE
  refine wp_ret ?_
  refine then_ret ?_
  exact (end1 hE rfl (.tmp 2 (vI 0) rfl) (⟨by rw [(nw_zero ha).1 hb1p]; rfl, hE.keep.below⟩)).1
 ·
  have hb1p := of_decide_eq_false hb1
  refine wp_skip ?_
  refine then_normal ?_
  refine sq_t hE [Rw 7 (vI (nw a)) [(3, vI (nw a))], Rw 8 (vI ((nw a) - 1)) [(7, vI (nw a))], Rw 9 (vI (((nw a) - 1) * 64)) [(8, vI ((nw a) - 1))], Rw 10 (vI (nw a)) [(3, vI (nw a))], Rw 11 (vI ((nw a) - 1)) [(10, vI (nw a))], Rw 12 (vP 1 0) [(1, vP 1 0)], Rw 13 (vP 1 ((nw a) - 1)) [(12, vP 1 0), (11, vI ((nw a) - 1))], Rw 14 (vW (dg a ((nw a) - 1))) [(13, vP 1 ((nw a) - 1))] [(1, (.sc (U9 a), 37))], Rw 15 (vI (Lib.bitLen (dg a ((nw a) - 1)))) [(14, vW (dg a ((nw a) - 1)))], Rw 16 (vI ((((nw a) - 1) * 64) + (Lib.bitLen (dg a ((nw a) - 1))))) [(9, vI (((nw a) - 1) * 64)), (15, vI (Lib.bitLen (dg a ((nw a) - 1))))], Rw 2 (vI ((((nw a) - 1) * 64) + (Lib.bitLen (dg a ((nw a) - 1))))) [(16, vI ((((nw a) - 1) * 64) + (Lib.bitLen (dg a ((nw a) - 1)))))]] [(1, vP 1 0), (2, vI ((((nw a) - 1) * 64) + (Lib.bitLen (dg a ((nw a) - 1))))), (3, vI (nw a))] [(1, (.sc (U9 a), 37))] ⟨tp, tE fun _ => wi_sub, tE fun _ => wi_mul, tp, tE fun _ => wi_sub, tp, txa0 ar35, tlU on22, tq fun w => len64 (dg a ((nw a) - 1)) (dg_le _ _) w, tE fun _ => wi_add, tp, trivial⟩ ?_
  clear hE; intro γ ac wc hE
  refine wp_ret ?_
  exact (end1 hE rfl (.tmp 2 (vI ((((nw a) - 1) * 64) + (Lib.bitLen (dg a ((nw a) - 1))))) rfl) (⟨by rw [show (((nw a) - 1) * 64) + (Lib.bitLen (dg a ((nw a) - 1))) = bl a from bl_nw ha hb1p]; rfl, hE.keep.below⟩)).1
theorem nat_Bit (a i : Nat) (ha : a < 2 ^ 576) (hi : i < 9223372036854775808) (w0 : World) : Calls Try.prog 78 #[nv a, .int .i64 i] w0 fun e w => e = .returned (.int .i64 (a / 2 ^ i % 2 : Nat)) ∧ Below w0.heap.size w0 w := by
 refine enter_sx [(0, .agg (U9 a)), (1, vI i)] 21 Try.func78 rfl rfl (Nat.le_of_ble_eq_true (by kernel_rfl)) (fun γ => by kernel_rfl) ?_
 intro γ ac hE
 refine sq_t hE [Rw 2 (vP 2 0) [(0, .agg (U9 a))] [] [(2, (.sc (U9 a), 37))], Rw 4 (vI 0)] [(1, vI i), (2, vP 2 0), (4, vI 0)] [(2, (.sc (U9 a), 37))] ⟨tb, tp, trivial⟩ ?_
 clear hE; intro γ ac wc hE
 refine wp_seq ?_
 refine sq_t hE [Rw 5 (vI i) [(1, vI i)], Rw 6 (vB false) [(5, vI i)], Rw 7 (vB false) [(6, vB false)], Rw 8 (vI i) [(1, vI i), (7, vB false)], Rw 9 (vB (decide (576 ≤ i))) [(8, vI i), (7, vB false)], Rw 10 (vB (decide (576 ≤ i))) [(7, vB false), (9, vB (decide (576 ≤ i)))]] [(1, vI i), (2, vP 2 0), (4, vI 0), (10, vB (decide (576 ≤ i)))] [(2, (.sc (U9 a), 37))] ⟨tp, tp, tp, ton tp, ton (tE fun _ => d_geq _ _), tp, trivial⟩ ?_
 clear hE; intro γ ac wc hE
 refine cond_sx hE rfl (fun hb1 => ?_) (fun hb1 => ?_)
 ·
  have hb1p := of_decide_eq_true hb1
  refine sq_t hE [Rw 4 (vI 0)] [(1, vI i), (2, vP 2 0), (4, vI 0)] [(2, (.sc (U9 a), 37))] ⟨tp, trivial⟩ ?_
  clear hE; intro γ ac wc hE
  refine wp_ret ?_
  refine then_ret ?_
  exact (end1 hE rfl (.tmp 4 (vI 0) rfl) (⟨by rw [bit_big ha (by assumption)]; rfl, hE.keep.below⟩)).1
 ·
  have hb1p := of_decide_eq_false hb1
  refine wp_skip ?_
  refine then_normal ?_
  refine sq_t hE [Rw 11 (vI i) [(1, vI i)], Rw 12 (vI (i / 64)) [(11, vI i)], Rw 13 (vP 2 0) [(2, vP 2 0)], Rw 14 (vP 2 (i / 64)) [(13, vP 2 0), (12, vI (i / 64))], Rw 15 (vW (dg a (i / 64))) [(14, vP 2 (i / 64))] [(2, (.sc (U9 a), 37))], Rw 16 (vI i) [(1, vI i)], Rw 17 (vI (i % 64)) [(16, vI i)], Rw 18 (vW ((dg a (i / 64)) / 2 ^ (i % 64))) [(15, vW (dg a (i / 64))), (17, vI (i % 64))], Rw 19 (vW (((dg a (i / 64)) / 2 ^ (i % 64)) &&& 1)) [(18, vW ((dg a (i / 64)) / 2 ^ (i % 64)))], Rw 20 (vI (((dg a (i / 64)) / 2 ^ (i % 64)) &&& 1)) [(19, vW (((dg a (i / 64)) / 2 ^ (i % 64)) &&& 1))], Rw 4 (vI (((dg a (i / 64)) / 2 ^ (i % 64)) &&& 1)) [(20, vI (((dg a (i / 64)) / 2 ^ (i % 64)) &&& 1))]] [(1, vI i), (4, vI (((dg a (i / 64)) / 2 ^ (i % 64)) &&& 1))] [(2, (.sc (U9 a), 37))] ⟨tp, t_quo_i64, tp, txa0 ar35, tlU on22, tp, t_rem_i64, t_shr_u64, t_and_u64 (ha := (Nat.lt_of_le_of_lt (Nat.div_le_self _ _) (dg_lt _ _))), tE fun _ => wr_i64 rfl (and1_lt _), tp, trivial⟩ ?_
  clear hE; intro γ ac wc hE
  refine wp_ret ?_
  exact (end1 hE rfl (.tmp 4 (vI (((dg a (i / 64)) / 2 ^ (i % 64)) &&& 1)) rfl) (⟨by rw [show ((dg a (i / 64)) / 2 ^ (i % 64)) &&& 1 = a / 2 ^ i % 2 from bit_dg a i]; rfl, hE.keep.below⟩)).1
theorem nat_Shr (a k : Nat) (ha : a < 2 ^ 576) (hk : k ≤ 576) (w0 : World) : Calls Try.prog 140 #[nv a, .int .i64 k] w0 fun e w => e = .returned (.tuple #[nv (a / 2 ^ k), .int .i64 0]) ∧ Below w0.heap.size w0 w := by
 refine enter_sx [(0, .agg (U9 a)), (1, vI k)] 61 Try.func140 rfl rfl (Nat.le_of_ble_eq_true (by kernel_rfl)) (fun γ => by kernel_rfl) ?_
 intro γ ac hE
 refine sq_t hE [Rw 2 (vP 2 0) [(0, .agg (U9 a))] [] [(2, (.sc (U9 a), 37))], Rw 4 (vP 4 0) [] [] [(4, (.sc (U9 0), 37))], Rw 5 (vI 0)] [(1, vI k), (2, vP 2 0), (4, vP 4 0), (5, vI 0)] [(2, (.sc (U9 a), 37)), (4, (.sc (U9 0), 37))] ⟨tb, ta zt37, tp, trivial⟩ ?_
 clear hE; intro γ ac wc hE
 refine wp_seq ?_
 refine sq_t hE [Rw 10 (vI k) [(1, vI k)], Rw 11 (vB false) [(10, vI k)], Rw 12 (vB false) [(11, vB false)], Rw 13 (vI k) [(1, vI k), (12, vB false)], Rw 14 (vB (decide (576 < k))) [(13, vI k), (12, vB false)], Rw 15 (vB (decide (576 < k))) [(12, vB false), (14, vB (decide (576 < k)))]] [(1, vI k), (2, vP 2 0), (4, vP 4 0), (5, vI 0), (15, vB (decide (576 < k)))] [(2, (.sc (U9 a), 37)), (4, (.sc (U9 0), 37))] ⟨tp, tp, tp, ton tp, ton (tE fun _ => d_gtr _ _), tp, trivial⟩ ?_
 clear hE; intro γ ac wc hE
 refine cond_sx hE rfl (fun hb1 => ?_) (fun hb1 => ?_)
 ·
  have hb1p := of_decide_eq_true hb1
  exact absurd hb1p (by omega)
 ·
  have hb1p := of_decide_eq_false hb1
  refine wp_skip ?_
  refine then_normal ?_
  refine sq_t hE [Rw 6 (vP 6 0) [] [] [(6, (.sc (U9 0), 37))]] [(1, vI k), (2, vP 2 0), (4, vP 4 0), (5, vI 0), (6, vP 6 0)] [(2, (.sc (U9 a), 37)), (4, (.sc (U9 0), 37)), (6, (.sc (U9 0), 37))] ⟨ta zt37, trivial⟩ ?_
  clear hE; intro γ ac wc hE
  refine sq_t hE [Rw 17 (vI k) [(1, vI k)], Rw 18 (vI (k / 64)) [(17, vI k)], Rw 19 (vI k) [(1, vI k)], Rw 20 (vI (k % 64)) [(19, vI k)], Rw 7 (vI (k / 64)) [(18, vI (k / 64))], Rw 8 (vI (k % 64)) [(20, vI (k % 64))]] [(1, vI k), (2, vP 2 0), (4, vP 4 0), (5, vI 0), (6, vP 6 0), (7, vI (k / 64)), (8, vI (k % 64))] [(2, (.sc (U9 a), 37)), (4, (.sc (U9 0), 37)), (6, (.sc (U9 0), 37))] ⟨tp, t_quo_i64, tp, t_rem_i64, tp, tp, trivial⟩ ?_
  clear hE; intro γ ac wc hE
  refine wp_seq ?_
  refine sq_t hE [Rw 21 (vI (k / 64)) [(7, vI (k / 64))], Rw 22 (vI (9 - (k / 64))) [(21, vI (k / 64))], Rw 23 (vI 0)] [(1, vI k), (2, vP 2 0), (4, vP 4 0), (5, vI 0), (6, vP 6 0), (7, vI (k / 64)), (8, vI (k % 64)), (22, vI (9 - (k / 64))), (23, vI 0)] [(2, (.sc (U9 a), 37)), (4, (.sc (U9 0), 37)), (6, (.sc (U9 0), 37))] ⟨tp, tE fun _ => wi_sub, tp, trivial⟩ ?_
  clear hE; intro γ ac wc hE
  refine wp_block ?_
  refine loop_sx (σ := Nat) (fun i => 9 - k / 64 - i) (fun i => i ≤ 9 - k / 64)
      (fun i => [(1, vI k), (2, vP 2 0), (4, vP 4 0), (5, vI 0), (6, vP 6 0), (7, vI (k / 64)), (8, vI (k % 64)), (22, vI (9 - (k / 64))), (23, vI i)])
      (fun i => [(2, (.sc (U9 a), 37)), (4, (.sc (U9 0), 37)), (6, (.sc (U9 (mixw (a / 2 ^ k) 0 i)), 37))])
      (0) (by omega) (hE.sub (by kernel_rfl) (by rw [← U9_mix0]; kernel_rfl)) ?_
  clear hE; intro i γ ac wc hG hE
  refine sq_t hE [Rw 24 (vB (decide (i < 9 - (k / 64)))) [(23, vI i), (22, vI (9 - (k / 64)))]] [(1, vI k), (2, vP 2 0), (4, vP 4 0), (5, vI 0), (6, vP 6 0), (7, vI (k / 64)), (8, vI (k % 64)), (22, vI (9 - (k / 64))), (23, vI i), (24, vB (decide (i < 9 - (k / 64))))] [(2, (.sc (U9 a), 37)), (4, (.sc (U9 0), 37)), (6, (.sc (U9 (mixw (a / 2 ^ k) 0 i)), 37))] ⟨tE fun _ => d_lss _ _, trivial⟩ ?_
  clear hE; intro γ ac wc hE
  refine wp_seq ?_
  refine cond_sx hE rfl (fun hb2 => ?_) (fun hb2 => ?_)
  ·
   have hb2p := of_decide_eq_true hb2
   refine wp_skip ?_
   refine then_normal ?_
   refine wp_seq ?_
   refine wp_block ?_
   refine sq_t hE [Rw 25 (vI i) [(23, vI i)], Rw 9 (vI i) [(25, vI i)]] [(1, vI k), (2, vP 2 0), (4, vP 4 0), (5, vI 0), (6, vP 6 0), (7, vI (k / 64)), (8, vI (k % 64)), (9, vI i), (22, vI (9 - (k / 64))), (23, vI i)] [(2, (.sc (U9 a), 37)), (4, (.sc (U9 0), 37)), (6, (.sc (U9 (mixw (a / 2 ^ k) 0 i)), 37))] ⟨tp, tp, trivial⟩ ?_
   clear hE; intro γ ac wc hE
   refine sq_t hE [Rw 26 (vI i) [(9, vI i)], Rw 27 (vI i) [(9, vI i)], Rw 28 (vI (k / 64)) [(7, vI (k / 64))], Rw 29 (vI (i + (k / 64))) [(27, vI i), (28, vI (k / 64))], Rw 30 (vP 2 0) [(2, vP 2 0)], Rw 31 (vP 2 (i + (k / 64))) [(30, vP 2 0), (29, vI (i + (k / 64)))], Rw 32 (vW (dg a (i + (k / 64)))) [(31, vP 2 (i + (k / 64)))] [(2, (.sc (U9 a), 37))], Rw 33 (vI (k % 64)) [(8, vI (k % 64))], Rw 34 (vW ((dg a (i + (k / 64))) / 2 ^ (k % 64))) [(32, vW (dg a (i + (k / 64)))), (33, vI (k % 64))], Rw 35 (vP 6 0) [(6, vP 6 0)], Rw 36 (vP 6 i) [(35, vP 6 0), (26, vI i)], Rz [(36, vP 6 i), (34, vW ((dg a (i + (k / 64))) / 2 ^ (k % 64)))] [(6, (.sc (U9 (mixw (a / 2 ^ k) 0 i)), 37))] [(6, (.sc (U9 (setw (mixw (a / 2 ^ k) 0 i) i ((dg a (i + (k / 64))) / 2 ^ (k % 64)))), 37))]] [(1, vI k), (2, vP 2 0), (4, vP 4 0), (5, vI 0), (6, vP 6 0), (7, vI (k / 64)), (8, vI (k % 64)), (9, vI i), (22, vI (9 - (k / 64))), (23, vI i)] [(2, (.sc (U9 a), 37)), (4, (.sc (U9 0), 37)), (6, (.sc (U9 (setw (mixw (a / 2 ^ k) 0 i) i ((dg a (i + (k / 64))) / 2 ^ (k % 64)))), 37))] ⟨tp, tp, tp, tE fun _ => wi_add, tp, txa0 ar35, tlU on22, tp, t_shr_u64, tp, txa0 ar35, tsU sz22 (hdd := (shr_lt _ _ _)), trivial⟩ ?_
   clear hE; intro γ ac wc hE
   refine sq_t hE [Rw 37 (vI i) [(9, vI i)], Rw 38 (vI (k / 64)) [(7, vI (k / 64))], Rw 39 (vI (i + (k / 64))) [(37, vI i), (38, vI (k / 64))], Rw 40 (vI ((i + (k / 64)) + 1)) [(39, vI (i + (k / 64)))], Rw 41 (vB (decide ((i + (k / 64)) + 1 < 9))) [(40, vI ((i + (k / 64)) + 1))]] [(1, vI k), (2, vP 2 0), (4, vP 4 0), (5, vI 0), (6, vP 6 0), (7, vI (k / 64)), (8, vI (k % 64)), (9, vI i), (22, vI (9 - (k / 64))), (23, vI i), (41, vB (decide ((i + (k / 64)) + 1 < 9)))] [(2, (.sc (U9 a), 37)), (4, (.sc (U9 0), 37)), (6, (.sc (U9 (setw (mixw (a / 2 ^ k) 0 i) i ((dg a (i + (k / 64))) / 2 ^ (k % 64)))), 37))] ⟨tp, tp, tE fun _ => wi_add, tE fun _ => wi_add, tE fun _ => d_lss _ _, trivial⟩ ?_
   clear hE; intro γ ac wc hE
   refine cond_sx hE rfl (fun hb3 => ?_) (fun hb3 => ?_)
   ·
    have hb3p := of_decide_eq_true hb3
    refine rg_d hE [Rw 42 (vI i) [(9, vI i)], Rw 43 (vP 6 0) [(6, vP 6 0)], Rw 44 (vP 6 i) [(43, vP 6 0), (42, vI i)], Rw 45 (vW (dg (setw (mixw (a / 2 ^ k) 0 i) i ((dg a (i + (k / 64))) / 2 ^ (k % 64))) i)) [(44, vP 6 i)] [(6, (.sc (U9 (setw (mixw (a / 2 ^ k) 0 i) i ((dg a (i + (k / 64))) / 2 ^ (k % 64)))), 37))], Rw 46 (vI i) [(9, vI i)], Rw 47 (vI (k / 64)) [(7, vI (k / 64))], Rw 48 (vI (i + (k / 64))) [(46, vI i), (47, vI (k / 64))], Rw 49 (vI ((i + (k / 64)) + 1)) [(48, vI (i + (k / 64)))], Rw 50 (vP 2 0) [(2, vP 2 0)], Rw 51 (vP 2 ((i + (k / 64)) + 1)) [(50, vP 2 0), (49, vI ((i + (k / 64)) + 1))], Rw 52 (vW (dg a ((i + (k / 64)) + 1))) [(51, vP 2 ((i + (k / 64)) + 1))] [(2, (.sc (U9 a), 37))], Rw 53 (vI (k % 64)) [(8, vI (k % 64))], Rw 54 (vI (64 - (k % 64))) [(53, vI (k % 64))], Rw 55 (vW ((dg a ((i + (k / 64)) + 1)) * 2 ^ (64 - (k % 64)) % 18446744073709551616)) [(52, vW (dg a ((i + (k / 64)) + 1))), (54, vI (64 - (k % 64)))], Rw 56 (vW ((dg (setw (mixw (a / 2 ^ k) 0 i) i ((dg a (i + (k / 64))) / 2 ^ (k % 64))) i) ||| ((dg a ((i + (k / 64)) + 1)) * 2 ^ (64 - (k % 64)) % 18446744073709551616))) [(45, vW (dg (setw (mixw (a / 2 ^ k) 0 i) i ((dg a (i + (k / 64))) / 2 ^ (k % 64))) i)), (55, vW ((dg a ((i + (k / 64)) + 1)) * 2 ^ (64 - (k % 64)) % 18446744073709551616))], Rw 57 (vP 6 0) [(6, vP 6 0)], Rw 58 (vP 6 i) [(57, vP 6 0), (42, vI i)], Rz [(58, vP 6 i), (56, vW ((dg (setw (mixw (a / 2 ^ k) 0 i) i ((dg a (i + (k / 64))) / 2 ^ (k % 64))) i) ||| ((dg a ((i + (k / 64)) + 1)) * 2 ^ (64 - (k % 64)) % 18446744073709551616)))] [(6, (.sc (U9 (setw (mixw (a / 2 ^ k) 0 i) i ((dg a (i + (k / 64))) / 2 ^ (k % 64)))), 37))] [(6, (.sc (U9 (setw (setw (mixw (a / 2 ^ k) 0 i) i ((dg a (i + (k / 64))) / 2 ^ (k % 64))) i ((dg (setw (mixw (a / 2 ^ k) 0 i) i ((dg a (i + (k / 64))) / 2 ^ (k % 64))) i) ||| ((dg a ((i + (k / 64)) + 1)) * 2 ^ (64 - (k % 64)) % 18446744073709551616)))), 37))]] [(1, vI k), (2, vP 2 0), (4, vP 4 0), (5, vI 0), (6, vP 6 0), (7, vI (k / 64)), (8, vI (k % 64)), (9, vI i), (22, vI (9 - (k / 64))), (23, vI i)] [(2, (.sc (U9 a), 37)), (4, (.sc (U9 0), 37)), (6, (.sc (U9 (setw (setw (mixw (a / 2 ^ k) 0 i) i ((dg a (i + (k / 64))) / 2 ^ (k % 64))) i ((dg (setw (mixw (a / 2 ^ k) 0 i) i ((dg a (i + (k / 64))) / 2 ^ (k % 64))) i) ||| ((dg a ((i + (k / 64)) + 1)) * 2 ^ (64 - (k % 64)) % 18446744073709551616)))), 37))] ⟨tp, tp, txa0 ar35, tlU on22, tp, tp, tE fun _ => wi_add, tE fun _ => wi_add, tp, txa0 ar35, tlU on22, tp, tE fun _ => wi_sub, t_shl_u64, t_or_u64 (ha := (dg_lt _ _)) (hb := (Nat.mod_lt _ (by decide))), tp, txa0 ar35, tsU sz22 (hdd := (or_lt (dg_lt _ _) (Nat.mod_lt _ (by decide)))), trivial⟩ ?_
    clear hE; intro γ ac wc hE
    refine blk_normal ?_
    refine then_normal ?_
    refine rg_t hE [Rw 59 (vI (i + 1)) [(23, vI i)], Rw 23 (vI (i + 1)) [(59, vI (i + 1))]] [(1, vI k), (2, vP 2 0), (4, vP 4 0), (5, vI 0), (6, vP 6 0), (7, vI (k / 64)), (8, vI (k % 64)), (9, vI i), (22, vI (9 - (k / 64))), (23, vI (i + 1))] [(2, (.sc (U9 a), 37)), (4, (.sc (U9 0), 37)), (6, (.sc (U9 (setw (setw (mixw (a / 2 ^ k) 0 i) i ((dg a (i + (k / 64))) / 2 ^ (k % 64))) i ((dg (setw (mixw (a / 2 ^ k) 0 i) i ((dg a (i + (k / 64))) / 2 ^ (k % 64))) i) ||| ((dg a ((i + (k / 64)) + 1)) * 2 ^ (64 - (k % 64)) % 18446744073709551616)))), 37))] ⟨tE fun _ => wi_add, tp, trivial⟩ ?_
    clear hE; intro γ ac wc hE
    refine then_normal ⟨i + 1, by omega, by omega, γ, hE.sub (by kernel_rfl) (by rw [setw_setw _ _ _ _ (shr_lt _ _ _) (or_lt (dg_lt _ _) (Nat.mod_lt _ (by decide))), ← setw_mixw (s := a / 2 ^ k) (x := 0) (i := i) (d := ((dg (setw (mixw (a / 2 ^ k) 0 i) i ((dg a (i + (k / 64))) / 2 ^ (k % 64))) i) ||| ((dg a ((i + (k / 64)) + 1)) * 2 ^ (64 - (k % 64)) % 18446744073709551616))) (by rw [dg_setw_self _ _ _ (shr_lt _ _ _), shr_word a (k / 64) (k % 64) i (by omega), show 64 * (k / 64) + k % 64 = k by omega])]; kernel_rfl)⟩
   ·
    have hb3p := of_decide_eq_false hb3
    refine wp_skip ?_
    refine blk_normal ?_
    refine then_normal ?_
    refine rg_t hE [Rw 59 (vI (i + 1)) [(23, vI i)], Rw 23 (vI (i + 1)) [(59, vI (i + 1))]] [(1, vI k), (2, vP 2 0), (4, vP 4 0), (5, vI 0), (6, vP 6 0), (7, vI (k / 64)), (8, vI (k % 64)), (9, vI i), (22, vI (9 - (k / 64))), (23, vI (i + 1))] [(2, (.sc (U9 a), 37)), (4, (.sc (U9 0), 37)), (6, (.sc (U9 (setw (mixw (a / 2 ^ k) 0 i) i ((dg a (i + (k / 64))) / 2 ^ (k % 64)))), 37))] ⟨tE fun _ => wi_add, tp, trivial⟩ ?_
    clear hE; intro γ ac wc hE
    refine then_normal ⟨i + 1, by omega, by omega, γ, hE.sub (by kernel_rfl) (by rw [← setw_mixw (s := a / 2 ^ k) (x := 0) (i := i) (d := ((dg a (i + (k / 64))) / 2 ^ (k % 64))) (by rw [shr_step1 ha (by omega) (by assumption), show 64 * (k / 64) + k % 64 = k by omega])]; kernel_rfl)⟩
  ·
   have hb2p := of_decide_eq_false hb2
   refine wp_exit ?_
   refine then_exit ?_
   refine then_exit ?_
   refine blk_hit ?_
   refine then_normal ?_
   refine sq_t hE [Rw 60 (.agg (U9 (mixw (a / 2 ^ k) 0 i))) [(6, vP 6 0)] [(6, (.sc (U9 (mixw (a / 2 ^ k) 0 i)), 37))], Rz [(4, vP 4 0), (60, .agg (U9 (mixw (a / 2 ^ k) 0 i)))] [(4, (.sc (U9 0), 37))] [(4, (.sc (U9 (mixw (a / 2 ^ k) 0 i)), 37))], Rw 5 (vI 0)] [(1, vI k), (2, vP 2 0), (4, vP 4 0), (5, vI 0), (6, vP 6 0), (7, vI (k / 64)), (8, vI (k % 64)), (22, vI (9 - (k / 64))), (23, vI i)] [(2, (.sc (U9 a), 37)), (4, (.sc (U9 (mixw (a / 2 ^ k) 0 i)), 37)), (6, (.sc (U9 (mixw (a / 2 ^ k) 0 i)), 37))] ⟨tl ag37, ts sz37, tp, trivial⟩ ?_
   clear hE; intro γ ac wc hE
   refine wp_ret ?_
   exact (end2 hE rfl (.cells 4 4 0 37 37 (U9 (mixw (a / 2 ^ k) 0 i)) (U9 (mixw (a / 2 ^ k) 0 i)) rfl rfl ag37 (by kernel_rfl)) (.tmp 5 (vI 0) rfl) (⟨by rw [shr_end ha (by omega)]; rfl, hE.keep.below⟩)).1
end Go.Proofs.Ytddfimfgcfgpbaa
