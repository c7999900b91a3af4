/-
  Numbers of bytes; small numbers.
-/
import Derived.Test.YtddfimfgcfgpbaaSTf
import Derived.Test.YtddfimfgcfgpbaaSGc
namespace Go.Proofs.Ytddfimfgcfgpbaa
open Sx
open Go.RowKit (Below)
set_option exponentiation.threshold 2000
def bsum (s : ByteArray) : Nat → Nat
  | 0 => 0
  | i + 1 => bsum s i + byt s (s.size - 1 - i) * 2 ^ (8 * i)
def ofS (s : ByteArray) : Nat := bsum s s.size
def ofM (s : ByteArray) : Nat → Nat
  | 0 => 0
  | i + 1 => setw (ofM s i) (i / 8) (dg (ofM s i) (i / 8) ||| byt s (s.size - 1 - i) * 2 ^ (8 * (i % 8)) % 18446744073709551616)
theorem bsum_lt (s : ByteArray) : ∀ i, bsum s i < 2 ^ (8 * i)
  | 0 => Nat.one_pos
  | i + 1 => by
    have h := bsum_lt s i
    have hb := byt_lt s (s.size - 1 - i)
    rw [bsum, Nat.mul_succ, Nat.pow_add, Nat.mul_comm (2 ^ (8 * i))]
    have : byt s (s.size - 1 - i) * 2 ^ (8 * i) ≤ 255 * 2 ^ (8 * i) := Nat.mul_le_mul_right _ (by omega)
    omega
theorem byte_or {y b r : Nat} (hy : y < 2 ^ (8 * r)) (hb : b < 256) (hr : r < 8) : y ||| b * 2 ^ (8 * r) % 18446744073709551616 = y + b * 2 ^ (8 * r) := by
  have h1 : b * 2 ^ (8 * r) < 18446744073709551616 := by
    have h2 : b * 2 ^ (8 * r) < 256 * 2 ^ (8 * r) := Nat.mul_lt_mul_of_pos_right hb (Nat.pow_pos (by decide))
    have h3 : 256 * 2 ^ (8 * r) ≤ 2 ^ 64 := by
      rw [show 256 = 2 ^ 8 from rfl, ← Nat.pow_add]
      exact Nat.pow_le_pow_right (by decide) (by omega)
    omega
  rw [Nat.mod_eq_of_lt h1, Nat.or_comm, Nat.mul_comm, ← Nat.two_pow_add_eq_or_of_lt hy, Nat.add_comm]
theorem ofM_eq (s : ByteArray) : ∀ i, ofM s i = bsum s i
  | 0 => rfl
  | i + 1 => by
    have h := bsum_lt s i
    have hb := byt_lt s (s.size - 1 - i)
    rw [ofM, ofM_eq s i, bsum]
    have e1 : dg (bsum s i) (i / 8) = bsum s i / 2 ^ (64 * (i / 8)) := by
      rw [dg, Nat.mod_eq_of_lt]
      rw [Nat.div_lt_iff_lt_mul (Nat.pow_pos (by decide)), ← Nat.pow_add]
      exact Nat.lt_of_lt_of_le h (Nat.pow_le_pow_right (by decide) (by omega))
    have e2 : dg (bsum s i) (i / 8) < 2 ^ (8 * (i % 8)) := by
      rw [e1, Nat.div_lt_iff_lt_mul (Nat.pow_pos (by decide)), ← Nat.pow_add]
      rw [show 8 * (i % 8) + 64 * (i / 8) = 8 * i by omega]; exact h
    rw [byte_or e2 hb (Nat.mod_lt _ (by decide))]
    have h3 := setw_val (bsum s i) (i / 8) (dg (bsum s i) (i / 8) + byt s (s.size - 1 - i) * 2 ^ (8 * (i % 8)))
    rw [Nat.add_mul, Nat.mul_assoc, ← Nat.pow_add, show 8 * (i % 8) + 64 * (i / 8) = 8 * i by omega] at h3
    omega
theorem ofM_lt {s : ByteArray} {i : Nat} (h : i ≤ 72) : ofM s i < 2 ^ 576 := by
  rw [ofM_eq]; exact Nat.lt_of_lt_of_le (bsum_lt s i) (Nat.pow_le_pow_right (by decide) (by omega))
theorem ofS_lt {s : ByteArray} (h : s.size ≤ 72) : ofS s < 2 ^ 576 := by
  rw [ofS, ← ofM_eq]; exact ofM_lt h
theorem nat_Of (s : ByteArray) (hs : s.size ≤ 72) (w0 : World) : Calls Try.prog 74 #[.string s] w0 fun e w => e = .returned (.tuple #[nv (ofS s), .int .i64 0]) ∧ Below w0.heap.size w0 w := by
 refine enter_sx [(0, .s (st s))] 39 Try.func74 rfl rfl (Nat.le_of_ble_eq_true (by kernel_rfl)) (fun γ => by kernel_rfl) ?_
 intro γ ac hE
 refine sq_t hE [Rw 2 (vP 2 0) [] [] [(2, (.sc (U9 0), 37))], Rw 3 (vI 0)] [(0, .s (st s)), (2, vP 2 0), (3, vI 0)] [(2, (.sc (U9 0), 37))] ⟨ta zt37, tp, trivial⟩ ?_
 clear hE; intro γ ac wc hE
 refine wp_seq ?_
 refine sq_t hE [Rw 7 (.s (st s)) [(0, .s (st s))], Rw 8 (vI s.size) [(7, .s (st s))], Rw 9 (vB (decide (72 < s.size))) [(8, vI s.size)]] [(0, .s (st s)), (2, vP 2 0), (3, vI 0), (9, vB (decide (72 < s.size)))] [(2, (.sc (U9 0), 37))] ⟨tp, tp, tE fun _ => d_gtr _ _, trivial⟩ ?_
 clear hE; intro γ ac wc hE
 refine cond_sx hE rfl (fun hb1 => ?_) (fun hb1 => ?_)
 ·
  have hb1p := of_decide_eq_true hb1
  exact absurd hb1p (by omega)
 ·
  have hb1p := of_decide_eq_false hb1
  refine wp_skip ?_
  refine then_normal ?_
  refine sq_t hE [Rw 4 (vP 4 0) [] [] [(4, (.sc (U9 0), 37))]] [(0, .s (st s)), (2, vP 2 0), (3, vI 0), (4, vP 4 0)] [(2, (.sc (U9 0), 37)), (4, (.sc (U9 0), 37))] ⟨ta zt37, trivial⟩ ?_
  clear hE; intro γ ac wc hE
  refine wp_seq ?_
  refine sq_t hE [Rw 11 (.s (st s)) [(0, .s (st s))], Rw 12 (vI s.size) [(11, .s (st s))], Rw 13 (vI 0)] [(0, .s (st s)), (2, vP 2 0), (3, vI 0), (4, vP 4 0), (12, vI s.size), (13, vI 0)] [(2, (.sc (U9 0), 37)), (4, (.sc (U9 0), 37))] ⟨tp, tp, tp, trivial⟩ ?_
  clear hE; intro γ ac wc hE
  refine wp_block ?_
  refine loop_sx (σ := Nat) (fun i => s.size - i) (fun i => i ≤ s.size)
      (fun i => [(0, .s (st s)), (2, vP 2 0), (3, vI 0), (4, vP 4 0), (12, vI s.size), (13, vI i)])
      (fun i => [(2, (.sc (U9 0), 37)), (4, (.sc (U9 (ofM s i)), 37))])
      (0) (by omega) (hE.sub (by kernel_rfl) (by kernel_rfl)) ?_
  clear hE; intro i γ ac wc hG hE
  refine sq_t hE [Rw 14 (vB (decide (i < s.size))) [(13, vI i), (12, vI s.size)]] [(0, .s (st s)), (2, vP 2 0), (3, vI 0), (4, vP 4 0), (12, vI s.size), (13, vI i), (14, vB (decide (i < s.size)))] [(2, (.sc (U9 0), 37)), (4, (.sc (U9 (ofM s i)), 37))] ⟨tE fun _ => d_lss _ _, trivial⟩ ?_
  clear hE; intro γ ac wc hE
  refine wp_seq ?_
  refine cond_sx hE rfl (fun hb2 => ?_) (fun hb2 => ?_)
  ·
   have hb2p := of_decide_eq_true hb2
   refine wp_skip ?_
   refine then_normal ?_
   refine wp_seq ?_
   refine wp_block ?_
   refine sq_t hE [Rw 15 (vI i) [(13, vI i)], Rw 5 (vI i) [(15, vI i)]] [(0, .s (st s)), (2, vP 2 0), (3, vI 0), (4, vP 4 0), (5, vI i), (12, vI s.size), (13, vI i)] [(2, (.sc (U9 0), 37)), (4, (.sc (U9 (ofM s i)), 37))] ⟨tp, tp, trivial⟩ ?_
   clear hE; intro γ ac wc hE
   refine sq_t hE [Rw 16 (.s (st s)) [(0, .s (st s))], Rw 17 (vI s.size) [(16, .s (st s))], Rw 18 (vI (s.size - 1)) [(17, vI s.size)], Rw 19 (vI i) [(5, vI i)], Rw 20 (vI ((s.size - 1) - i)) [(18, vI (s.size - 1)), (19, vI i)], Rw 6 (vI ((s.size - 1) - i)) [(20, vI ((s.size - 1) - i))]] [(0, .s (st s)), (2, vP 2 0), (3, vI 0), (4, vP 4 0), (5, vI i), (6, vI ((s.size - 1) - i)), (12, vI s.size), (13, vI i)] [(2, (.sc (U9 0), 37)), (4, (.sc (U9 (ofM s i)), 37))] ⟨tp, tp, tE fun _ => wi_sub, tp, tE fun _ => wi_sub, tp, trivial⟩ ?_
   clear hE; intro γ ac wc hE
   have hby := byt_lt s (s.size - 1 - i)
   refine rg_d hE [Rw 21 (vI i) [(5, vI i)], Rw 22 (vI (i / 8)) [(21, vI i)], Rw 23 (vP 4 0) [(4, vP 4 0)], Rw 24 (vP 4 (i / 8)) [(23, vP 4 0), (22, vI (i / 8))], Rw 25 (vW (dg (ofM s i) (i / 8))) [(24, vP 4 (i / 8))] [(4, (.sc (U9 (ofM s i)), 37))], Rw 26 (.s (st s)) [(0, .s (st s))], Rw 27 (vI ((s.size - 1) - i)) [(6, vI ((s.size - 1) - i))], Rw 28 (.s (inN .u8 (byt s ((s.size - 1) - i)))) [(26, .s (st s)), (27, vI ((s.size - 1) - i))], Rw 29 (vW (byt s ((s.size - 1) - i))) [(28, .s (inN .u8 (byt s ((s.size - 1) - i))))], Rw 30 (vI i) [(5, vI i)], Rw 31 (vI (i % 8)) [(30, vI i)], Rw 32 (vI (8 * (i % 8))) [(31, vI (i % 8))], Rw 33 (vW ((byt s ((s.size - 1) - i)) * 2 ^ (8 * (i % 8)) % 18446744073709551616)) [(29, vW (byt s ((s.size - 1) - i))), (32, vI (8 * (i % 8)))], Rw 34 (vW ((dg (ofM s i) (i / 8)) ||| ((byt s ((s.size - 1) - i)) * 2 ^ (8 * (i % 8)) % 18446744073709551616))) [(25, vW (dg (ofM s i) (i / 8))), (33, vW ((byt s ((s.size - 1) - i)) * 2 ^ (8 * (i % 8)) % 18446744073709551616))], Rw 35 (vP 4 0) [(4, vP 4 0)], Rw 36 (vP 4 (i / 8)) [(35, vP 4 0), (22, vI (i / 8))], Rz [(36, vP 4 (i / 8)), (34, vW ((dg (ofM s i) (i / 8)) ||| ((byt s ((s.size - 1) - i)) * 2 ^ (8 * (i % 8)) % 18446744073709551616)))] [(4, (.sc (U9 (ofM s i)), 37))] [(4, (.sc (U9 (setw (ofM s i) (i / 8) ((dg (ofM s i) (i / 8)) ||| ((byt s ((s.size - 1) - i)) * 2 ^ (8 * (i % 8)) % 18446744073709551616)))), 37))]] [(0, .s (st s)), (2, vP 2 0), (3, vI 0), (4, vP 4 0), (5, vI i), (12, vI s.size), (13, vI i)] [(2, (.sc (U9 0), 37)), (4, (.sc (U9 (setw (ofM s i) (i / 8) ((dg (ofM s i) (i / 8)) ||| ((byt s ((s.size - 1) - i)) * 2 ^ (8 * (i % 8)) % 18446744073709551616)))), 37))] ⟨tp, t_quo_i64, tp, txa0 ar35, tlU on22, tp, tp, tix str9, tE fun _ => wr_u64 rfl (by omega), tp, t_rem_i64, tE fun _ => wi_mul, t_shl_u64, t_or_u64 (ha := (dg_lt _ _)) (hb := (Nat.mod_lt _ (by decide))), tp, txa0 ar35, tsU sz22 (hdd := (or_lt (dg_lt _ _) (Nat.mod_lt _ (by decide)))), trivial⟩ ?_
   clear hE; intro γ ac wc hE
   refine blk_normal ?_
   refine then_normal ?_
   refine rg_t hE [Rw 37 (vI (i + 1)) [(13, vI i)], Rw 13 (vI (i + 1)) [(37, vI (i + 1))]] [(0, .s (st s)), (2, vP 2 0), (3, vI 0), (4, vP 4 0), (5, vI i), (12, vI s.size), (13, vI (i + 1))] [(2, (.sc (U9 0), 37)), (4, (.sc (U9 (setw (ofM s i) (i / 8) ((dg (ofM s i) (i / 8)) ||| ((byt s ((s.size - 1) - i)) * 2 ^ (8 * (i % 8)) % 18446744073709551616)))), 37))] ⟨tE fun _ => wi_add, tp, trivial⟩ ?_
   clear hE; intro γ ac wc hE
   refine then_normal ⟨i + 1, by omega, by omega, _, hE.sub (by kernel_rfl) (by kernel_rfl)⟩
  ·
   have hb2p := of_decide_eq_false hb2
   refine wp_exit ?_
   refine then_exit ?_
   refine then_exit ?_
   refine blk_hit ?_
   refine then_normal ?_
   refine sq_t hE [Rw 38 (.agg (U9 (ofM s i))) [(4, vP 4 0)] [(4, (.sc (U9 (ofM s i)), 37))], Rz [(2, vP 2 0), (38, .agg (U9 (ofM s i)))] [(2, (.sc (U9 0), 37))] [(2, (.sc (U9 (ofM s i)), 37))], Rw 3 (vI 0)] [(0, .s (st s)), (2, vP 2 0), (3, vI 0), (4, vP 4 0), (12, vI s.size), (13, vI i)] [(2, (.sc (U9 (ofM s i)), 37)), (4, (.sc (U9 (ofM s i)), 37))] ⟨tl ag37, ts sz37, tp, trivial⟩ ?_
   clear hE; intro γ ac wc hE
   refine wp_ret ?_
   have hi : i = s.size := by omega
   exact (end2 hE rfl (.cells 2 2 0 37 37 (U9 (ofM s i)) (U9 (ofM s i)) rfl rfl ag37 (by kernel_rfl)) (.tmp 3 (vI 0) rfl) (⟨by rw [ofS, ← ofM_eq, ← hi]; rfl, hE.keep.below⟩)).1
theorem one_set {x : Nat} (hx : x < 18446744073709551616) : U9 x = [inN .u64 x, inN .u64 0, inN .u64 0, inN .u64 0, inN .u64 0, inN .u64 0, inN .u64 0, inN .u64 0, inN .u64 0] := by
  have h0 : dg x 0 = x := by unfold dg; rw [Nat.mul_zero, Nat.pow_zero, Nat.div_one, Nat.mod_eq_of_lt hx]
  have h1 : ∀ i, 0 < i → dg x i = 0 := fun i hi => by
    unfold dg
    rw [Nat.div_eq_of_lt (Nat.lt_of_lt_of_le hx (by rw [show (18446744073709551616 : Nat) = 2 ^ 64 from rfl]; exact Nat.pow_le_pow_right (by decide) (by omega)))]
  unfold U9
  rw [h0, h1 1 (by decide), h1 2 (by decide), h1 3 (by decide), h1 4 (by decide), h1 5 (by decide), h1 6 (by decide), h1 7 (by decide), h1 8 (by decide)]
theorem law_One (x : Nat) (hx : x < 18446744073709551616) (w0 : World) : Calls Try.prog 24 #[.int .u64 (x : Int)] w0 fun e w => e = .returned (nv x) ∧ Below w0.heap.size w0 w := by
 refine enter_sx [(0, vW x)] 8 Try.func24 rfl rfl (Nat.le_of_ble_eq_true (by kernel_rfl)) (fun γ => by kernel_rfl) ?_
 intro γ ac hE
 refine sq_t hE [Rw 2 (vP 2 0) [] [] [(2, (.sc (U9 0), 37))]] [(0, vW x), (2, vP 2 0)] [(2, (.sc (U9 0), 37))] ⟨ta zt37, trivial⟩ ?_
 clear hE; intro γ ac wc hE
 refine sq_t hE [Rw 3 (vP 3 0) [] [] [(3, (.sc (U9 0), 37))]] [(0, vW x), (2, vP 2 0), (3, vP 3 0)] [(2, (.sc (U9 0), 37)), (3, (.sc (U9 0), 37))] ⟨ta zt37, trivial⟩ ?_
 clear hE; intro γ ac wc hE
 refine sq_t hE [Rw 4 (vW x) [(0, vW x)], Rw 5 (vP 3 0) [(3, vP 3 0)], Rw 6 (vP 3 0) [(5, vP 3 0)], Rz [(6, vP 3 0), (4, vW x)] [(3, (.sc (U9 0), 37))] [(3, (.sc (U9 x), 37))]] [(2, vP 2 0), (3, vP 3 0)] [(2, (.sc (U9 0), 37)), (3, (.sc (U9 x), 37))] ⟨tp, tp, tp, trip_store 6 3 0 22 (.tmp 4) (.sc (U9 0), 37) [(wN x)] (U9 x) rfl rfl rfl rfl rfl rfl rfl (by kernel_rfl) (fun γ => by kernel_rfl) rfl sz22 (Nat.le_of_ble_eq_true (by kernel_rfl)) (by kernel_rfl) (by rw [one_set hx]; kernel_rfl), trivial⟩ ?_
 clear hE; intro γ ac wc hE
 refine sq_t hE [Rw 7 (.agg (U9 x)) [(3, vP 3 0)] [(3, (.sc (U9 x), 37))], Rz [(2, vP 2 0), (7, .agg (U9 x))] [(2, (.sc (U9 0), 37))] [(2, (.sc (U9 x), 37))]] [(2, vP 2 0), (3, vP 3 0)] [(2, (.sc (U9 x), 37)), (3, (.sc (U9 x), 37))] ⟨tl ag37, ts sz37, trivial⟩ ?_
 clear hE; intro γ ac wc hE
 refine wp_ret ?_
 exact (end1 hE rfl (.cells 2 2 0 37 37 (U9 x) (U9 x) rfl rfl ag37 (by kernel_rfl)) (⟨rfl, hE.keep.below⟩)).1
theorem law_Num (x : Int) (w0 : World) : Calls Try.prog 32 #[.int .i64 x] w0 fun e w => e = .returned (.int .i64 x) ∧ Below w0.heap.size w0 w := by
 refine enter_sx [(0, .s (inI .i64 x))] 4 Try.func32 rfl rfl (Nat.le_of_ble_eq_true (by kernel_rfl)) (fun γ => by kernel_rfl) ?_
 intro γ ac hE
 refine sq_t hE [Rw 2 (vI 0)] [(0, .s (inI .i64 x)), (2, vI 0)] [] ⟨tp, trivial⟩ ?_
 clear hE; intro γ ac wc hE
 refine sq_t hE [Rw 3 (.s (inI .i64 x)) [(0, .s (inI .i64 x))], Rw 2 (.s (inI .i64 x)) [(3, .s (inI .i64 x))]] [(2, .s (inI .i64 x))] [] ⟨tp, tp, trivial⟩ ?_
 clear hE; intro γ ac wc hE
 refine wp_ret ?_
 exact (end1 hE rfl (.tmp 2 (.s (inI .i64 x)) rfl) (⟨rfl, hE.keep.below⟩)).1
end Go.Proofs.Ytddfimfgcfgpbaa
