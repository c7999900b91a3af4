/-
  Bytes of numbers.
-/
import Derived.Test.YtddfimfgcfgpbaaSTf
import Derived.Test.YtddfimfgcfgpbaaSGb
import Derived.Test.YtddfimfgcfgpbaaSWz
namespace Go.Proofs.Ytddfimfgcfgpbaa
open Sx
open Go.RowKit (Below)
set_option exponentiation.threshold 2000
theorem wr_u8m (n : Nat) : Value.int .u8 (IntKind.u8.wrap (n : Int)) = Value.int .u8 ((n % 256 : Nat) : Int) := by
  congr 1
theorem mid8 {z r m : Nat} (hr : r + 8 ≤ m) : z % 2 ^ m / 2 ^ r % 256 = z / 2 ^ r % 256 := by
  obtain ⟨t, ht⟩ : ∃ t, m = r + (8 + t) := ⟨m - r - 8, by omega⟩
  rw [ht, Nat.pow_add 2 r, Nat.mod_mul_right_div_self, Nat.pow_add 2 8, Nat.mod_mul_right_mod]
theorem be32 (x i : Nat) : dg32 x (i / 4) / 2 ^ (i % 4 * 8) &&& 255 = x / 2 ^ (8 * i) % 256 := by
  rw [Nat.and_two_pow_sub_one_eq_mod _ 8, dg32, show (4294967296 : Nat) = 2 ^ 32 from rfl, mid8 (by omega), Nat.div_div_eq_div_mul, ← Nat.pow_add]
  rw [show 32 * (i / 4) + i % 4 * 8 = 8 * i by omega]
theorem be64 (x i : Nat) : dg x (i / 8) / 2 ^ (8 * (i % 8)) % 256 = x / 2 ^ (8 * i) % 256 := by
  rw [dg, mid8 (by omega), Nat.div_div_eq_div_mul, ← Nat.pow_add]
  rw [show 64 * (i / 8) + 8 * (i % 8) = 8 * i by omega]
theorem r1_Bytes {k x n : Nat} (hx : nd x ≤ 1000) (hn : n ≤ 72) (w0 : World) (h1 : Num w0 k x) : Calls Try.prog 27 #[dec k, .int .i64 (n : Int)] w0 fun e w => e = .returned (.tuple #[.string (if bl x ≤ 8 * n then beS x n else ⟨#[]⟩), .bool (decide (bl x ≤ 8 * n))]) ∧ Below w0.heap.size w0 w := by
 refine enter_n [(900, k, (nd x), x)] [(0, vM 900), (1, vI n)] Try.func27 rfl rfl ⟨h1, trivial⟩ ?_
 intro γ ac hE
 replace hE : Env _ _ _ w0 (lk [(0, vM 900), (1, vI n)]) (lk [(900, (.abs (numA x), 0))]) γ ac w0 := hE
 refine sq_t hE [Rw 4 (.s (st (⟨#[]⟩))), Rw 5 (vB false)] [(0, vM 900), (1, vI n), (4, .s (st (⟨#[]⟩))), (5, vB false)] [(900, (.abs (numA x), 0))] ⟨tp, tp, trivial⟩ ?_
 clear hE; intro γ ac wc hE
 refine wp_seq ?_
 rcases Bool.eq_false_or_eq_true (decide (72 < n)) with hb1 | hb1
 ·
  have hb1p := of_decide_eq_true hb1
  exact absurd hb1p (by omega)
 ·
  have hb1p := of_decide_eq_false hb1
  refine sq_t hE [Rw 8 (vI n) [(1, vI n)], Rw 9 (vB false) [(8, vI n)], Rw 10 (vB false) [(9, vB false)], Rw 11 (vI n) [(1, vI n), (10, vB false)], Rw 12 (vB false) [(11, vI n), (10, vB false)], Rw 13 (vB false) [(10, vB false), (12, vB false)], Rw 14 (vB false) [(13, vB false)], Rw 15 (vM 900) [(0, vM 900), (14, vB false)], Rn 16 (vI (bl x)) [(15, vM 900), (14, vB false)] [(900, x)] [], Rw 17 (vI n) [(1, vI n), (14, vB false)], Rw 18 (vI (8 * n)) [(17, vI n), (14, vB false)], Rw 19 (vB (decide (8 * n < bl x))) [(16, vI (bl x)), (18, vI (8 * n)), (14, vB false)], Rw 20 (vB (decide (8 * n < bl x))) [(14, vB false), (19, vB (decide (8 * n < bl x)))]] [(0, vM 900), (1, vI n), (4, .s (st (⟨#[]⟩))), (5, vB false), (20, vB (decide (8 * n < bl x)))] [(900, (.abs (numA x), 0))] ⟨tp, tp, tp, ton tp, ton (tE fun _ => (d_gtr _ _).trans (congrArg Value.bool hb1)), tp, tp, ton tp, ton (tnv fun γ w h => r1_Bits (x := x) (by omega) w h.1), ton tp, ton (tE fun _ => wi_mul), ton (tE fun _ => d_gtr _ _), tp, trivial⟩ ?_
  clear hE; intro γ ac wc hE
  refine cond_sx hE rfl (fun hb2 => ?_) (fun hb2 => ?_)
  ·
   have hb2p := of_decide_eq_true hb2
   refine sq_t hE [Rw 4 (.s (st (⟨#[]⟩))), Rw 5 (vB false)] [(0, vM 900), (1, vI n), (4, .s (st (⟨#[]⟩))), (5, vB false)] [(900, (.abs (numA x), 0))] ⟨tp, tp, trivial⟩ ?_
   clear hE; intro γ ac wc hE
   refine wp_ret ?_
   refine then_ret ?_
   exact (end2 hE rfl (.tmp 4 (.s (st (⟨#[]⟩))) rfl) (.tmp 5 (vB false) rfl) (⟨by rw [if_neg (show ¬ bl x ≤ 8 * n by omega), decide_eq_false (show ¬ bl x ≤ 8 * n by omega)]; rfl, hE.keep.belowN⟩)).1
  ·
   have hb2p := of_decide_eq_false hb2
   refine wp_skip ?_
   refine then_normal ?_
   refine sq_t hE [Rw 21 (vI n) [(1, vI n)], Rw 22 (.s (.sl 22 0 n n)) [(21, vI n)] [] [(22, (.pl (beM x n 0), 5))], Rw 6 (.s (.sl 22 0 n n)) [(22, .s (.sl 22 0 n n))]] [(0, vM 900), (1, vI n), (4, .s (st (⟨#[]⟩))), (5, vB false), (6, .s (.sl 22 0 n n))] [(22, (.pl (beM x n 0), 5)), (900, (.abs (numA x), 0))] ⟨tp, tmkB mk103, tp, trivial⟩ ?_
   clear hE; intro γ ac wc hE
   refine wp_seq ?_
   refine sq_t hE [Rw 7 (vI 0)] [(0, vM 900), (1, vI n), (4, .s (st (⟨#[]⟩))), (5, vB false), (6, .s (.sl 22 0 n n)), (7, vI 0)] [(22, (.pl (beM x n 0), 5)), (900, (.abs (numA x), 0))] ⟨tp, trivial⟩ ?_
   clear hE; intro γ ac wc hE
   refine wp_block ?_
   refine loop_sx (σ := Nat) (fun i => n - i) (fun i => i ≤ n)
       (fun i => [(0, vM 900), (1, vI n), (4, .s (st (⟨#[]⟩))), (5, vB false), (6, .s (.sl 22 0 n n)), (7, vI i)])
       (fun i => [(22, (.pl (beM x n i), 5)), (900, (.abs (numA x), 0))])
       (0) (by omega) (hE.sub (by kernel_rfl) (by kernel_rfl)) ?_
   clear hE; intro i γ ac wc hG hE
   refine wp_seq ?_
   refine sq_t hE [Rw 23 (vI i) [(7, vI i)], Rw 24 (vI n) [(1, vI n)], Rw 25 (vB (decide (i < n))) [(23, vI i), (24, vI n)]] [(0, vM 900), (1, vI n), (4, .s (st (⟨#[]⟩))), (5, vB false), (6, .s (.sl 22 0 n n)), (7, vI i), (25, vB (decide (i < n)))] [(22, (.pl (beM x n i), 5)), (900, (.abs (numA x), 0))] ⟨tp, tp, tE fun _ => d_lss _ _, trivial⟩ ?_
   clear hE; intro γ ac wc hE
   refine cond_sx hE rfl (fun hb3 => ?_) (fun hb3 => ?_)
   ·
    have hb3p := of_decide_eq_true hb3
    refine wp_skip ?_
    refine then_normal ?_
    refine wp_seq ?_
    refine wp_block ?_
    refine rg_t hE [Rw 28 (.s (.sl 22 0 n n)) [(6, .s (.sl 22 0 n n))], Rw 29 (vI n) [(1, vI n)], Rw 30 (vI (n - 1)) [(29, vI n)], Rw 31 (vI i) [(7, vI i)], Rw 32 (vI ((n - 1) - i)) [(30, vI (n - 1)), (31, vI i)], Rw 33 (vM 900) [(0, vM 900)], Rw 34 (vI i) [(7, vI i)], Rw 35 (vI (i / 4)) [(34, vI i)], Rn 36 (vW (dg32 x (i / 4))) [(33, vM 900), (35, vI (i / 4))] [(900, x)] [], Rw 37 (vI i) [(7, vI i)], Rw 38 (vI (i % 4)) [(37, vI i)], Rw 39 (vI ((i % 4) * 8)) [(38, vI (i % 4))], Rw 40 (vW ((dg32 x (i / 4)) / 2 ^ ((i % 4) * 8))) [(36, vW (dg32 x (i / 4))), (39, vI ((i % 4) * 8))], Rw 41 (vW (x / 2 ^ (8 * i) % 256)) [(40, vW ((dg32 x (i / 4)) / 2 ^ ((i % 4) * 8)))], Rw 42 (.s (inN .u8 (x / 2 ^ (8 * i) % 256))) [(41, vW (x / 2 ^ (8 * i) % 256))], Rw 43 (vP 22 ((n - 1) - i)) [(28, .s (.sl 22 0 n n)), (32, vI ((n - 1) - i))], Rz [(43, vP 22 ((n - 1) - i)), (42, .s (inN .u8 (x / 2 ^ (8 * i) % 256)))] [(22, (.pl (beM x n i), 5))] [(22, (.pl (beM x n (i + 1)), 5))]] [(0, vM 900), (1, vI n), (4, .s (st (⟨#[]⟩))), (5, vB false), (6, .s (.sl 22 0 n n)), (7, vI i)] [(22, (.pl (beM x n (i + 1)), 5)), (900, (.abs (numA x), 0))] ⟨tp, tp, tE fun _ => wi_sub, tp, tE fun _ => wi_sub, tp, tp, t_quo_i64, tnv fun γ w h => r1_digit (i := i / 4) (nd_lt _) w h.1, tp, t_rem_i64, tE fun _ => wi_mul, t_shr_u64, trip_bin .and 22 22 (.tmp 40) (.const (.int .u64 ((255 : Nat) : Int))) (.int .u64 (((dg32 x (i / 4)) / 2 ^ ((i % 4) * 8) : Nat) : Int)) (.int .u64 ((255 : Nat) : Int)) (.int .u64 ((x / 2 ^ (8 * i) % 256 : Nat) : Int)) rfl rfl rfl (by kernel_rfl) rfl rfl (fun γ => by kernel_rfl) (fun γ => by kernel_rfl) (fun _ _ => rfl) (fun w => (b_and_u64 _ _ (Nat.lt_of_le_of_lt (Nat.div_le_self _ _) (Nat.lt_trans (dg32_lt _ _) (by decide))) (by decide)).trans (congrArg (fun n : Nat => Result.ok (Value.int .u64 (n : Int)) w) (be32 x i))) (fun γ => rfl), tE fun _ => wr_u8 rfl (Nat.mod_lt _ (by decide)), txs sl103, tsB sz5 (hdd := rfl), trivial⟩ ?_
    clear hE; intro γ ac wc hE
    refine blk_normal ?_
    refine then_normal ?_
    refine rg_t hE [Rw 26 (vI i) [(7, vI i)], Rw 27 (vI (i + 1)) [(26, vI i)], Rw 7 (vI (i + 1)) [(27, vI (i + 1))]] [(0, vM 900), (1, vI n), (4, .s (st (⟨#[]⟩))), (5, vB false), (6, .s (.sl 22 0 n n)), (7, vI (i + 1))] [(22, (.pl (beM x n (i + 1)), 5)), (900, (.abs (numA x), 0))] ⟨tp, tE fun _ => wi_add, tp, trivial⟩ ?_
    clear hE; intro γ ac wc hE
    refine then_normal ⟨i + 1, by omega, by omega, _, hE.sub (by kernel_rfl) (by kernel_rfl)⟩
   ·
    have hb3p := of_decide_eq_false hb3
    refine wp_exit ?_
    refine then_exit ?_
    refine then_exit ?_
    refine blk_hit ?_
    refine then_normal ?_
    refine sq_t hE [Rw 44 (.s (.sl 22 0 n n)) [(6, .s (.sl 22 0 n n))], Rw 45 (.s (st (beS x n))) [(44, .s (.sl 22 0 n n))] [(22, (.pl (beM x n i), 5))], Rw 4 (.s (st (beS x n))) [(45, .s (st (beS x n)))], Rw 5 (vB true)] [(0, vM 900), (1, vI n), (4, .s (st (beS x n))), (5, vB true), (6, .s (.sl 22 0 n n)), (7, vI i)] [(22, (.pl (beM x n i), 5)), (900, (.abs (numA x), 0))] ⟨tp, tcvB cv103, tp, tp, trivial⟩ ?_
    clear hE; intro γ ac wc hE
    refine wp_ret ?_
    exact (end2 hE rfl (.tmp 4 (.s (st (beS x n))) rfl) (.tmp 5 (vB true) rfl) (⟨by rw [if_pos (show bl x ≤ 8 * n by omega), decide_eq_true (show bl x ≤ 8 * n by omega)]; rfl, hE.keep.belowN⟩)).1
theorem nat_Bytes (x n : Nat) (hx : x < 2 ^ 576) (hn : n ≤ 72) (w0 : World) : Calls Try.prog 77 #[nv x, .int .i64 (n : Int)] w0 fun e w => e = .returned (if bl x ≤ 8 * n then .tuple #[.string (beS x n), .int .i64 0] else .tuple #[.string ⟨#[]⟩, .int .i64 101]) ∧ Below w0.heap.size w0 w := by
 have hbl : bl x ≤ 576 := bl_le hx
 refine enter_sx [(0, .agg (U9 x)), (1, vI n)] 47 Try.func77 rfl rfl (Nat.le_of_ble_eq_true (by kernel_rfl)) (fun γ => by kernel_rfl) ?_
 intro γ ac hE
 refine sq_t hE [Rw 2 (vP 2 0) [(0, .agg (U9 x))] [] [(2, (.sc (U9 x), 37))], Rw 4 (.s (st (⟨#[]⟩))), Rw 5 (vI 0)] [(1, vI n), (2, vP 2 0), (4, .s (st (⟨#[]⟩))), (5, vI 0)] [(2, (.sc (U9 x), 37))] ⟨tb, tp, tp, trivial⟩ ?_
 clear hE; intro γ ac wc hE
 refine wp_seq ?_
 rcases Bool.eq_false_or_eq_true (decide (72 < n)) with hb1 | hb1
 ·
  have hb1p := of_decide_eq_true hb1
  exact absurd hb1p (by omega)
 ·
  have hb1p := of_decide_eq_false hb1
  refine sq_t hE [Rw 8 (vI n) [(1, vI n)], Rw 9 (vB false) [(8, vI n)], Rw 10 (vB false) [(9, vB false)], Rw 11 (vI n) [(1, vI n), (10, vB false)], Rw 12 (vB false) [(11, vI n), (10, vB false)], Rw 13 (vB false) [(10, vB false), (12, vB false)], Rw 14 (vB false) [(13, vB false)], Rw 15 (.agg (U9 x)) [(2, vP 2 0), (14, vB false)] [(2, (.sc (U9 x), 37))], Rw 16 (vI (bl x)) [(15, .agg (U9 x)), (14, vB false)], Rw 17 (vI n) [(1, vI n), (14, vB false)], Rw 18 (vI (8 * n)) [(17, vI n), (14, vB false)], Rw 19 (vB (decide (8 * n < bl x))) [(16, vI (bl x)), (18, vI (8 * n)), (14, vB false)], Rw 20 (vB (decide (8 * n < bl x))) [(14, vB false), (19, vB (decide (8 * n < bl x)))]] [(1, vI n), (2, vP 2 0), (4, .s (st (⟨#[]⟩))), (5, vI 0), (20, vB (decide (8 * n < bl x)))] [(2, (.sc (U9 x), 37))] ⟨tp, tp, tp, ton tp, ton (tE fun _ => (d_gtr _ _).trans (congrArg Value.bool hb1)), tp, tp, ton (tl ag37), ton (tq fun w => nat_Bits x hx w), ton tp, ton (tE fun _ => wi_mul), ton (tE fun _ => d_gtr _ _), tp, trivial⟩ ?_
  clear hE; intro γ ac wc hE
  refine cond_sx hE rfl (fun hb2 => ?_) (fun hb2 => ?_)
  ·
   have hb2p := of_decide_eq_true hb2
   refine sq_t hE [Rw 4 (.s (st (⟨#[]⟩))), Rw 5 (vI 101)] [(1, vI n), (2, vP 2 0), (4, .s (st (⟨#[]⟩))), (5, vI 101)] [(2, (.sc (U9 x), 37))] ⟨tp, tp, trivial⟩ ?_
   clear hE; intro γ ac wc hE
   refine wp_ret ?_
   refine then_ret ?_
   exact (end2 hE rfl (.tmp 4 (.s (st (⟨#[]⟩))) rfl) (.tmp 5 (vI 101) rfl) (⟨by rw [if_neg (show ¬ bl x ≤ 8 * n by omega)]; rfl, hE.keep.below⟩)).1
  ·
   have hb2p := of_decide_eq_false hb2
   refine wp_skip ?_
   refine then_normal ?_
   refine sq_t hE [Rw 21 (vI n) [(1, vI n)], Rw 22 (.s (.sl 22 0 n n)) [(21, vI n)] [] [(22, (.pl (beM x n 0), 5))], Rw 6 (.s (.sl 22 0 n n)) [(22, .s (.sl 22 0 n n))]] [(1, vI n), (2, vP 2 0), (4, .s (st (⟨#[]⟩))), (5, vI 0), (6, .s (.sl 22 0 n n))] [(2, (.sc (U9 x), 37)), (22, (.pl (beM x n 0), 5))] ⟨tp, tmkB mk103, tp, trivial⟩ ?_
   clear hE; intro γ ac wc hE
   refine wp_seq ?_
   refine sq_t hE [Rw 23 (.s (.sl 22 0 n n)) [(6, .s (.sl 22 0 n n))], Rw 24 (vI n) [(23, .s (.sl 22 0 n n))], Rw 25 (vI 0)] [(1, vI n), (2, vP 2 0), (4, .s (st (⟨#[]⟩))), (5, vI 0), (6, .s (.sl 22 0 n n)), (24, vI n), (25, vI 0)] [(2, (.sc (U9 x), 37)), (22, (.pl (beM x n 0), 5))] ⟨tp, tp, tp, trivial⟩ ?_
   clear hE; intro γ ac wc hE
   refine wp_block ?_
   refine loop_sx (σ := Nat) (fun i => n - i) (fun i => i ≤ n)
       (fun i => [(1, vI n), (2, vP 2 0), (4, .s (st (⟨#[]⟩))), (5, vI 0), (6, .s (.sl 22 0 n n)), (24, vI n), (25, vI i)])
       (fun i => [(2, (.sc (U9 x), 37)), (22, (.pl (beM x n i), 5))])
       (0) (by omega) (hE.sub (by kernel_rfl) (by kernel_rfl)) ?_
   clear hE; intro i γ ac wc hG hE
   refine sq_t hE [Rw 26 (vB (decide (i < n))) [(25, vI i), (24, vI n)]] [(1, vI n), (2, vP 2 0), (4, .s (st (⟨#[]⟩))), (5, vI 0), (6, .s (.sl 22 0 n n)), (24, vI n), (25, vI i), (26, vB (decide (i < n)))] [(2, (.sc (U9 x), 37)), (22, (.pl (beM x n i), 5))] ⟨tE fun _ => d_lss _ _, trivial⟩ ?_
   clear hE; intro γ ac wc hE
   refine wp_seq ?_
   refine cond_sx hE rfl (fun hb3 => ?_) (fun hb3 => ?_)
   ·
    have hb3p := of_decide_eq_true hb3
    refine wp_skip ?_
    refine then_normal ?_
    refine wp_seq ?_
    refine wp_block ?_
    refine sq_t hE [Rw 27 (vI i) [(25, vI i)], Rw 7 (vI i) [(27, vI i)]] [(1, vI n), (2, vP 2 0), (4, .s (st (⟨#[]⟩))), (5, vI 0), (6, .s (.sl 22 0 n n)), (7, vI i), (24, vI n), (25, vI i)] [(2, (.sc (U9 x), 37)), (22, (.pl (beM x n i), 5))] ⟨tp, tp, trivial⟩ ?_
    clear hE; intro γ ac wc hE
    refine rg_t hE [Rw 28 (.s (.sl 22 0 n n)) [(6, .s (.sl 22 0 n n))], Rw 29 (vI n) [(1, vI n)], Rw 30 (vI (n - 1)) [(29, vI n)], Rw 31 (vI i) [(7, vI i)], Rw 32 (vI ((n - 1) - i)) [(30, vI (n - 1)), (31, vI i)], Rw 33 (vI i) [(7, vI i)], Rw 34 (vI (i / 8)) [(33, vI i)], Rw 35 (vP 2 0) [(2, vP 2 0)], Rw 36 (vP 2 (i / 8)) [(35, vP 2 0), (34, vI (i / 8))], Rw 37 (vW (dg x (i / 8))) [(36, vP 2 (i / 8))] [(2, (.sc (U9 x), 37))], Rw 38 (vI i) [(7, vI i)], Rw 39 (vI (i % 8)) [(38, vI i)], Rw 40 (vI (8 * (i % 8))) [(39, vI (i % 8))], Rw 41 (vW ((dg x (i / 8)) / 2 ^ (8 * (i % 8)))) [(37, vW (dg x (i / 8))), (40, vI (8 * (i % 8)))], Rw 42 (.s (inN .u8 (dg x (i / 8) / 2 ^ (8 * (i % 8)) % 256))) [(41, vW ((dg x (i / 8)) / 2 ^ (8 * (i % 8))))], Rw 43 (vP 22 ((n - 1) - i)) [(28, .s (.sl 22 0 n n)), (32, vI ((n - 1) - i))], Rz [(43, vP 22 ((n - 1) - i)), (42, .s (inN .u8 (dg x (i / 8) / 2 ^ (8 * (i % 8)) % 256)))] [(22, (.pl (beM x n i), 5))] [(22, (.pl (beM x n (i + 1)), 5))]] [(1, vI n), (2, vP 2 0), (4, .s (st (⟨#[]⟩))), (5, vI 0), (6, .s (.sl 22 0 n n)), (24, vI n), (25, vI i)] [(2, (.sc (U9 x), 37)), (22, (.pl (beM x n (i + 1)), 5))] ⟨tp, tp, tE fun _ => wi_sub, tp, tE fun _ => wi_sub, tp, t_quo_i64, tp, txa0 ar35, tlU on22, tp, t_rem_i64, tE fun _ => wi_mul, t_shr_u64, tE (x := .int .u8 (IntKind.u8.wrap ((dg x (i / 8) / 2 ^ (8 * (i % 8)) : Nat) : Int))) fun _ => wr_u8m _, txs sl103, tsB sz5 (hdd := (be64 x i)), trivial⟩ ?_
    clear hE; intro γ ac wc hE
    refine blk_normal ?_
    refine then_normal ?_
    refine rg_t hE [Rw 44 (vI (i + 1)) [(25, vI i)], Rw 25 (vI (i + 1)) [(44, vI (i + 1))]] [(1, vI n), (2, vP 2 0), (4, .s (st (⟨#[]⟩))), (5, vI 0), (6, .s (.sl 22 0 n n)), (24, vI n), (25, vI (i + 1))] [(2, (.sc (U9 x), 37)), (22, (.pl (beM x n (i + 1)), 5))] ⟨tE fun _ => wi_add, tp, trivial⟩ ?_
    clear hE; intro γ ac wc hE
    refine then_normal ⟨i + 1, by omega, by omega, _, hE.sub (by kernel_rfl) (by kernel_rfl)⟩
   ·
    have hb3p := of_decide_eq_false hb3
    refine wp_exit ?_
    refine then_exit ?_
    refine then_exit ?_
    refine blk_hit ?_
    refine then_normal ?_
    refine sq_t hE [Rw 45 (.s (.sl 22 0 n n)) [(6, .s (.sl 22 0 n n))], Rw 46 (.s (st (beS x n))) [(45, .s (.sl 22 0 n n))] [(22, (.pl (beM x n i), 5))], Rw 4 (.s (st (beS x n))) [(46, .s (st (beS x n)))], Rw 5 (vI 0)] [(1, vI n), (2, vP 2 0), (4, .s (st (beS x n))), (5, vI 0), (6, .s (.sl 22 0 n n)), (24, vI n), (25, vI i)] [(2, (.sc (U9 x), 37)), (22, (.pl (beM x n i), 5))] ⟨tp, tcvB cv103, tp, tp, trivial⟩ ?_
    clear hE; intro γ ac wc hE
    refine wp_ret ?_
    exact (end2 hE rfl (.tmp 4 (.s (st (beS x n))) rfl) (.tmp 5 (vI 0) rfl) (⟨by rw [if_pos (show bl x ≤ 8 * n by omega)]; rfl, hE.keep.below⟩)).1
end Go.Proofs.Ytddfimfgcfgpbaa
