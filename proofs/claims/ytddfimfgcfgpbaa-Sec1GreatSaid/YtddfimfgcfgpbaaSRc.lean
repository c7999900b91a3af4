/-
  Numbers of the references: sums, differences, bits.
-/
import Derived.Test.YtddfimfgcfgpbaaSTf
import Derived.Test.YtddfimfgcfgpbaaSRb
import Derived.Test.YtddfimfgcfgpbaaSXd
namespace Go.Proofs.Ytddfimfgcfgpbaa
open Sx
open Go.RowKit (Below)
set_option exponentiation.threshold 2000
theorem nd_ok {x : Nat} (h : x < 2 ^ 1600) : nd x ≤ 1000 := Nat.le_trans (nd_le (n := 50) h) (by decide)
theorem and32' (x : Nat) : x &&& 4294967295 = x % 4294967296 := Nat.and_two_pow_sub_one_eq_mod x 32
theorem Vn_mixs {n s x i d : Nat} (hd : d = dg32 s i) : Vn n (set32 (mix32 s x i) i d) = Vn n (mix32 s x (i + 1)) := Vn_congr (fun j _ => by
  rw [dg32_set _ _ _ _ (by rw [hd]; exact dg32_lt _ _), dg32_mix, dg32_mix]
  by_cases h : j = i
  · subst h; rw [if_pos rfl, if_pos (by omega)]; exact hd
  · rw [if_neg h]
    by_cases h2 : j < i
    · rw [if_pos h2, if_pos (by omega)]
    · rw [if_neg h2, if_neg (by omega)])
theorem Vn_mix0 (n s x : Nat) : Vn n x = Vn n (mix32 s x 0) := Vn_congr (fun j _ => by rw [dg32_mix, if_neg (by omega)])
theorem Vn_mixn {n s x i : Nat} (h : n ≤ i) : Vn n (mix32 s x i) = Vn n s := Vn_congr (fun j hj => by rw [dg32_mix, if_pos (by omega)])
theorem pw32 {x n m : Nat} (h : x < 2 ^ (32 * n)) (hm : n ≤ m) : x < 2 ^ (32 * m) := Nat.lt_of_lt_of_le h (Nat.pow_le_pow_right (by decide) (Nat.mul_le_mul_left _ hm))
theorem add32_end {x y k i : Nat} (hx : nd x ≤ k) (hy : nd y ≤ k) (hi : i = k) : Vn (k + 1) (set32 (mix32 (x + y) 0 i) k (cy32 x y i)) = Vn (k + 1) (x + y) := Vn_congr (fun j hj => by
  subst hi
  have hc := cy32_le x y i
  rw [dg32_set _ _ _ _ (by omega), dg32_mix]
  by_cases h : j = i
  · subst h
    rw [if_pos rfl, (add32 x y j).1, dg32_big (nd_lt x) hx, dg32_big (nd_lt y) hy, Nat.mod_eq_of_lt (by omega)]; omega
  · rw [if_neg h, if_pos (by omega)])
theorem add_ltk {x y k : Nat} (hx : nd x ≤ k) (hy : nd y ≤ k) : x + y < 2 ^ (32 * (k + 1)) := by
  have h1 := pw32 (nd_lt x) hx
  have h2 := pw32 (nd_lt y) hy
  rw [pv_succ]; omega
theorem cy_bw32 {x y : Nat} (h : y ≤ x) (i : Nat) : cy32 (x - y) y i = bw32 x y i := by
  unfold cy32 bw32
  have hp := pv_pos i
  generalize 2 ^ (32 * i) = P at *
  have e : (x - y) % P + y % P = x % P + P * (((x - y) % P + y % P) / P) := by
    have h1 : ((x - y) % P + y % P) % P = x % P := by rw [← Nat.add_mod, Nat.sub_add_cancel h]
    have h2 := Nat.div_add_mod ((x - y) % P + y % P) P
    omega
  have h1 := Nat.mod_lt (x - y) hp
  have h2 := Nat.mod_lt y hp
  have h3 := Nat.mod_lt x hp
  have h4 : ((x - y) % P + y % P) / P < 2 := by rw [Nat.div_lt_iff_lt_mul hp]; omega
  generalize ((x - y) % P + y % P) / P = q at *
  have h5 : q = 0 ∨ q = 1 := by omega
  rcases h5 with rfl | rfl
  · rw [if_neg (by omega)]
  · rw [if_pos (by omega)]
theorem sub32 {x y : Nat} (h : y ≤ x) (i : Nat) : (dg32 x i + 4294967296 - dg32 y i - bw32 x y i) % 4294967296 = dg32 (x - y) i ∧ 1 - (dg32 x i + 4294967296 - dg32 y i - bw32 x y i) / 4294967296 = bw32 x y (i + 1) := by
  have h1 := add32 (x - y) y i
  rw [Nat.sub_add_cancel h, cy_bw32 h, cy_bw32 h] at h1
  have h2 := dg32_lt (x - y) i
  have h3 := dg32_lt y i
  have h4 := bw32_le x y i
  have h5 := dg32_lt x i
  obtain ⟨h6, h7⟩ := h1
  have h8 := bw32_le x y (i + 1)
  omega
theorem bl_nd {x : Nat} (h : 0 < nd x) : 32 * (nd x - 1) + bl (dg32 x (nd x - 1)) = bl x := by
  obtain ⟨n, hn⟩ : ∃ n, nd x = n + 1 := ⟨nd x - 1, by omega⟩
  have h1 := nd_lt x
  rw [hn] at h1 ⊢
  rw [Nat.add_sub_cancel]
  have h2 : dg32 x n = x / 2 ^ (32 * n) := by
    unfold dg32
    rw [Nat.mod_eq_of_lt]
    rw [Nat.div_lt_iff_lt_mul (pv_pos n), ← pv_succ]; exact h1
  have h3 : 2 ^ (32 * n) ≤ x := by
    refine Nat.le_of_not_lt fun h4 => ?_
    have := nd_le h4
    omega
  have h4 : 0 < x / 2 ^ (32 * n) := Nat.div_pos h3 (pv_pos n)
  rw [h2]
  have a1 := bl_ge h4
  have a2 := lt_bl (x / 2 ^ (32 * n))
  have a3 := bl_pos h4
  rw [show bl x = (32 * n + (bl (x / 2 ^ (32 * n)) - 1)) + 1 from bl_of ?_ ?_]
  · omega
  · rw [Nat.pow_add, Nat.mul_comm]
    exact (Nat.le_div_iff_mul_le (pv_pos n)).1 a1
  · rw [show 32 * n + (bl (x / 2 ^ (32 * n)) - 1) + 1 = bl (x / 2 ^ (32 * n)) + 32 * n by omega, Nat.pow_add]
    exact (Nat.div_lt_iff_lt_mul (pv_pos n)).1 a2
theorem bl_stop {d j : Nat} (h : j ≤ bl d) (h0 : ¬ 0 < d / 2 ^ j) : j = bl d := by
  have h1 : d < 2 ^ j := by
    rw [Nat.div_pos_iff] at h0
    have := Nat.pow_pos (n := j) (show 0 < 2 by decide)
    omega
  have := bl_le h1
  omega
theorem half_step (d j : Nat) : d / 2 ^ j / 2 ^ 1 = d / 2 ^ (j + 1) := by rw [Nat.div_div_eq_div_mul, ← Nat.pow_add]
theorem bl_go {d j : Nat} (h0 : 0 < d / 2 ^ j) : j < bl d := by
  rw [Nat.div_pos_iff] at h0
  have := le_bl h0.2
  omega
theorem bit32 (a i : Nat) : dg32 a (i / 32) / 2 ^ (i % 32) &&& 1 = a / 2 ^ i % 2 := by
  rw [Nat.and_one_is_mod, dg32]
  have e : i = 32 * (i / 32) + i % 32 := (Nat.div_add_mod i 32).symm
  conv => rhs; rw [e, Nat.pow_add, ← Nat.div_div_eq_div_mul]
  generalize a / 2 ^ (32 * (i / 32)) = z
  have hr : i % 32 < 32 := Nat.mod_lt _ (by decide)
  generalize i % 32 = r at hr
  obtain ⟨t, ht⟩ : ∃ t, 32 - r = t + 1 := ⟨31 - r, by omega⟩
  have hp : (4294967296 : Nat) = 2 ^ r * (2 * 2 ^ t) := by
    rw [show (4294967296 : Nat) = 2 ^ 32 from rfl, show 32 = r + (t + 1) by omega, Nat.pow_add, Nat.pow_succ, Nat.mul_comm (2 ^ t)]
  rw [hp, Nat.mod_mul_right_div_self, Nat.mod_mul_right_mod]
theorem dg_lo (x i : Nat) : dg x i % 4294967296 = dg32 x (2 * i) := by
  unfold dg dg32
  rw [show 64 * i = 32 * (2 * i) by omega, show (2 : Nat) ^ 64 = 4294967296 * 4294967296 from rfl, Nat.mod_mul_right_mod]
theorem dg_hi (x i : Nat) : dg x i / 4294967296 = dg32 x (2 * i + 1) := by
  unfold dg dg32
  rw [show 32 * (2 * i + 1) = 64 * i + 32 by omega, show (2 : Nat) ^ 64 = 4294967296 * 4294967296 from rfl, Nat.mod_mul_right_div_self, Nat.pow_add, ← Nat.div_div_eq_div_mul]
theorem dg_two (x i : Nat) : dg32 x (2 * i) ||| dg32 x (2 * i + 1) * 2 ^ 32 % 18446744073709551616 = dg x i := by
  have h1 := dg32_lt x (2 * i)
  have h2 := dg32_lt x (2 * i + 1)
  rw [Nat.mod_eq_of_lt (by omega), Nat.or_comm, Nat.mul_comm, ← Nat.two_pow_add_eq_or_of_lt (by omega), ← dg_lo, ← dg_hi]
  omega
theorem r1_Add {k m x y : Nat} (hx : nd x ≤ 1000) (hy : nd y ≤ 1000) (w0 : World) (h1 : Num w0 k x) (h2 : Num w0 m y) : Calls Try.prog 26 #[dec k, dec m] w0 (NRet w0 [k, m] [x + y] fun f => dec (f 0)) := by
 refine enter_n [(900, k, (nd x), x), (901, m, (nd y), y)] [(0, vM 900), (1, vM 901)] Try.func26 rfl rfl ⟨h1, h2, trivial⟩ ?_
 intro γ ac hE
 replace hE : Env _ _ _ w0 (lk [(0, vM 900), (1, vM 901)]) (lk [(900, (.abs (numA x), 0)), (901, (.abs (numA y), 0))]) γ ac w0 := hE
 refine sq_t hE [Rw 4 (.s (.v (.slice none 0 0)))] [(0, vM 900), (1, vM 901), (4, .s (.v (.slice none 0 0)))] [(900, (.abs (numA x), 0)), (901, (.abs (numA y), 0))] ⟨tp, trivial⟩ ?_
 clear hE; intro γ ac wc hE
 refine sq_t hE [Rw 10 (vM 900) [(0, vM 900)], Rw 11 (vI (nd x)) [(10, vM 900)] [(900, (.abs (numA x), 0))], Rw 12 (vM 901) [(1, vM 901)], Rw 13 (vI (nd y)) [(12, vM 901)] [(901, (.abs (numA y), 0))], Rw 14 (vI (max (nd x) (nd y))) [(11, vI (nd x)), (13, vI (nd y))], Rw 5 (vI (max (nd x) (nd y))) [(14, vI (max (nd x) (nd y)))]] [(0, vM 900), (1, vM 901), (4, .s (.v (.slice none 0 0))), (5, vI (max (nd x) (nd y)))] [(900, (.abs (numA x), 0)), (901, (.abs (numA y), 0))] ⟨tp, tnl sl25, tp, tnl sl25, tmax, tp, trivial⟩ ?_
 clear hE; intro γ ac wc hE
 obtain ⟨kk, hkk⟩ : ∃ z : Nat, z = max (nd x) (nd y) := ⟨_, rfl⟩
 rw [← hkk] at hE
 refine sq_t hE [Rw 15 (vI kk) [(5, vI kk)], Rw 16 (vI (kk + 1)) [(15, vI kk)], Rw 17 (.s (.sl 17 0 (kk + 1) (kk + 1))) [(16, vI (kk + 1))] [] [(17, (.pl (Vn (kk + 1) 0), 81))], Rw 6 (.s (.sl 17 0 (kk + 1) (kk + 1))) [(17, .s (.sl 17 0 (kk + 1) (kk + 1)))]] [(0, vM 900), (1, vM 901), (4, .s (.v (.slice none 0 0))), (5, vI kk), (6, .s (.sl 17 0 (kk + 1) (kk + 1)))] [(17, (.pl (Vn (kk + 1) 0), 81)), (900, (.abs (numA x), 0)), (901, (.abs (numA y), 0))] ⟨tp, tE fun _ => wi_add, tmk mk25, tp, trivial⟩ ?_
 clear hE; intro γ ac wc hE
 refine sq_t hE [Rw 7 (vW 0)] [(0, vM 900), (1, vM 901), (4, .s (.v (.slice none 0 0))), (5, vI kk), (6, .s (.sl 17 0 (kk + 1) (kk + 1))), (7, vW 0)] [(17, (.pl (Vn (kk + 1) 0), 81)), (900, (.abs (numA x), 0)), (901, (.abs (numA y), 0))] ⟨tp, trivial⟩ ?_
 clear hE; intro γ ac wc hE
 refine wp_seq ?_
 refine sq_t hE [Rw 8 (vI 0)] [(0, vM 900), (1, vM 901), (4, .s (.v (.slice none 0 0))), (5, vI kk), (6, .s (.sl 17 0 (kk + 1) (kk + 1))), (7, vW 0), (8, vI 0)] [(17, (.pl (Vn (kk + 1) 0), 81)), (900, (.abs (numA x), 0)), (901, (.abs (numA y), 0))] ⟨tp, trivial⟩ ?_
 clear hE; intro γ ac wc hE
 refine wp_block ?_
 refine loop_sx (σ := Nat) (fun i => kk - i) (fun i => i ≤ kk)
     (fun i => [(0, vM 900), (1, vM 901), (4, .s (.v (.slice none 0 0))), (5, vI kk), (6, .s (.sl 17 0 (kk + 1) (kk + 1))), (7, vW (cy32 x y i)), (8, vI i)])
     (fun i => [(17, (.pl (Vn (kk + 1) (mix32 (x + y) 0 i)), 81)), (900, (.abs (numA x), 0)), (901, (.abs (numA y), 0))])
     (0) (by omega) (hE.sub (by rw [cy32_zero]; kernel_rfl) (by rw [← Vn_mix0]; kernel_rfl)) ?_
 clear hE; intro i γ ac wc hG hE
 have hd1 := dg32_lt x i
 have hd2 := dg32_lt y i
 have hd3 := cy32_le x y i
 refine wp_seq ?_
 refine sq_t hE [Rw 18 (vI i) [(8, vI i)], Rw 19 (vI kk) [(5, vI kk)], Rw 20 (vB (decide (i < kk))) [(18, vI i), (19, vI kk)]] [(0, vM 900), (1, vM 901), (4, .s (.v (.slice none 0 0))), (5, vI kk), (6, .s (.sl 17 0 (kk + 1) (kk + 1))), (7, vW (cy32 x y i)), (8, vI i), (20, vB (decide (i < kk)))] [(17, (.pl (Vn (kk + 1) (mix32 (x + y) 0 i)), 81)), (900, (.abs (numA x), 0)), (901, (.abs (numA y), 0))] ⟨tp, tp, tE fun _ => d_lss _ _, trivial⟩ ?_
 clear hE; intro γ ac wc hE
 refine cond_sx hE rfl (fun hb1 => ?_) (fun hb1 => ?_)
 ·
  have hb1p := of_decide_eq_true hb1
  refine wp_skip ?_
  refine then_normal ?_
  refine wp_seq ?_
  refine wp_block ?_
  refine sq_t hE [Rw 23 (vM 900) [(0, vM 900)], Rw 24 (vI i) [(8, vI i)], Rn 25 (vW (dg32 x i)) [(23, vM 900), (24, vI i)] [(900, x)] [], Rw 26 (vM 901) [(1, vM 901)], Rw 27 (vI i) [(8, vI i)], Rn 28 (vW (dg32 y i)) [(26, vM 901), (27, vI i)] [(901, y)] [], Rw 29 (vW (dg32 x i + dg32 y i)) [(25, vW (dg32 x i)), (28, vW (dg32 y i))], Rw 30 (vW (cy32 x y i)) [(7, vW (cy32 x y i))], Rw 31 (vW (dg32 x i + dg32 y i + cy32 x y i)) [(29, vW (dg32 x i + dg32 y i)), (30, vW (cy32 x y i))], Rw 9 (vW (dg32 x i + dg32 y i + cy32 x y i)) [(31, vW (dg32 x i + dg32 y i + cy32 x y i))]] [(0, vM 900), (1, vM 901), (4, .s (.v (.slice none 0 0))), (5, vI kk), (6, .s (.sl 17 0 (kk + 1) (kk + 1))), (7, vW (cy32 x y i)), (8, vI i), (9, vW (dg32 x i + dg32 y i + cy32 x y i))] [(17, (.pl (Vn (kk + 1) (mix32 (x + y) 0 i)), 81)), (900, (.abs (numA x), 0)), (901, (.abs (numA y), 0))] ⟨tp, tp, tnv fun γ w h => r1_digit (i := i) (nd_lt _) w h.1, tp, tp, tnv fun γ w h => r1_digit (i := i) (nd_lt _) w h.1, tE (x := .int .u64 (IntKind.u64.wrap (((dg32 x i : Nat) : Int) + ((dg32 y i : Nat) : Int)))) fun _ => (wu_add _ _).trans (congrArg (fun n : Nat => Value.int .u64 (n : Int)) (Nat.mod_eq_of_lt (by omega))), tp, tE (x := .int .u64 (IntKind.u64.wrap (((dg32 x i + dg32 y i : Nat) : Int) + ((cy32 x y i : Nat) : Int)))) fun _ => (wu_add _ _).trans (congrArg (fun n : Nat => Value.int .u64 (n : Int)) (Nat.mod_eq_of_lt (by omega))), tp, trivial⟩ ?_
  clear hE; intro γ ac wc hE
  refine sq_t hE [Rw 32 (.s (.sl 17 0 (kk + 1) (kk + 1))) [(6, .s (.sl 17 0 (kk + 1) (kk + 1)))], Rw 33 (vI i) [(8, vI i)], Rw 34 (vW (dg32 x i + dg32 y i + cy32 x y i)) [(9, vW (dg32 x i + dg32 y i + cy32 x y i))], Rw 35 (vW ((dg32 x i + dg32 y i + cy32 x y i) % 4294967296)) [(34, vW (dg32 x i + dg32 y i + cy32 x y i))], Rw 36 (.s (inN .u32 ((dg32 x i + dg32 y i + cy32 x y i) % 4294967296))) [(35, vW ((dg32 x i + dg32 y i + cy32 x y i) % 4294967296))], Rw 37 (vP 17 i) [(32, .s (.sl 17 0 (kk + 1) (kk + 1))), (33, vI i)], Rz [(37, vP 17 i), (36, .s (inN .u32 ((dg32 x i + dg32 y i + cy32 x y i) % 4294967296)))] [(17, (.pl (Vn (kk + 1) (mix32 (x + y) 0 i)), 81))] [(17, (.pl (Vn (kk + 1) (set32 (mix32 (x + y) 0 i) i ((dg32 x i + dg32 y i + cy32 x y i) % 4294967296))), 81))]] [(0, vM 900), (1, vM 901), (4, .s (.v (.slice none 0 0))), (5, vI kk), (6, .s (.sl 17 0 (kk + 1) (kk + 1))), (7, vW (cy32 x y i)), (8, vI i), (9, vW (dg32 x i + dg32 y i + cy32 x y i))] [(17, (.pl (Vn (kk + 1) (set32 (mix32 (x + y) 0 i) i ((dg32 x i + dg32 y i + cy32 x y i) % 4294967296))), 81)), (900, (.abs (numA x), 0)), (901, (.abs (numA y), 0))] ⟨tp, tp, tp, trip_bin .and 22 22 (.tmp 34) (.const (.int .u64 ((4294967295 : Nat) : Int))) (.int .u64 ((dg32 x i + dg32 y i + cy32 x y i : Nat) : Int)) (.int .u64 ((4294967295 : Nat) : Int)) (.int .u64 (((dg32 x i + dg32 y i + cy32 x y i) % 4294967296 : Nat) : Int)) rfl rfl rfl (by kernel_rfl) rfl rfl (fun γ => by kernel_rfl) (fun γ => by kernel_rfl) (fun _ _ => rfl) (fun w => (b_and_u64 _ _ (by omega) (by decide)).trans (congrArg (fun n : Nat => Result.ok (Value.int .u64 (n : Int)) w) (and32' _))) (fun γ => rfl), tE fun _ => wr_u32 rfl (Nat.mod_lt _ (by decide)), txs sl25, tsv sz81 (hd32 := (Nat.mod_lt _ (by decide))), trivial⟩ ?_
  clear hE; intro γ ac wc hE
  refine rg_t hE [Rw 38 (vW (dg32 x i + dg32 y i + cy32 x y i)) [(9, vW (dg32 x i + dg32 y i + cy32 x y i))], Rw 39 (vW (cy32 x y (i + 1))) [(38, vW (dg32 x i + dg32 y i + cy32 x y i))], Rw 7 (vW (cy32 x y (i + 1))) [(39, vW (cy32 x y (i + 1)))]] [(0, vM 900), (1, vM 901), (4, .s (.v (.slice none 0 0))), (5, vI kk), (6, .s (.sl 17 0 (kk + 1) (kk + 1))), (7, vW (cy32 x y (i + 1))), (8, vI i), (9, vW (dg32 x i + dg32 y i + cy32 x y i))] [(17, (.pl (Vn (kk + 1) (set32 (mix32 (x + y) 0 i) i ((dg32 x i + dg32 y i + cy32 x y i) % 4294967296))), 81)), (900, (.abs (numA x), 0)), (901, (.abs (numA y), 0))] ⟨tp, trip_bin .shr 22 30 (.tmp 38) (.const (.int .u64 ((32 : Nat) : Int))) (.int .u64 ((dg32 x i + dg32 y i + cy32 x y i : Nat) : Int)) (.int .u64 ((32 : Nat) : Int)) (.int .u64 ((cy32 x y (i + 1) : Nat) : Int)) rfl rfl rfl (by kernel_rfl) rfl rfl (fun γ => by kernel_rfl) (fun γ => by kernel_rfl) (fun _ _ => rfl) (fun w => (b_shr_u64 _ _ _ (by decide)).trans (congrArg (fun n : Nat => Result.ok (Value.int .u64 (n : Int)) w) (add32 x y i).2.symm)) (fun γ => rfl), tp, trivial⟩ ?_
  clear hE; intro γ ac wc hE
  refine blk_normal ?_
  refine then_normal ?_
  refine rg_t hE [Rw 21 (vI i) [(8, vI i)], Rw 22 (vI (i + 1)) [(21, vI i)], Rw 8 (vI (i + 1)) [(22, vI (i + 1))]] [(0, vM 900), (1, vM 901), (4, .s (.v (.slice none 0 0))), (5, vI kk), (6, .s (.sl 17 0 (kk + 1) (kk + 1))), (7, vW (cy32 x y (i + 1))), (8, vI (i + 1)), (9, vW (dg32 x i + dg32 y i + cy32 x y i))] [(17, (.pl (Vn (kk + 1) (set32 (mix32 (x + y) 0 i) i ((dg32 x i + dg32 y i + cy32 x y i) % 4294967296))), 81)), (900, (.abs (numA x), 0)), (901, (.abs (numA y), 0))] ⟨tp, tE fun _ => wi_add, tp, trivial⟩ ?_
  clear hE; intro γ ac wc hE
  refine then_normal ⟨i + 1, by omega, by omega, _, hE.sub (by kernel_rfl) (by rw [← Vn_mixs (add32 x y i).1.symm]; kernel_rfl)⟩
 ·
  have hb1p := of_decide_eq_false hb1
  refine wp_exit ?_
  refine then_exit ?_
  refine then_exit ?_
  refine blk_hit ?_
  refine then_normal ?_
  refine sq_t hE [Rw 40 (.s (.sl 17 0 (kk + 1) (kk + 1))) [(6, .s (.sl 17 0 (kk + 1) (kk + 1)))], Rw 41 (vI kk) [(5, vI kk)], Rw 42 (vW (cy32 x y i)) [(7, vW (cy32 x y i))], Rw 43 (.s (inN .u32 (cy32 x y i))) [(42, vW (cy32 x y i))], Rw 44 (vP 17 kk) [(40, .s (.sl 17 0 (kk + 1) (kk + 1))), (41, vI kk)], Rz [(44, vP 17 kk), (43, .s (inN .u32 (cy32 x y i)))] [(17, (.pl (Vn (kk + 1) (mix32 (x + y) 0 i)), 81))] [(17, (.pl (Vn (kk + 1) (set32 (mix32 (x + y) 0 i) kk (cy32 x y i))), 81))]] [(0, vM 900), (1, vM 901), (4, .s (.v (.slice none 0 0))), (5, vI kk), (6, .s (.sl 17 0 (kk + 1) (kk + 1))), (7, vW (cy32 x y i)), (8, vI i)] [(17, (.pl (Vn (kk + 1) (set32 (mix32 (x + y) 0 i) kk (cy32 x y i))), 81)), (900, (.abs (numA x), 0)), (901, (.abs (numA y), 0))] ⟨tp, tp, tp, tE fun _ => wr_u32 rfl (by have := cy32_le x y i; omega), txs sl25, tsv sz81 (hd32 := (by have := cy32_le x y i; omega)), trivial⟩ ?_
  clear hE; intro γ ac wc hE
  refine sq_t hE [Rw 45 (.s (.sl 17 0 (kk + 1) (kk + 1))) [(6, .s (.sl 17 0 (kk + 1) (kk + 1)))], Rw 46 (vM 46) [(45, .s (.sl 17 0 (kk + 1) (kk + 1)))] [(17, (.pl (Vn (kk + 1) (set32 (mix32 (x + y) 0 i) kk (cy32 x y i))), 81))] [(46, (.abs (numA (x + y)), 0))] [(17, (.gone, 0))], Rw 4 (vM 46) [(46, vM 46)]] [(0, vM 900), (1, vM 901), (4, vM 46), (5, vI kk), (6, .s (.sl 17 0 (kk + 1) (kk + 1))), (7, vW (cy32 x y i)), (8, vI i)] [(46, (.abs (numA (x + y)), 0)), (900, (.abs (numA x), 0)), (901, (.abs (numA y), 0))] ⟨tp, ttrim (hz := (add32_end (by omega) (by omega) (by omega))) (hlt := (add_ltk (by omega) (by omega))), tp, trivial⟩ ?_
  clear hE; intro γ ac wc hE
  refine wp_ret ?_
  exact (end1 hE rfl (.tmp 4 (vM 46) rfl) (nret hE [(46, x + y)])).1
theorem r1_Sub {k m x y : Nat} (hx : nd x ≤ 1000) (hy : nd y ≤ 1000) (hyx : y ≤ x) (w0 : World) (h1 : Num w0 k x) (h2 : Num w0 m y) : Calls Try.prog 54 #[dec k, dec m] w0 (NRet w0 [k, m] [x - y] fun f => dec (f 0)) := by
 refine enter_n [(900, k, (nd x), x), (901, m, (nd y), y)] [(0, vM 900), (1, vM 901)] Try.func54 rfl rfl ⟨h1, h2, trivial⟩ ?_
 intro γ ac hE
 replace hE : Env _ _ _ w0 (lk [(0, vM 900), (1, vM 901)]) (lk [(900, (.abs (numA x), 0)), (901, (.abs (numA y), 0))]) γ ac w0 := hE
 refine sq_t hE [Rw 4 (.s (.v (.slice none 0 0)))] [(0, vM 900), (1, vM 901), (4, .s (.v (.slice none 0 0)))] [(900, (.abs (numA x), 0)), (901, (.abs (numA y), 0))] ⟨tp, trivial⟩ ?_
 clear hE; intro γ ac wc hE
 refine sq_t hE [Rw 9 (vM 900) [(0, vM 900)], Rw 10 (vI (nd x)) [(9, vM 900)] [(900, (.abs (numA x), 0))], Rw 11 (.s (.sl 11 0 (nd x) (nd x))) [(10, vI (nd x))] [] [(11, (.pl (Vn (nd x) 0), 81))], Rw 5 (.s (.sl 11 0 (nd x) (nd x))) [(11, .s (.sl 11 0 (nd x) (nd x)))]] [(0, vM 900), (1, vM 901), (4, .s (.v (.slice none 0 0))), (5, .s (.sl 11 0 (nd x) (nd x)))] [(11, (.pl (Vn (nd x) 0), 81)), (900, (.abs (numA x), 0)), (901, (.abs (numA y), 0))] ⟨tp, tnl sl25, tmk mk25, tp, trivial⟩ ?_
 clear hE; intro γ ac wc hE
 refine sq_t hE [Rw 6 (vW 0)] [(0, vM 900), (1, vM 901), (4, .s (.v (.slice none 0 0))), (5, .s (.sl 11 0 (nd x) (nd x))), (6, vW 0)] [(11, (.pl (Vn (nd x) 0), 81)), (900, (.abs (numA x), 0)), (901, (.abs (numA y), 0))] ⟨tp, trivial⟩ ?_
 clear hE; intro γ ac wc hE
 refine wp_seq ?_
 refine sq_t hE [Rw 7 (vI 0)] [(0, vM 900), (1, vM 901), (4, .s (.v (.slice none 0 0))), (5, .s (.sl 11 0 (nd x) (nd x))), (6, vW 0), (7, vI 0)] [(11, (.pl (Vn (nd x) 0), 81)), (900, (.abs (numA x), 0)), (901, (.abs (numA y), 0))] ⟨tp, trivial⟩ ?_
 clear hE; intro γ ac wc hE
 refine wp_block ?_
 refine loop_sx (σ := Nat) (fun i => nd x - i) (fun i => i ≤ nd x)
     (fun i => [(0, vM 900), (1, vM 901), (4, .s (.v (.slice none 0 0))), (5, .s (.sl 11 0 (nd x) (nd x))), (6, vW (bw32 x y i)), (7, vI i)])
     (fun i => [(11, (.pl (Vn (nd x) (mix32 (x - y) 0 i)), 81)), (900, (.abs (numA x), 0)), (901, (.abs (numA y), 0))])
     (0) (by omega) (hE.sub (by rw [bw32_zero]; kernel_rfl) (by rw [← Vn_mix0]; kernel_rfl)) ?_
 clear hE; intro i γ ac wc hG hE
 have hd1 := dg32_lt x i
 have hd2 := dg32_lt y i
 have hd3 := bw32_le x y i
 refine wp_seq ?_
 refine sq_t hE [Rw 12 (vI i) [(7, vI i)], Rw 13 (vM 900) [(0, vM 900)], Rw 14 (vI (nd x)) [(13, vM 900)] [(900, (.abs (numA x), 0))], Rw 15 (vB (decide (i < nd x))) [(12, vI i), (14, vI (nd x))]] [(0, vM 900), (1, vM 901), (4, .s (.v (.slice none 0 0))), (5, .s (.sl 11 0 (nd x) (nd x))), (6, vW (bw32 x y i)), (7, vI i), (15, vB (decide (i < nd x)))] [(11, (.pl (Vn (nd x) (mix32 (x - y) 0 i)), 81)), (900, (.abs (numA x), 0)), (901, (.abs (numA y), 0))] ⟨tp, tp, tnl sl25, tE fun _ => d_lss _ _, trivial⟩ ?_
 clear hE; intro γ ac wc hE
 refine cond_sx hE rfl (fun hb1 => ?_) (fun hb1 => ?_)
 ·
  have hb1p := of_decide_eq_true hb1
  refine wp_skip ?_
  refine then_normal ?_
  refine wp_seq ?_
  refine wp_block ?_
  refine sq_t hE [Rw 18 (vM 900) [(0, vM 900)], Rw 19 (vI i) [(7, vI i)], Rn 20 (vW (dg32 x i)) [(18, vM 900), (19, vI i)] [(900, x)] [], Rw 21 (vW (dg32 x i + 4294967296)) [(20, vW (dg32 x i))], Rw 22 (vM 901) [(1, vM 901)], Rw 23 (vI i) [(7, vI i)], Rn 24 (vW (dg32 y i)) [(22, vM 901), (23, vI i)] [(901, y)] [], Rw 25 (vW (dg32 x i + 4294967296 - dg32 y i)) [(21, vW (dg32 x i + 4294967296)), (24, vW (dg32 y i))], Rw 26 (vW (bw32 x y i)) [(6, vW (bw32 x y i))], Rw 27 (vW (dg32 x i + 4294967296 - dg32 y i - bw32 x y i)) [(25, vW (dg32 x i + 4294967296 - dg32 y i)), (26, vW (bw32 x y i))], Rw 8 (vW (dg32 x i + 4294967296 - dg32 y i - bw32 x y i)) [(27, vW (dg32 x i + 4294967296 - dg32 y i - bw32 x y i))]] [(0, vM 900), (1, vM 901), (4, .s (.v (.slice none 0 0))), (5, .s (.sl 11 0 (nd x) (nd x))), (6, vW (bw32 x y i)), (7, vI i), (8, vW (dg32 x i + 4294967296 - dg32 y i - bw32 x y i))] [(11, (.pl (Vn (nd x) (mix32 (x - y) 0 i)), 81)), (900, (.abs (numA x), 0)), (901, (.abs (numA y), 0))] ⟨tp, tp, tnv fun γ w h => r1_digit (i := i) (nd_lt _) w h.1, tE (x := .int .u64 (IntKind.u64.wrap (((dg32 x i : Nat) : Int) + ((4294967296 : Nat) : Int)))) fun _ => (wu_add _ _).trans (congrArg (fun n : Nat => Value.int .u64 (n : Int)) (Nat.mod_eq_of_lt (by omega))), tp, tp, tnv fun γ w h => r1_digit (i := i) (nd_lt _) w h.1, tE (x := .int .u64 (IntKind.u64.wrap (((dg32 x i + 4294967296 : Nat) : Int) - ((dg32 y i : Nat) : Int)))) fun _ => (wu_sub _ _ (by omega)).trans (congrArg (fun n : Nat => Value.int .u64 (n : Int)) (by omega)), tp, tE (x := .int .u64 (IntKind.u64.wrap (((dg32 x i + 4294967296 - dg32 y i : Nat) : Int) - ((bw32 x y i : Nat) : Int)))) fun _ => (wu_sub _ _ (by omega)).trans (congrArg (fun n : Nat => Value.int .u64 (n : Int)) (by omega)), tp, trivial⟩ ?_
  clear hE; intro γ ac wc hE
  refine sq_t hE [Rw 28 (.s (.sl 11 0 (nd x) (nd x))) [(5, .s (.sl 11 0 (nd x) (nd x)))], Rw 29 (vI i) [(7, vI i)], Rw 30 (vW (dg32 x i + 4294967296 - dg32 y i - bw32 x y i)) [(8, vW (dg32 x i + 4294967296 - dg32 y i - bw32 x y i))], Rw 31 (vW ((dg32 x i + 4294967296 - dg32 y i - bw32 x y i) % 4294967296)) [(30, vW (dg32 x i + 4294967296 - dg32 y i - bw32 x y i))], Rw 32 (.s (inN .u32 ((dg32 x i + 4294967296 - dg32 y i - bw32 x y i) % 4294967296))) [(31, vW ((dg32 x i + 4294967296 - dg32 y i - bw32 x y i) % 4294967296))], Rw 33 (vP 11 i) [(28, .s (.sl 11 0 (nd x) (nd x))), (29, vI i)], Rz [(33, vP 11 i), (32, .s (inN .u32 ((dg32 x i + 4294967296 - dg32 y i - bw32 x y i) % 4294967296)))] [(11, (.pl (Vn (nd x) (mix32 (x - y) 0 i)), 81))] [(11, (.pl (Vn (nd x) (set32 (mix32 (x - y) 0 i) i ((dg32 x i + 4294967296 - dg32 y i - bw32 x y i) % 4294967296))), 81))]] [(0, vM 900), (1, vM 901), (4, .s (.v (.slice none 0 0))), (5, .s (.sl 11 0 (nd x) (nd x))), (6, vW (bw32 x y i)), (7, vI i), (8, vW (dg32 x i + 4294967296 - dg32 y i - bw32 x y i))] [(11, (.pl (Vn (nd x) (set32 (mix32 (x - y) 0 i) i ((dg32 x i + 4294967296 - dg32 y i - bw32 x y i) % 4294967296))), 81)), (900, (.abs (numA x), 0)), (901, (.abs (numA y), 0))] ⟨tp, tp, tp, trip_bin .and 22 22 (.tmp 30) (.const (.int .u64 ((4294967295 : Nat) : Int))) (.int .u64 ((dg32 x i + 4294967296 - dg32 y i - bw32 x y i : Nat) : Int)) (.int .u64 ((4294967295 : Nat) : Int)) (.int .u64 (((dg32 x i + 4294967296 - dg32 y i - bw32 x y i) % 4294967296 : Nat) : Int)) rfl rfl rfl (by kernel_rfl) rfl rfl (fun γ => by kernel_rfl) (fun γ => by kernel_rfl) (fun _ _ => rfl) (fun w => (b_and_u64 _ _ (by omega) (by decide)).trans (congrArg (fun n : Nat => Result.ok (Value.int .u64 (n : Int)) w) (and32' _))) (fun γ => rfl), tE fun _ => wr_u32 rfl (Nat.mod_lt _ (by decide)), txs sl25, tsv sz81 (hd32 := (Nat.mod_lt _ (by decide))), trivial⟩ ?_
  clear hE; intro γ ac wc hE
  refine rg_t hE [Rw 34 (vW (dg32 x i + 4294967296 - dg32 y i - bw32 x y i)) [(8, vW (dg32 x i + 4294967296 - dg32 y i - bw32 x y i))], Rw 35 (vW ((dg32 x i + 4294967296 - dg32 y i - bw32 x y i) / 2 ^ 32)) [(34, vW (dg32 x i + 4294967296 - dg32 y i - bw32 x y i))], Rw 36 (vW (bw32 x y (i + 1))) [(35, vW ((dg32 x i + 4294967296 - dg32 y i - bw32 x y i) / 2 ^ 32))], Rw 6 (vW (bw32 x y (i + 1))) [(36, vW (bw32 x y (i + 1)))]] [(0, vM 900), (1, vM 901), (4, .s (.v (.slice none 0 0))), (5, .s (.sl 11 0 (nd x) (nd x))), (6, vW (bw32 x y (i + 1))), (7, vI i), (8, vW (dg32 x i + 4294967296 - dg32 y i - bw32 x y i))] [(11, (.pl (Vn (nd x) (set32 (mix32 (x - y) 0 i) i ((dg32 x i + 4294967296 - dg32 y i - bw32 x y i) % 4294967296))), 81)), (900, (.abs (numA x), 0)), (901, (.abs (numA y), 0))] ⟨tp, t_shr_u64, tE (x := .int .u64 (IntKind.u64.wrap (((1 : Nat) : Int) - (((dg32 x i + 4294967296 - dg32 y i - bw32 x y i) / 2 ^ 32 : Nat) : Int)))) fun _ => (wu_sub _ _ (by omega)).trans (congrArg (fun n : Nat => Value.int .u64 (n : Int)) (by have := (sub32 hyx i).2; omega)), tp, trivial⟩ ?_
  clear hE; intro γ ac wc hE
  refine blk_normal ?_
  refine then_normal ?_
  refine rg_t hE [Rw 16 (vI i) [(7, vI i)], Rw 17 (vI (i + 1)) [(16, vI i)], Rw 7 (vI (i + 1)) [(17, vI (i + 1))]] [(0, vM 900), (1, vM 901), (4, .s (.v (.slice none 0 0))), (5, .s (.sl 11 0 (nd x) (nd x))), (6, vW (bw32 x y (i + 1))), (7, vI (i + 1)), (8, vW (dg32 x i + 4294967296 - dg32 y i - bw32 x y i))] [(11, (.pl (Vn (nd x) (set32 (mix32 (x - y) 0 i) i ((dg32 x i + 4294967296 - dg32 y i - bw32 x y i) % 4294967296))), 81)), (900, (.abs (numA x), 0)), (901, (.abs (numA y), 0))] ⟨tp, tE fun _ => wi_add, tp, trivial⟩ ?_
  clear hE; intro γ ac wc hE
  refine then_normal ⟨i + 1, by omega, by omega, _, hE.sub (by kernel_rfl) (by rw [← Vn_mixs (sub32 hyx i).1]; kernel_rfl)⟩
 ·
  have hb1p := of_decide_eq_false hb1
  refine wp_exit ?_
  refine then_exit ?_
  refine then_exit ?_
  refine blk_hit ?_
  refine then_normal ?_
  refine sq_t hE [Rw 37 (.s (.sl 11 0 (nd x) (nd x))) [(5, .s (.sl 11 0 (nd x) (nd x)))], Rw 38 (vM 38) [(37, .s (.sl 11 0 (nd x) (nd x)))] [(11, (.pl (Vn (nd x) (mix32 (x - y) 0 i)), 81))] [(38, (.abs (numA (x - y)), 0))] [(11, (.gone, 0))], Rw 4 (vM 38) [(38, vM 38)]] [(0, vM 900), (1, vM 901), (4, vM 38), (5, .s (.sl 11 0 (nd x) (nd x))), (6, vW (bw32 x y i)), (7, vI i)] [(38, (.abs (numA (x - y)), 0)), (900, (.abs (numA x), 0)), (901, (.abs (numA y), 0))] ⟨tp, ttrim (hz := (Vn_mixn (by omega))) (hlt := (Nat.lt_of_le_of_lt (Nat.sub_le _ _) (nd_lt x))), tp, trivial⟩ ?_
  clear hE; intro γ ac wc hE
  refine wp_ret ?_
  exact (end1 hE rfl (.tmp 4 (vM 38) rfl) (nret hE [(38, x - y)])).1
theorem r1_Bits {k x : Nat} (hx : nd x ≤ 1000) (w0 : World) (h1 : Num w0 k x) : Calls Try.prog 60 #[dec k] w0 fun e w => e = .returned (.int .i64 (bl x : Nat)) ∧ Below w0.heap.size w0 w := by
 refine enter_n [(900, k, (nd x), x)] [(0, vM 900)] Try.func60 rfl rfl ⟨h1, trivial⟩ ?_
 intro γ ac hE
 replace hE : Env _ _ _ w0 (lk [(0, vM 900)]) (lk [(900, (.abs (numA x), 0))]) γ ac w0 := hE
 refine sq_t hE [Rw 2 (vI 0)] [(0, vM 900), (2, vI 0)] [(900, (.abs (numA x), 0))] ⟨tp, trivial⟩ ?_
 clear hE; intro γ ac wc hE
 refine wp_seq ?_
 refine sq_t hE [Rw 5 (vM 900) [(0, vM 900)], Rw 6 (vI (nd x)) [(5, vM 900)] [(900, (.abs (numA x), 0))], Rw 7 (vB (decide (nd x = 0))) [(6, vI (nd x))]] [(0, vM 900), (2, vI 0), (7, vB (decide (nd x = 0)))] [(900, (.abs (numA x), 0))] ⟨tp, tnl sl25, tE fun _ => d_eql _ _, trivial⟩ ?_
 clear hE; intro γ ac wc hE
 refine cond_sx hE rfl (fun hb1 => ?_) (fun hb1 => ?_)
 ·
  have hb1p := of_decide_eq_true hb1
  refine sq_t hE [Rw 2 (vI 0)] [(0, vM 900), (2, vI 0)] [(900, (.abs (numA x), 0))] ⟨tp, trivial⟩ ?_
  clear hE; intro γ ac wc hE
  refine wp_ret ?_
  refine then_ret ?_
  exact (end1 hE rfl (.tmp 2 (vI 0) rfl) (⟨by rw [show bl x = 0 by rw [show x = 0 from Nat.eq_zero_of_not_pos fun h => by have := nd_pos h; omega]; rfl]; rfl, hE.keep.belowN⟩)).1
 ·
  have hb1p := of_decide_eq_false hb1
  refine wp_skip ?_
  refine then_normal ?_
  refine sq_t hE [Rw 8 (vM 900) [(0, vM 900)], Rw 9 (vI (nd x)) [(8, vM 900)] [(900, (.abs (numA x), 0))], Rw 10 (vI ((nd x) - 1)) [(9, vI (nd x))], Rw 11 (vI (32 * ((nd x) - 1))) [(10, vI ((nd x) - 1))], Rw 3 (vI (32 * ((nd x) - 1))) [(11, vI (32 * ((nd x) - 1)))]] [(0, vM 900), (2, vI 0), (3, vI (32 * ((nd x) - 1)))] [(900, (.abs (numA x), 0))] ⟨tp, tnl sl25, tE fun _ => wi_sub, tE fun _ => wi_mul, tp, trivial⟩ ?_
  clear hE; intro γ ac wc hE
  refine wp_seq ?_
  refine sq_t hE [Rw 12 (vM 900) [(0, vM 900)], Rw 13 (vM 900) [(0, vM 900)], Rw 14 (vI (nd x)) [(13, vM 900)] [(900, (.abs (numA x), 0))], Rw 15 (vI ((nd x) - 1)) [(14, vI (nd x))], Rw 16 (.s (.nptr 900 ((nd x) - 1))) [(12, vM 900), (15, vI ((nd x) - 1))] [(900, (.abs (numA x), 0))], Rw 17 (.s (inN .u32 (dg32 x ((nd x) - 1)))) [(16, .s (.nptr 900 ((nd x) - 1)))] [(900, (.abs (numA x), 0))], Rw 4 (.s (inN .u32 (dg32 x ((nd x) - 1)))) [(17, .s (inN .u32 (dg32 x ((nd x) - 1))))]] [(0, vM 900), (2, vI 0), (3, vI (32 * ((nd x) - 1))), (4, .s (inN .u32 (dg32 x ((nd x) - 1))))] [(900, (.abs (numA x), 0))] ⟨tp, tp, tnl sl25, tE fun _ => wi_sub, txn sl25 (hlt := (by omega)), tln on81, tp, trivial⟩ ?_
  clear hE; intro γ ac wc hE
  obtain ⟨d, hd⟩ : ∃ z : Nat, z = dg32 x ((nd x) - 1) := ⟨_, rfl⟩
  rw [← hd] at hE
  refine wp_block ?_
  refine loop_sx (σ := Nat) (fun j => bl d - j) (fun j => j ≤ bl d)
      (fun j => [(0, vM 900), (2, vI 0), (3, vI (32 * (nd x - 1) + j)), (4, .s (inN .u32 (d / 2 ^ j)))])
      (fun j => [(900, (.abs (numA x), 0))])
      (0) (by omega) (hE.sub (by rw [Nat.pow_zero, Nat.div_one, Nat.add_zero]; kernel_rfl) (by kernel_rfl)) ?_
  clear hE; intro j γ ac wc hG hE
  have hbl := bl_le (k := 32) (show d < 2 ^ 32 by rw [hd]; exact dg32_lt _ _)
  refine wp_seq ?_
  refine sq_t hE [Rw 18 (.s (inN .u32 (d / 2 ^ j))) [(4, .s (inN .u32 (d / 2 ^ j)))], Rw 19 (vB (decide (0 < d / 2 ^ j))) [(18, .s (inN .u32 (d / 2 ^ j)))]] [(0, vM 900), (2, vI 0), (3, vI (32 * (nd x - 1) + j)), (4, .s (inN .u32 (d / 2 ^ j))), (19, vB (decide (0 < d / 2 ^ j)))] [(900, (.abs (numA x), 0))] ⟨tp, tE fun _ => d_gtr _ _, trivial⟩ ?_
  clear hE; intro γ ac wc hE
  refine cond_sx hE rfl (fun hb2 => ?_) (fun hb2 => ?_)
  ·
   have hb2p := of_decide_eq_true hb2
   refine wp_skip ?_
   refine then_normal ?_
   refine wp_seq ?_
   refine wp_block ?_
   refine rg_t hE [Rw 22 (vI (32 * (nd x - 1) + j)) [(3, vI (32 * (nd x - 1) + j))], Rw 23 (vI ((32 * (nd x - 1) + j) + 1)) [(22, vI (32 * (nd x - 1) + j))], Rw 3 (vI ((32 * (nd x - 1) + j) + 1)) [(23, vI ((32 * (nd x - 1) + j) + 1))]] [(0, vM 900), (2, vI 0), (3, vI ((32 * (nd x - 1) + j) + 1)), (4, .s (inN .u32 (d / 2 ^ j)))] [(900, (.abs (numA x), 0))] ⟨tp, tE fun _ => wi_add, tp, trivial⟩ ?_
   clear hE; intro γ ac wc hE
   refine blk_normal ?_
   refine then_normal ?_
   refine rg_t hE [Rw 20 (.s (inN .u32 (d / 2 ^ j))) [(4, .s (inN .u32 (d / 2 ^ j)))], Rw 21 (.s (inN .u32 ((d / 2 ^ j) / 2 ^ 1))) [(20, .s (inN .u32 (d / 2 ^ j)))], Rw 4 (.s (inN .u32 ((d / 2 ^ j) / 2 ^ 1))) [(21, .s (inN .u32 ((d / 2 ^ j) / 2 ^ 1)))]] [(0, vM 900), (2, vI 0), (3, vI ((32 * (nd x - 1) + j) + 1)), (4, .s (inN .u32 ((d / 2 ^ j) / 2 ^ 1)))] [(900, (.abs (numA x), 0))] ⟨tp, t_shr_u32, tp, trivial⟩ ?_
   clear hE; intro γ ac wc hE
   refine then_normal ⟨j + 1, (by have := bl_go (by assumption); omega), (by have := bl_go (by assumption); omega), _, hE.sub (by rw [half_step]; kernel_rfl) (by kernel_rfl)⟩
  ·
   have hb2p := of_decide_eq_false hb2
   refine wp_exit ?_
   refine then_exit ?_
   refine then_exit ?_
   refine blk_hit ?_
   refine then_normal ?_
   refine sq_t hE [Rw 24 (vI (32 * (nd x - 1) + j)) [(3, vI (32 * (nd x - 1) + j))], Rw 2 (vI (32 * (nd x - 1) + j)) [(24, vI (32 * (nd x - 1) + j))]] [(0, vM 900), (2, vI (32 * (nd x - 1) + j)), (3, vI (32 * (nd x - 1) + j)), (4, .s (inN .u32 (d / 2 ^ j)))] [(900, (.abs (numA x), 0))] ⟨tp, tp, trivial⟩ ?_
   clear hE; intro γ ac wc hE
   refine wp_ret ?_
   have hj := bl_stop hG (by assumption)
   have hb := bl_nd (x := x) (by omega)
   rw [← hd, ← hj] at hb
   exact (end1 hE rfl (.tmp 2 (vI (32 * (nd x - 1) + j)) rfl) (⟨by rw [hb]; rfl, hE.keep.belowN⟩)).1
theorem r1_Bit {k x i : Nat} (hi : i < 9223372036854775808) (w0 : World) (h1 : Num w0 k x) : Calls Try.prog 70 #[dec k, .int .i64 (i : Int)] w0 fun e w => e = .returned (.int .i64 (x / 2 ^ i % 2 : Nat)) ∧ Below w0.heap.size w0 w := by
 refine enter_n [(900, k, (nd x), x)] [(0, vM 900), (1, vI i)] Try.func70 rfl rfl ⟨h1, trivial⟩ ?_
 intro γ ac hE
 replace hE : Env _ _ _ w0 (lk [(0, vM 900), (1, vI i)]) (lk [(900, (.abs (numA x), 0))]) γ ac w0 := hE
 refine sq_t hE [Rw 4 (vI 0)] [(0, vM 900), (1, vI i), (4, vI 0)] [(900, (.abs (numA x), 0))] ⟨tp, trivial⟩ ?_
 clear hE; intro γ ac wc hE
 refine sq_t hE [Rw 5 (vM 900) [(0, vM 900)], Rw 6 (vI i) [(1, vI i)], Rw 7 (vI (i / 32)) [(6, vI i)], Rn 8 (vW (dg32 x (i / 32))) [(5, vM 900), (7, vI (i / 32))] [(900, x)] [], Rw 9 (vI i) [(1, vI i)], Rw 10 (vI (i % 32)) [(9, vI i)], Rw 11 (vW ((dg32 x (i / 32)) / 2 ^ (i % 32))) [(8, vW (dg32 x (i / 32))), (10, vI (i % 32))], Rw 12 (vW (x / 2 ^ i % 2)) [(11, vW ((dg32 x (i / 32)) / 2 ^ (i % 32)))], Rw 13 (vI (x / 2 ^ i % 2)) [(12, vW (x / 2 ^ i % 2))], Rw 4 (vI (x / 2 ^ i % 2)) [(13, vI (x / 2 ^ i % 2))]] [(4, vI (x / 2 ^ i % 2))] [(900, (.abs (numA x), 0))] ⟨tp, tp, t_quo_i64 (ha := hi), tnv fun γ w h => r1_digit (i := i / 32) (nd_lt _) w h.1, tp, t_rem_i64, t_shr_u64, trip_bin .and 22 22 (.tmp 11) (.const (.int .u64 ((1 : Nat) : Int))) (.int .u64 (((dg32 x (i / 32)) / 2 ^ (i % 32) : Nat) : Int)) (.int .u64 ((1 : Nat) : Int)) (.int .u64 ((x / 2 ^ i % 2 : Nat) : Int)) rfl rfl rfl (by kernel_rfl) rfl rfl (fun γ => by kernel_rfl) (fun γ => by kernel_rfl) (fun _ _ => rfl) (fun w => (b_and_u64 _ _ (Nat.lt_of_le_of_lt (Nat.div_le_self _ _) (Nat.lt_trans (dg32_lt _ _) (by decide))) (by decide)).trans (congrArg (fun n : Nat => Result.ok (Value.int .u64 (n : Int)) w) (bit32 _ _))) (fun γ => rfl), tE fun _ => wr_i64 rfl (by omega), tp, trivial⟩ ?_
 clear hE; intro γ ac wc hE
 refine wp_ret ?_
 exact (end1 hE rfl (.tmp 4 (vI (x / 2 ^ i % 2)) rfl) (⟨rfl, hE.keep.belowN⟩)).1
end Go.Proofs.Ytddfimfgcfgpbaa
