/-
  bits.Div64.
-/
import Derived.Test.YtddfimfgcfgpbaaSTf
import Derived.Test.YtddfimfgcfgpbaaSNc
namespace Go.Proofs.Ytddfimfgcfgpbaa
open Sx
open Go.RowKit (Below)
set_option exponentiation.threshold 2000
theorem lz64 (x : Nat) (h : x < 18446744073709551616) (w : World) : Calls Try.prog 148 #[.int .u64 x] w fun e w' => e = .returned (.int .i64 (64 - Lib.bitLen x : Nat)) ∧ Below w.heap.size w w' :=
  (Try.bits_LeadingZeros64 (x : Int) w (by omega) (by omega)).mono fun _ _ ⟨h1, h2⟩ => ⟨by rw [h1, Int.toNat_natCast]; have := Lib.bitLen_le x 64 (by decide) h; congr 2; omega, by rw [h2]; exact Below.refl _ _⟩
theorem mul32 {a b : Nat} (ha : a < 4294967296) (hb : b < 4294967296) : a * b < 18446744073709551616 := by
  have : a * b ≤ 4294967295 * 4294967295 := Nat.mul_le_mul (by omega) (by omega)
  omega
theorem and32 (x : Nat) : x &&& 4294967295 = x % 4294967296 := Nat.and_two_pow_sub_one_eq_mod x 32
theorem dv_norm {y s : Nat} (h0 : 0 < y) (hy : y < 18446744073709551616) (hs : s = 64 - Lib.bitLen y) : s ≤ 63 ∧ y * 2 ^ s < 18446744073709551616 ∧ 9223372036854775808 ≤ y * 2 ^ s := by
  rw [bl_lib y hy] at hs
  have h1 := bl_pos h0
  have h2 : bl y ≤ 64 := bl_le hy
  have h3 := bl_ge h0
  have h4 := lt_bl y
  refine ⟨by omega, ?_, ?_⟩
  · have : y * 2 ^ s < 2 ^ bl y * 2 ^ s := Nat.mul_lt_mul_of_pos_right h4 (Nat.pow_pos (by decide))
    rw [← Nat.pow_add, show bl y + s = 64 by omega] at this
    exact this
  · have : 2 ^ (bl y - 1) * 2 ^ s ≤ y * 2 ^ s := Nat.mul_le_mul_right _ h3
    rw [← Nat.pow_add, show bl y - 1 + s = 63 by omega] at this
    exact this
theorem dv_hi {hi lo s y : Nat} (hs : s ≤ 63) (hl : lo < 18446744073709551616) (hh : hi < y) (hY : y * 2 ^ s < 18446744073709551616) : hi * 2 ^ s % 18446744073709551616 ||| lo / 2 ^ (64 - s) = (hi * 18446744073709551616 + lo) * 2 ^ s / 18446744073709551616 := by
  have h1 : hi * 2 ^ s < 18446744073709551616 := Nat.lt_of_le_of_lt (Nat.mul_le_mul_right _ (Nat.le_of_lt hh)) hY
  rw [Nat.mod_eq_of_lt h1]
  have p := pow_split (r := s) (by omega)
  have h2 : lo / 2 ^ (64 - s) < 2 ^ s := by
    rw [Nat.div_lt_iff_lt_mul (Nat.pow_pos (by decide)), ← p]; exact hl
  rw [Nat.mul_comm hi, ← Nat.two_pow_add_eq_or_of_lt h2]
  have e : (hi * 18446744073709551616 + lo) * 2 ^ s = 18446744073709551616 * (2 ^ s * hi) + lo * 2 ^ s := by
    rw [Nat.add_mul]; congr 1; rw [Nat.mul_comm hi, Nat.mul_assoc, Nat.mul_comm hi]
  rw [e, Nat.mul_add_div (by decide)]
  congr 1
  rw [show (18446744073709551616 : Nat) = 2 ^ (64 - s) * 2 ^ s by rw [Nat.mul_comm]; exact p]
  exact (Nat.mul_div_mul_right _ _ (Nat.pow_pos (by decide))).symm
theorem dv_lo {hi lo s : Nat} : lo * 2 ^ s % 18446744073709551616 = (hi * 18446744073709551616 + lo) * 2 ^ s % 18446744073709551616 := by
  rw [Nat.add_mul, Nat.mul_assoc, Nat.mul_left_comm, Nat.mul_add_mod]
theorem dv_split {q Y y1 y0 : Nat} (h : Y = y1 * 4294967296 + y0) : q * Y = q * y1 * 4294967296 + q * y0 := by rw [h, Nat.mul_add, Nat.mul_assoc]
theorem dv_dec {U Y y1 y0 d q r : Nat} (hY : Y = y1 * 4294967296 + y0) (h0 : 0 < Y) (hU : U < Y) (hd : d < 4294967296) (hr : q * y1 + r = U) (h : 4294967296 ≤ q ∨ 4294967296 * r + d < q * y0) :
    0 < q ∧ (U * 4294967296 + d) / Y ≤ q - 1 := by
  have h1 : (U * 4294967296 + d) / Y < q := by
    rcases h with h | h
    · refine Nat.lt_of_lt_of_le ?_ h
      rw [Nat.div_lt_iff_lt_mul h0]; omega
    · rw [Nat.div_lt_iff_lt_mul h0, dv_split hY]
      omega
  generalize (U * 4294967296 + d) / Y = g at *
  omega
theorem dv_end1 {U Y y1 y0 d q r : Nat} (hY : Y = y1 * 4294967296 + y0) (h0 : 0 < Y) (hr : q * y1 + r = U) (hq : (U * 4294967296 + d) / Y ≤ q) (h : q * y0 ≤ 4294967296 * r + d) : q = (U * 4294967296 + d) / Y := by
  refine Nat.le_antisymm ?_ hq
  rw [Nat.le_div_iff_mul_le h0, dv_split hY]
  omega
theorem dv_q {U Y y1 y0 q r : Nat} (hY : Y = y1 * 4294967296 + y0) (hn : 9223372036854775808 ≤ Y) (h0 : y0 < 4294967296) (hU : U < Y) (hr : q * y1 + r = U) : q ≤ 4294967297 := by
  refine Nat.le_of_lt_succ (Nat.lt_of_not_le fun h => ?_)
  have h1 : 2147483648 ≤ y1 := by omega
  have h2 : 4294967298 * y1 ≤ q * y1 := Nat.mul_le_mul_right _ h
  omega
theorem dv_end2 {U Y y1 y0 d q r : Nat} (hY : Y = y1 * 4294967296 + y0) (h0 : 0 < Y) (hy0 : y0 < 4294967296) (hr : q * y1 + r = U) (hq : (U * 4294967296 + d) / Y ≤ q) (hq2 : q ≤ 4294967296) (h : 4294967296 ≤ r) : q = (U * 4294967296 + d) / Y := by
  refine Nat.le_antisymm ?_ hq
  rw [Nat.le_div_iff_mul_le h0, dv_split hY]
  have : q * y0 ≤ 4294967296 * 4294967296 := Nat.mul_le_mul hq2 (by omega)
  omega
theorem dv_succ {q r y1 U : Nat} (h0 : 0 < q) (h : q * y1 + r = U) : (q - 1) * y1 + (r + y1) = U := by
  obtain ⟨k, rfl⟩ : ∃ k, q = k + 1 := ⟨q - 1, by omega⟩
  rw [Nat.add_mul] at h
  simp only [Nat.add_sub_cancel]
  omega
theorem dv_start {U Y y1 y0 d : Nat} (hY : Y = y1 * 4294967296 + y0) (h1 : 0 < y1) (hd : d < 4294967296) : (U * 4294967296 + d) / Y ≤ U / y1 := by
  rw [Nat.le_div_iff_mul_le h1]
  have h2 : (U * 4294967296 + d) / Y * Y ≤ U * 4294967296 + d := Nat.div_mul_le_self _ _
  rw [dv_split hY] at h2
  omega
theorem dv_top {hi lo y s : Nat} (hh : hi < y) (hl : lo < 18446744073709551616) : (hi * 18446744073709551616 + lo) * 2 ^ s < y * 2 ^ s * 18446744073709551616 := by
  rw [Nat.mul_right_comm]
  exact Nat.mul_lt_mul_of_pos_right (by omega) (Nat.pow_pos (by decide))
theorem dv_rest' {A b z t : Nat} (h1 : z + t = A * 4294967296 + b) (h2 : t < 18446744073709551616) : ((A * 4294967296 % 18446744073709551616 + b) % 18446744073709551616 + (18446744073709551616 - z % 18446744073709551616)) % 18446744073709551616 = t := by omega
theorem dv_rest {A b Q Y : Nat} (hY : 0 < Y) (hY2 : Y < 18446744073709551616) (hQ : Q = (A * 4294967296 + b) / Y) : ((A * 4294967296 % 18446744073709551616 + b) % 18446744073709551616 + (18446744073709551616 - Q * Y % 18446744073709551616)) % 18446744073709551616 = (A * 4294967296 + b) % Y := by
  have h1 := Nat.div_add_mod (A * 4294967296 + b) Y
  have h2 := Nat.mod_lt (A * 4294967296 + b) hY
  rw [← hQ, Nat.mul_comm Y] at h1
  exact dv_rest' h1 (Nat.lt_trans h2 hY2)
theorem dv_fin' {n U L u1 u0 z1 z0 R t : Nat} (hU : U = n / 18446744073709551616) (hL : L = n % 18446744073709551616) (hu1 : u1 = L / 4294967296) (hu0 : u0 = L % 4294967296) (b1 : z1 + R = U * 4294967296 + u1) (b2 : z0 + t = R * 4294967296 + u0) : n = z1 * 4294967296 + z0 + t := by omega
theorem dv_fin {N y s Y U L u1 u0 Q1 Q0 R : Nat} (h0 : 0 < y) (hY : Y = y * 2 ^ s) (hU : U = N * 2 ^ s / 18446744073709551616) (hL : L = N * 2 ^ s % 18446744073709551616) (hu1 : u1 = L / 4294967296) (hu0 : u0 = L % 4294967296)
    (hQ1 : Q1 = (U * 4294967296 + u1) / Y) (hR : R = (U * 4294967296 + u1) % Y) (hQ0 : Q0 = (R * 4294967296 + u0) / Y) (hUY : U < Y) :
    (Q1 * 4294967296 % 18446744073709551616 + Q0) % 18446744073709551616 = N / y ∧ (R * 4294967296 + u0) % Y / 2 ^ s = N % y := by
  have hp : 0 < 2 ^ s := Nat.pow_pos (by decide)
  have hY0 : 0 < Y := by rw [hY]; exact Nat.mul_pos h0 hp
  have a1 : Q1 < 4294967296 := by rw [hQ1, Nat.div_lt_iff_lt_mul hY0]; omega
  have a2 : R < Y := by rw [hR]; exact Nat.mod_lt _ hY0
  have a3 : Q0 < 4294967296 := by rw [hQ0, Nat.div_lt_iff_lt_mul hY0]; omega
  have b1 := Nat.div_add_mod (U * 4294967296 + u1) Y
  rw [← hQ1, ← hR] at b1
  have b2 := Nat.div_add_mod (R * 4294967296 + u0) Y
  rw [← hQ0] at b2
  have b3 := Nat.mod_lt (R * 4294967296 + u0) hY0
  obtain ⟨t, ht⟩ : ∃ t, t = (R * 4294967296 + u0) % Y := ⟨_, rfl⟩
  rw [← ht] at b2 b3 ⊢
  have c1 : N * 2 ^ s = Y * (Q1 * 4294967296 + Q0) + t := by
    rw [Nat.mul_add, ← Nat.mul_assoc]
    exact dv_fin' hU hL hu1 hu0 b1 b2
  have hd : Y = 2 ^ s * y := by rw [hY, Nat.mul_comm]
  have c2 : N = y * (Q1 * 4294967296 + Q0) + t / 2 ^ s := by
    have e : N * 2 ^ s / 2 ^ s = (Y * (Q1 * 4294967296 + Q0) + t) / 2 ^ s := by rw [c1]
    rw [Nat.mul_div_cancel _ hp, hd, Nat.mul_assoc, Nat.mul_add_div hp] at e
    exact e
  have c3 : t / 2 ^ s < y := by rw [Nat.div_lt_iff_lt_mul hp, ← hY]; exact b3
  constructor
  · rw [Nat.mod_eq_of_lt (a := Q1 * 4294967296) (by omega), Nat.mod_eq_of_lt (by omega)]
    rw [c2, Nat.mul_add_div h0, Nat.div_eq_of_lt c3, Nat.add_zero]
  · rw [c2, Nat.mul_add_mod, Nat.mod_eq_of_lt c3]
theorem bits_Div64 (hi lo y : Nat) (hlo : lo < 18446744073709551616) (hy : y < 18446744073709551616) (hh : hi < y) (w0 : World) : Calls Try.prog 153 #[.int .u64 hi, .int .u64 lo, .int .u64 y] w0 fun e w => e = .returned (.tuple #[.int .u64 (((hi * 18446744073709551616 + lo) / y : Nat) : Int), .int .u64 (((hi * 18446744073709551616 + lo) % y : Nat) : Int)]) ∧ Below w0.heap.size w0 w := by
 have hyp : 0 < y := by omega
 refine enter_sx [(0, vW hi), (1, vW lo), (2, vW y)] 135 Try.func153 rfl rfl (Nat.le_of_ble_eq_true (by kernel_rfl)) (fun γ => by kernel_rfl) ?_
 intro γ ac hE
 refine sq_t hE [Rw 6 (vW 0), Rw 7 (vW 0)] [(0, vW hi), (1, vW lo), (2, vW y), (6, vW 0), (7, vW 0)] [] ⟨tp, tp, trivial⟩ ?_
 clear hE; intro γ ac wc hE
 refine wp_seq ?_
 refine sq_t hE [Rw 19 (vW y) [(2, vW y)], Rw 20 (vB (decide (y = 0))) [(19, vW y)]] [(0, vW hi), (1, vW lo), (2, vW y), (6, vW 0), (7, vW 0), (20, vB (decide (y = 0)))] [] ⟨tp, tE fun _ => d_eql _ _, trivial⟩ ?_
 clear hE; intro γ ac wc hE
 refine cond_sx hE rfl (fun hb1 => ?_) (fun hb1 => ?_)
 ·
  have hb1p := of_decide_eq_true hb1
  exact absurd hb1p (by omega)
 ·
  have hb1p := of_decide_eq_false hb1
  refine wp_skip ?_
  refine then_normal ?_
  refine wp_seq ?_
  refine sq_t hE [Rw 22 (vW y) [(2, vW y)], Rw 23 (vW hi) [(0, vW hi)], Rw 24 (vB (decide (y ≤ hi))) [(22, vW y), (23, vW hi)]] [(0, vW hi), (1, vW lo), (2, vW y), (6, vW 0), (7, vW 0), (24, vB (decide (y ≤ hi)))] [] ⟨tp, tp, tE fun _ => d_leq _ _, trivial⟩ ?_
  clear hE; intro γ ac wc hE
  refine cond_sx hE rfl (fun hb2 => ?_) (fun hb2 => ?_)
  ·
   have hb2p := of_decide_eq_true hb2
   exact absurd hb2p (by omega)
  ·
   have hb2p := of_decide_eq_false hb2
   refine wp_skip ?_
   refine then_normal ?_
   refine wp_seq ?_
   refine sq_t hE [Rw 26 (vW hi) [(0, vW hi)], Rw 27 (vB (decide (hi = 0))) [(26, vW hi)]] [(0, vW hi), (1, vW lo), (2, vW y), (6, vW 0), (7, vW 0), (27, vB (decide (hi = 0)))] [] ⟨tp, tE fun _ => d_eql _ _, trivial⟩ ?_
   clear hE; intro γ ac wc hE
   refine cond_sx hE rfl (fun hb3 => ?_) (fun hb3 => ?_)
   ·
    have hb3p := of_decide_eq_true hb3
    refine sq_d hE [Rw 28 (vW lo) [(1, vW lo)], Rw 29 (vW y) [(2, vW y)], Rw 30 (vW (lo / y)) [(28, vW lo), (29, vW y)], Rw 31 (vW lo) [(1, vW lo)], Rw 32 (vW y) [(2, vW y)], Rw 33 (vW (lo % y)) [(31, vW lo), (32, vW y)], Rw 6 (vW (lo / y)) [(30, vW (lo / y))], Rw 7 (vW (lo % y)) [(33, vW (lo % y))]] [(0, vW hi), (1, vW lo), (2, vW y), (6, vW (lo / y)), (7, vW (lo % y))] [] ⟨tp, tp, t_quo_u64, tp, tp, t_rem_u64, tp, tp, trivial⟩ ?_
    clear hE; intro γ ac wc hE
    refine wp_ret ?_
    refine then_ret ?_
    exact (end2 hE rfl (.tmp 6 (vW (lo / y)) rfl) (.tmp 7 (vW (lo % y)) rfl) (⟨by rw [show hi = 0 from by assumption, Nat.zero_mul, Nat.zero_add]; rfl, hE.keep.below⟩)).1
   ·
    have hb3p := of_decide_eq_false hb3
    refine wp_skip ?_
    refine then_normal ?_
    refine sq_t hE [Rw 34 (vW y) [(2, vW y)], Rw 35 (vI (64 - Lib.bitLen y)) [(34, vW y)], Rw 36 (vW (64 - Lib.bitLen y)) [(35, vI (64 - Lib.bitLen y))], Rw 8 (vW (64 - Lib.bitLen y)) [(36, vW (64 - Lib.bitLen y))]] [(0, vW hi), (1, vW lo), (2, vW y), (6, vW 0), (7, vW 0), (8, vW (64 - Lib.bitLen y))] [] ⟨tp, tq fun w => lz64 y (by omega) w, tE fun _ => wr_u64 rfl (by omega), tp, trivial⟩ ?_
    clear hE; intro γ ac wc hE
    obtain ⟨s, hs⟩ : ∃ z : Nat, z = 64 - Lib.bitLen y := ⟨_, rfl⟩
    rw [← hs] at hE
    have hn := dv_norm (y := y) (s := s) hyp hy hs
    refine sq_t hE [Rw 37 (vW y) [(2, vW y)], Rw 38 (vW s) [(8, vW s)], Rw 39 (vW (y * 2 ^ s)) [(37, vW y), (38, vW s)], Rw 2 (vW (y * 2 ^ s)) [(39, vW (y * 2 ^ s))]] [(0, vW hi), (1, vW lo), (2, vW (y * 2 ^ s)), (6, vW 0), (7, vW 0), (8, vW s)] [] ⟨tp, tp, trip_bin .shl 22 30 (.tmp 37) (.tmp 38) (.int .u64 ((y : Nat) : Int)) (.int .u64 ((s : Nat) : Int)) (.int .u64 ((y * 2 ^ s : Nat) : Int)) rfl rfl rfl (by kernel_rfl) rfl rfl (fun γ => by kernel_rfl) (fun γ => by kernel_rfl) (fun _ _ => rfl) (fun w => (b_shl_u64 _ _ _ (by omega)).trans (congrArg (fun n : Nat => Result.ok (Value.int .u64 (n : Int)) w) (Nat.mod_eq_of_lt hn.2.1))) (fun γ => rfl), tp, trivial⟩ ?_
    clear hE; intro γ ac wc hE
    obtain ⟨Y, hY⟩ : ∃ z : Nat, z = y * 2 ^ s := ⟨_, rfl⟩
    rw [← hY] at hE
    have hY0 : 0 < Y := by omega
    have hY2 : Y < 18446744073709551616 := by omega
    have hY3 : 9223372036854775808 ≤ Y := by omega
    refine sq_t hE [Rw 40 (vW Y) [(2, vW Y)], Rw 41 (vW (Y / 2 ^ 32)) [(40, vW Y)], Rw 9 (vW (Y / 2 ^ 32)) [(41, vW (Y / 2 ^ 32))]] [(0, vW hi), (1, vW lo), (2, vW Y), (6, vW 0), (7, vW 0), (8, vW s), (9, vW (Y / 2 ^ 32))] [] ⟨tp, t_shr_u64, tp, trivial⟩ ?_
    clear hE; intro γ ac wc hE
    obtain ⟨y1, hy1⟩ : ∃ z : Nat, z = Y / 2 ^ 32 := ⟨_, rfl⟩
    rw [← hy1] at hE
    simp only [show (2 : Nat) ^ 32 = 4294967296 from rfl] at hy1
    refine sq_t hE [Rw 42 (vW Y) [(2, vW Y)], Rw 43 (vW (Y % 4294967296)) [(42, vW Y)], Rw 10 (vW (Y % 4294967296)) [(43, vW (Y % 4294967296))]] [(0, vW hi), (1, vW lo), (2, vW Y), (6, vW 0), (7, vW 0), (8, vW s), (9, vW y1), (10, vW (Y % 4294967296))] [] ⟨tp, trip_bin .and 22 22 (.tmp 42) (.const (.int .u64 ((4294967295 : Nat) : Int))) (.int .u64 ((Y : Nat) : Int)) (.int .u64 ((4294967295 : Nat) : Int)) (.int .u64 ((Y % 4294967296 : Nat) : Int)) rfl rfl rfl (by kernel_rfl) rfl rfl (fun γ => by kernel_rfl) (fun γ => by kernel_rfl) (fun _ _ => rfl) (fun w => (b_and_u64 _ _ (by omega) (by decide)).trans (congrArg (fun n : Nat => Result.ok (Value.int .u64 (n : Int)) w) (and32 Y))) (fun γ => rfl), tp, trivial⟩ ?_
    clear hE; intro γ ac wc hE
    obtain ⟨y0, hy0⟩ : ∃ z : Nat, z = Y % 4294967296 := ⟨_, rfl⟩
    rw [← hy0] at hE
    have hYs : Y = y1 * 4294967296 + y0 := by omega
    replace hy0 : y0 < 4294967296 := by omega
    refine sq_t hE [Rw 44 (vW hi) [(0, vW hi)], Rw 45 (vW s) [(8, vW s)], Rw 46 (vW (hi * 2 ^ s % 18446744073709551616)) [(44, vW hi), (45, vW s)], Rw 47 (vW lo) [(1, vW lo)], Rw 48 (vW s) [(8, vW s)], Rw 49 (vW (64 - s)) [(48, vW s)], Rw 50 (vW (lo / 2 ^ (64 - s))) [(47, vW lo), (49, vW (64 - s))], Rw 51 (vW ((hi * 18446744073709551616 + lo) * 2 ^ s / 18446744073709551616)) [(46, vW (hi * 2 ^ s % 18446744073709551616)), (50, vW (lo / 2 ^ (64 - s)))], Rw 11 (vW ((hi * 18446744073709551616 + lo) * 2 ^ s / 18446744073709551616)) [(51, vW ((hi * 18446744073709551616 + lo) * 2 ^ s / 18446744073709551616))]] [(0, vW hi), (1, vW lo), (2, vW Y), (6, vW 0), (7, vW 0), (8, vW s), (9, vW y1), (10, vW y0), (11, vW ((hi * 18446744073709551616 + lo) * 2 ^ s / 18446744073709551616))] [] ⟨tp, tp, t_shl_u64, tp, tp, tE (x := .int .u64 (IntKind.u64.wrap (((64 : Nat) : Int) - ((s : Nat) : Int)))) fun _ => (wu_sub _ _ (by omega)).trans (congrArg (fun n : Nat => Value.int .u64 (n : Int)) (by omega)), t_shr_u64, trip_bin .or 22 22 (.tmp 46) (.tmp 50) (.int .u64 ((hi * 2 ^ s % 18446744073709551616 : Nat) : Int)) (.int .u64 ((lo / 2 ^ (64 - s) : Nat) : Int)) (.int .u64 (((hi * 18446744073709551616 + lo) * 2 ^ s / 18446744073709551616 : Nat) : Int)) rfl rfl rfl (by kernel_rfl) rfl rfl (fun γ => by kernel_rfl) (fun γ => by kernel_rfl) (fun _ _ => rfl) (fun w => (b_or_u64 _ _ (Nat.mod_lt _ (by decide)) (Nat.lt_of_le_of_lt (Nat.div_le_self _ _) hlo)).trans (congrArg (fun n : Nat => Result.ok (Value.int .u64 (n : Int)) w) (dv_hi hn.1 hlo (by omega) hn.2.1))) (fun γ => rfl), tp, trivial⟩ ?_
    clear hE; intro γ ac wc hE
    obtain ⟨U, hU⟩ : ∃ z : Nat, z = (hi * 18446744073709551616 + lo) * 2 ^ s / 18446744073709551616 := ⟨_, rfl⟩
    rw [← hU] at hE
    have hUY : U < Y := by rw [hU, Nat.div_lt_iff_lt_mul (by decide), hY]; exact dv_top (by omega) hlo
    refine sq_t hE [Rw 52 (vW lo) [(1, vW lo)], Rw 53 (vW s) [(8, vW s)], Rw 54 (vW ((hi * 18446744073709551616 + lo) * 2 ^ s % 18446744073709551616)) [(52, vW lo), (53, vW s)], Rw 12 (vW ((hi * 18446744073709551616 + lo) * 2 ^ s % 18446744073709551616)) [(54, vW ((hi * 18446744073709551616 + lo) * 2 ^ s % 18446744073709551616))]] [(0, vW hi), (1, vW lo), (2, vW Y), (6, vW 0), (7, vW 0), (8, vW s), (9, vW y1), (10, vW y0), (11, vW U), (12, vW ((hi * 18446744073709551616 + lo) * 2 ^ s % 18446744073709551616))] [] ⟨tp, tp, trip_bin .shl 22 30 (.tmp 52) (.tmp 53) (.int .u64 ((lo : Nat) : Int)) (.int .u64 ((s : Nat) : Int)) (.int .u64 (((hi * 18446744073709551616 + lo) * 2 ^ s % 18446744073709551616 : Nat) : Int)) rfl rfl rfl (by kernel_rfl) rfl rfl (fun γ => by kernel_rfl) (fun γ => by kernel_rfl) (fun _ _ => rfl) (fun w => (b_shl_u64 _ _ _ (by omega)).trans (congrArg (fun n : Nat => Result.ok (Value.int .u64 (n : Int)) w) dv_lo)) (fun γ => rfl), tp, trivial⟩ ?_
    clear hE; intro γ ac wc hE
    obtain ⟨L, hL⟩ : ∃ z : Nat, z = (hi * 18446744073709551616 + lo) * 2 ^ s % 18446744073709551616 := ⟨_, rfl⟩
    rw [← hL] at hE
    have hL2 : L < 18446744073709551616 := by rw [hL]; exact Nat.mod_lt _ (by decide)
    refine sq_t hE [Rw 55 (vW L) [(12, vW L)], Rw 56 (vW (L / 2 ^ 32)) [(55, vW L)], Rw 13 (vW (L / 2 ^ 32)) [(56, vW (L / 2 ^ 32))]] [(0, vW hi), (1, vW lo), (2, vW Y), (6, vW 0), (7, vW 0), (8, vW s), (9, vW y1), (10, vW y0), (11, vW U), (12, vW L), (13, vW (L / 2 ^ 32))] [] ⟨tp, t_shr_u64, tp, trivial⟩ ?_
    clear hE; intro γ ac wc hE
    obtain ⟨u1, hu1⟩ : ∃ z : Nat, z = L / 2 ^ 32 := ⟨_, rfl⟩
    rw [← hu1] at hE
    simp only [show (2 : Nat) ^ 32 = 4294967296 from rfl] at hu1
    refine sq_t hE [Rw 57 (vW L) [(12, vW L)], Rw 58 (vW (L % 4294967296)) [(57, vW L)], Rw 14 (vW (L % 4294967296)) [(58, vW (L % 4294967296))]] [(0, vW hi), (1, vW lo), (2, vW Y), (6, vW 0), (7, vW 0), (8, vW s), (9, vW y1), (10, vW y0), (11, vW U), (12, vW L), (13, vW u1), (14, vW (L % 4294967296))] [] ⟨tp, trip_bin .and 22 22 (.tmp 57) (.const (.int .u64 ((4294967295 : Nat) : Int))) (.int .u64 ((L : Nat) : Int)) (.int .u64 ((4294967295 : Nat) : Int)) (.int .u64 ((L % 4294967296 : Nat) : Int)) rfl rfl rfl (by kernel_rfl) rfl rfl (fun γ => by kernel_rfl) (fun γ => by kernel_rfl) (fun _ _ => rfl) (fun w => (b_and_u64 _ _ (by omega) (by decide)).trans (congrArg (fun n : Nat => Result.ok (Value.int .u64 (n : Int)) w) (and32 L))) (fun γ => rfl), tp, trivial⟩ ?_
    clear hE; intro γ ac wc hE
    obtain ⟨u0, hu0⟩ : ∃ z : Nat, z = L % 4294967296 := ⟨_, rfl⟩
    rw [← hu0] at hE
    have hu1l : u1 < 4294967296 := by omega
    have hu0l : u0 < 4294967296 := by omega
    refine sq_t hE [Rw 59 (vW U) [(11, vW U)], Rw 60 (vW y1) [(9, vW y1)], Rw 61 (vW (U / y1)) [(59, vW U), (60, vW y1)], Rw 15 (vW (U / y1)) [(61, vW (U / y1))]] [(0, vW hi), (1, vW lo), (2, vW Y), (6, vW 0), (7, vW 0), (8, vW s), (9, vW y1), (10, vW y0), (11, vW U), (12, vW L), (13, vW u1), (14, vW u0), (15, vW (U / y1))] [] ⟨tp, tp, t_quo_u64, tp, trivial⟩ ?_
    clear hE; intro γ ac wc hE
    refine sq_t hE [Rw 62 (vW U) [(11, vW U)], Rw 63 (vW (U / y1)) [(15, vW (U / y1))], Rw 64 (vW y1) [(9, vW y1)], Rw 65 (vW (U / y1 * y1)) [(63, vW (U / y1)), (64, vW y1)], Rw 66 (vW (U % y1)) [(62, vW U), (65, vW (U / y1 * y1))], Rw 16 (vW (U % y1)) [(66, vW (U % y1))]] [(0, vW hi), (1, vW lo), (2, vW Y), (6, vW 0), (7, vW 0), (8, vW s), (9, vW y1), (10, vW y0), (11, vW U), (12, vW L), (13, vW u1), (14, vW u0), (15, vW (U / y1)), (16, vW (U % y1))] [] ⟨tp, tp, tp, tE (x := .int .u64 (IntKind.u64.wrap (((U / y1 : Nat) : Int) * ((y1 : Nat) : Int)))) fun _ => (wu_mul _ _).trans (congrArg (fun n : Nat => Value.int .u64 (n : Int)) (Nat.mod_eq_of_lt (Nat.lt_of_le_of_lt (Nat.div_mul_le_self _ _) (by omega)))), tE (x := .int .u64 (IntKind.u64.wrap (((U : Nat) : Int) - ((U / y1 * y1 : Nat) : Int)))) fun _ => (wu_sub _ _ (Nat.le_trans (Nat.div_mul_le_self _ _) (by omega))).trans (congrArg (fun n : Nat => Value.int .u64 (n : Int)) (by have h1 := Nat.div_add_mod U y1; rw [Nat.mul_comm] at h1; have h2 := Nat.mod_lt U (show 0 < y1 by omega); omega)), tp, trivial⟩ ?_
    clear hE; intro γ ac wc hE
    refine wp_seq ?_
    refine wp_block ?_
    refine loop_sx (σ := Nat × Nat) (fun (q, r) => q) (fun (q, r) => q * y1 + r = U ∧ (U * 4294967296 + u1) / Y ≤ q ∧ r < 4294967296)
        (fun (q, r) => [(0, vW hi), (1, vW lo), (2, vW Y), (6, vW 0), (7, vW 0), (8, vW s), (9, vW y1), (10, vW y0), (11, vW U), (12, vW L), (13, vW u1), (14, vW u0), (15, vW q), (16, vW r)])
        (fun (q, r) => [])
        ((U / y1, U % y1)) (⟨by rw [Nat.mul_comm]; exact Nat.div_add_mod U y1, dv_start hYs (by omega) hu1l, Nat.lt_of_lt_of_le (Nat.mod_lt _ (by omega)) (by omega)⟩) (hE.sub (by kernel_rfl) (by kernel_rfl)) ?_
    clear hE; rintro ⟨q, r⟩ γ ac wc ga hE
    replace ga : q * y1 + r = U ∧ (U * 4294967296 + u1) / Y ≤ q ∧ r < 4294967296 := ga
    replace hE : Env _ _ _ w0 (lk [(0, vW hi), (1, vW lo), (2, vW Y), (6, vW 0), (7, vW 0), (8, vW s), (9, vW y1), (10, vW y0), (11, vW U), (12, vW L), (13, vW u1), (14, vW u0), (15, vW q), (16, vW r)]) (lk []) γ ac wc := hE
    obtain ⟨ga1, ga2, ga3⟩ := ga
    have ga4 := dv_q hYs hY3 hy0 hUY ga1
    refine wp_seq ?_
    rcases Bool.eq_false_or_eq_true (decide (4294967296 ≤ q)) with hb4 | hb4
    ·
     have hb4p := of_decide_eq_true hb4
     have hq := dv_dec hYs hY0 hUY hu1l ga1 (.inl hb4p)
     refine sq_t hE [Rw 67 (vW q) [(15, vW q)], Rw 68 (vB true) [(67, vW q)], Rw 69 (vB true) [(68, vB true)], Rw 70 vU [(69, vB true)], Rw 71 vU [(69, vB true)], Rw 72 vU [(69, vB true)], Rw 73 vU [(69, vB true)], Rw 74 vU [(69, vB true)], Rw 75 vU [(69, vB true)], Rw 76 vU [(69, vB true)], Rw 77 vU [(69, vB true)], Rw 78 (vB true) [(69, vB true), (77, vU)]] [(0, vW hi), (1, vW lo), (2, vW Y), (6, vW 0), (7, vW 0), (8, vW s), (9, vW y1), (10, vW y0), (11, vW U), (12, vW L), (13, vW u1), (14, vW u0), (15, vW q), (16, vW r), (78, vB true)] [] ⟨tp, tE fun _ => (d_geq _ _).trans (congrArg Value.bool hb4), tp, tof, tof, tof, tof, tof, tof, tof, tof, tp, trivial⟩ ?_
     clear hE; intro γ ac wc hE
     refine cond_sx hE rfl (fun _ => ?_) (fun h => by cases h)
     refine wp_skip ?_
     refine then_normal ?_
     refine wp_block ?_
     refine sq_t hE [Rw 79 (vW q) [(15, vW q)], Rw 80 (vW (q - 1)) [(79, vW q)], Rw 15 (vW (q - 1)) [(80, vW (q - 1))]] [(0, vW hi), (1, vW lo), (2, vW Y), (6, vW 0), (7, vW 0), (8, vW s), (9, vW y1), (10, vW y0), (11, vW U), (12, vW L), (13, vW u1), (14, vW u0), (15, vW (q - 1)), (16, vW r)] [] ⟨tp, tE (x := .int .u64 (IntKind.u64.wrap (((q : Nat) : Int) - ((1 : Nat) : Int)))) fun _ => (wu_sub _ _ (by omega)).trans (congrArg (fun n : Nat => Value.int .u64 (n : Int)) (by have := hq.1; omega)), tp, trivial⟩ ?_
     clear hE; intro γ ac wc hE
     refine sq_t hE [Rw 81 (vW r) [(16, vW r)], Rw 82 (vW y1) [(9, vW y1)], Rw 83 (vW (r + y1)) [(81, vW r), (82, vW y1)], Rw 16 (vW (r + y1)) [(83, vW (r + y1))]] [(0, vW hi), (1, vW lo), (2, vW Y), (6, vW 0), (7, vW 0), (8, vW s), (9, vW y1), (10, vW y0), (11, vW U), (12, vW L), (13, vW u1), (14, vW u0), (15, vW (q - 1)), (16, vW (r + y1))] [] ⟨tp, tp, tE (x := .int .u64 (IntKind.u64.wrap (((r : Nat) : Int) + ((y1 : Nat) : Int)))) fun _ => (wu_add _ _).trans (congrArg (fun n : Nat => Value.int .u64 (n : Int)) (Nat.mod_eq_of_lt (by omega))), tp, trivial⟩ ?_
     clear hE; intro γ ac wc hE
     refine sq_t hE [Rw 84 (vW (r + y1)) [(16, vW (r + y1))], Rw 85 (vB (decide (4294967296 ≤ r + y1))) [(84, vW (r + y1))]] [(0, vW hi), (1, vW lo), (2, vW Y), (6, vW 0), (7, vW 0), (8, vW s), (9, vW y1), (10, vW y0), (11, vW U), (12, vW L), (13, vW u1), (14, vW u0), (15, vW (q - 1)), (16, vW (r + y1)), (85, vB (decide (4294967296 ≤ r + y1)))] [] ⟨tp, tE fun _ => d_geq _ _, trivial⟩ ?_
     clear hE; intro γ ac wc hE
     refine cond_sx hE rfl (fun hb5 => ?_) (fun hb5 => ?_)
     ·
      have hb5p := of_decide_eq_true hb5
      have hqe := dv_end2 hYs hY0 hy0 (dv_succ hq.1 ga1) hq.2 (by omega) hb5p
      refine wp_exit ?_
      refine blk_miss (by decide) ?_
      refine then_exit ?_
      refine blk_hit ?_
      refine then_normal ?_
      refine sq_t hE [Rw 86 (vW U) [(11, vW U)], Rw 87 (vW ((U * 4294967296) % 18446744073709551616)) [(86, vW U)], Rw 88 (vW u1) [(13, vW u1)], Rw 89 (vW ((((U * 4294967296) % 18446744073709551616) + u1) % 18446744073709551616)) [(87, vW ((U * 4294967296) % 18446744073709551616)), (88, vW u1)], Rw 90 (vW (q - 1)) [(15, vW (q - 1))], Rw 91 (vW Y) [(2, vW Y)], Rw 92 (vW (((q - 1) * Y) % 18446744073709551616)) [(90, vW (q - 1)), (91, vW Y)], Rw 93 (vW ((((((U * 4294967296) % 18446744073709551616) + u1) % 18446744073709551616) + (18446744073709551616 - (((q - 1) * Y) % 18446744073709551616))) % 18446744073709551616)) [(89, vW ((((U * 4294967296) % 18446744073709551616) + u1) % 18446744073709551616)), (92, vW (((q - 1) * Y) % 18446744073709551616))], Rw 17 (vW ((((((U * 4294967296) % 18446744073709551616) + u1) % 18446744073709551616) + (18446744073709551616 - (((q - 1) * Y) % 18446744073709551616))) % 18446744073709551616)) [(93, vW ((((((U * 4294967296) % 18446744073709551616) + u1) % 18446744073709551616) + (18446744073709551616 - (((q - 1) * Y) % 18446744073709551616))) % 18446744073709551616))]] [(0, vW hi), (1, vW lo), (2, vW Y), (6, vW 0), (7, vW 0), (8, vW s), (9, vW y1), (10, vW y0), (11, vW U), (12, vW L), (13, vW u1), (14, vW u0), (15, vW (q - 1)), (16, vW (r + y1)), (17, vW ((((((U * 4294967296) % 18446744073709551616) + u1) % 18446744073709551616) + (18446744073709551616 - (((q - 1) * Y) % 18446744073709551616))) % 18446744073709551616))] [] ⟨tp, tE fun _ => wu_mul _ _, tp, tE fun _ => wu_add _ _, tp, tp, tE fun _ => wu_mul _ _, tE fun _ => wu_sub _ _ (by omega), tp, trivial⟩ ?_
      clear hE; intro γ ac wc hE
      obtain ⟨R, hR⟩ : ∃ z : Nat, z = (((((U * 4294967296) % 18446744073709551616) + u1) % 18446744073709551616) + (18446744073709551616 - (((q - 1) * Y) % 18446744073709551616))) % 18446744073709551616 := ⟨_, rfl⟩
      rw [← hR] at hE
      rw [dv_rest hY0 hY2 hqe] at hR
      have hRY : R < Y := by rw [hR]; exact Nat.mod_lt _ hY0
      refine sq_t hE [Rw 94 (vW R) [(17, vW R)], Rw 95 (vW y1) [(9, vW y1)], Rw 96 (vW (R / y1)) [(94, vW R), (95, vW y1)], Rw 18 (vW (R / y1)) [(96, vW (R / y1))]] [(0, vW hi), (1, vW lo), (2, vW Y), (6, vW 0), (7, vW 0), (8, vW s), (9, vW y1), (10, vW y0), (11, vW U), (12, vW L), (13, vW u1), (14, vW u0), (15, vW (q - 1)), (16, vW (r + y1)), (17, vW R), (18, vW (R / y1))] [] ⟨tp, tp, t_quo_u64, tp, trivial⟩ ?_
      clear hE; intro γ ac wc hE
      refine sq_t hE [Rw 97 (vW R) [(17, vW R)], Rw 98 (vW (R / y1)) [(18, vW (R / y1))], Rw 99 (vW y1) [(9, vW y1)], Rw 100 (vW (R / y1 * y1)) [(98, vW (R / y1)), (99, vW y1)], Rw 101 (vW (R % y1)) [(97, vW R), (100, vW (R / y1 * y1))], Rw 16 (vW (R % y1)) [(101, vW (R % y1))]] [(0, vW hi), (1, vW lo), (2, vW Y), (6, vW 0), (7, vW 0), (8, vW s), (9, vW y1), (10, vW y0), (11, vW U), (12, vW L), (13, vW u1), (14, vW u0), (15, vW (q - 1)), (16, vW (R % y1)), (17, vW R), (18, vW (R / y1))] [] ⟨tp, tp, tp, tE (x := .int .u64 (IntKind.u64.wrap (((R / y1 : Nat) : Int) * ((y1 : Nat) : Int)))) fun _ => (wu_mul _ _).trans (congrArg (fun n : Nat => Value.int .u64 (n : Int)) (Nat.mod_eq_of_lt (Nat.lt_of_le_of_lt (Nat.div_mul_le_self _ _) (by omega)))), tE (x := .int .u64 (IntKind.u64.wrap (((R : Nat) : Int) - ((R / y1 * y1 : Nat) : Int)))) fun _ => (wu_sub _ _ (Nat.le_trans (Nat.div_mul_le_self _ _) (by omega))).trans (congrArg (fun n : Nat => Value.int .u64 (n : Int)) (by have h1 := Nat.div_add_mod R y1; rw [Nat.mul_comm] at h1; have h2 := Nat.mod_lt R (show 0 < y1 by omega); omega)), tp, trivial⟩ ?_
      clear hE; intro γ ac wc hE
      refine wp_seq ?_
      refine wp_block ?_
      refine loop_sx (σ := Nat × Nat) (fun (p, t) => p) (fun (p, t) => p * y1 + t = R ∧ (R * 4294967296 + u0) / Y ≤ p ∧ t < 4294967296)
          (fun (p, t) => [(0, vW hi), (1, vW lo), (2, vW Y), (6, vW 0), (7, vW 0), (8, vW s), (9, vW y1), (10, vW y0), (11, vW U), (12, vW L), (13, vW u1), (14, vW u0), (15, vW (q - 1)), (16, vW t), (17, vW R), (18, vW p)])
          (fun (p, t) => [])
          ((R / y1, R % y1)) (⟨by rw [Nat.mul_comm]; exact Nat.div_add_mod R y1, dv_start hYs (by omega) hu0l, Nat.lt_of_lt_of_le (Nat.mod_lt _ (by omega)) (by omega)⟩) (hE.sub (by kernel_rfl) (by kernel_rfl)) ?_
      clear hE; rintro ⟨p, t⟩ γ ac wc gb hE
      replace gb : p * y1 + t = R ∧ (R * 4294967296 + u0) / Y ≤ p ∧ t < 4294967296 := gb
      replace hE : Env _ _ _ w0 (lk [(0, vW hi), (1, vW lo), (2, vW Y), (6, vW 0), (7, vW 0), (8, vW s), (9, vW y1), (10, vW y0), (11, vW U), (12, vW L), (13, vW u1), (14, vW u0), (15, vW (q - 1)), (16, vW t), (17, vW R), (18, vW p)]) (lk []) γ ac wc := hE
      obtain ⟨gb1, gb2, gb3⟩ := gb
      have gb4 := dv_q hYs hY3 hy0 hRY gb1
      refine wp_seq ?_
      rcases Bool.eq_false_or_eq_true (decide (4294967296 ≤ p)) with hb6 | hb6
      ·
       have hb6p := of_decide_eq_true hb6
       have hp := dv_dec hYs hY0 hRY hu0l gb1 (.inl hb6p)
       refine sq_t hE [Rw 102 (vW p) [(18, vW p)], Rw 103 (vB true) [(102, vW p)], Rw 104 (vB true) [(103, vB true)], Rw 105 vU [(104, vB true)], Rw 106 vU [(104, vB true)], Rw 107 vU [(104, vB true)], Rw 108 vU [(104, vB true)], Rw 109 vU [(104, vB true)], Rw 110 vU [(104, vB true)], Rw 111 vU [(104, vB true)], Rw 112 vU [(104, vB true)], Rw 113 (vB true) [(104, vB true), (112, vU)]] [(0, vW hi), (1, vW lo), (2, vW Y), (6, vW 0), (7, vW 0), (8, vW s), (9, vW y1), (10, vW y0), (11, vW U), (12, vW L), (13, vW u1), (14, vW u0), (15, vW (q - 1)), (16, vW t), (17, vW R), (18, vW p), (113, vB true)] [] ⟨tp, tE fun _ => (d_geq _ _).trans (congrArg Value.bool hb6), tp, tof, tof, tof, tof, tof, tof, tof, tof, tp, trivial⟩ ?_
       clear hE; intro γ ac wc hE
       refine cond_sx hE rfl (fun _ => ?_) (fun h => by cases h)
       refine wp_skip ?_
       refine then_normal ?_
       refine wp_block ?_
       refine sq_t hE [Rw 114 (vW p) [(18, vW p)], Rw 115 (vW (p - 1)) [(114, vW p)], Rw 18 (vW (p - 1)) [(115, vW (p - 1))]] [(0, vW hi), (1, vW lo), (2, vW Y), (6, vW 0), (7, vW 0), (8, vW s), (9, vW y1), (10, vW y0), (11, vW U), (12, vW L), (13, vW u1), (14, vW u0), (15, vW (q - 1)), (16, vW t), (17, vW R), (18, vW (p - 1))] [] ⟨tp, tE (x := .int .u64 (IntKind.u64.wrap (((p : Nat) : Int) - ((1 : Nat) : Int)))) fun _ => (wu_sub _ _ (by omega)).trans (congrArg (fun n : Nat => Value.int .u64 (n : Int)) (by have := hp.1; omega)), tp, trivial⟩ ?_
       clear hE; intro γ ac wc hE
       refine sq_t hE [Rw 116 (vW t) [(16, vW t)], Rw 117 (vW y1) [(9, vW y1)], Rw 118 (vW (t + y1)) [(116, vW t), (117, vW y1)], Rw 16 (vW (t + y1)) [(118, vW (t + y1))]] [(0, vW hi), (1, vW lo), (2, vW Y), (6, vW 0), (7, vW 0), (8, vW s), (9, vW y1), (10, vW y0), (11, vW U), (12, vW L), (13, vW u1), (14, vW u0), (15, vW (q - 1)), (16, vW (t + y1)), (17, vW R), (18, vW (p - 1))] [] ⟨tp, tp, tE (x := .int .u64 (IntKind.u64.wrap (((t : Nat) : Int) + ((y1 : Nat) : Int)))) fun _ => (wu_add _ _).trans (congrArg (fun n : Nat => Value.int .u64 (n : Int)) (Nat.mod_eq_of_lt (by omega))), tp, trivial⟩ ?_
       clear hE; intro γ ac wc hE
       refine sq_t hE [Rw 119 (vW (t + y1)) [(16, vW (t + y1))], Rw 120 (vB (decide (4294967296 ≤ t + y1))) [(119, vW (t + y1))]] [(0, vW hi), (1, vW lo), (2, vW Y), (6, vW 0), (7, vW 0), (8, vW s), (9, vW y1), (10, vW y0), (11, vW U), (12, vW L), (13, vW u1), (14, vW u0), (15, vW (q - 1)), (16, vW (t + y1)), (17, vW R), (18, vW (p - 1)), (120, vB (decide (4294967296 ≤ t + y1)))] [] ⟨tp, tE fun _ => d_geq _ _, trivial⟩ ?_
       clear hE; intro γ ac wc hE
       refine cond_sx hE rfl (fun hb7 => ?_) (fun hb7 => ?_)
       ·
        have hb7p := of_decide_eq_true hb7
        have hpe := dv_end2 hYs hY0 hy0 (dv_succ hp.1 gb1) hp.2 (by omega) hb7p
        refine wp_exit ?_
        refine blk_miss (by decide) ?_
        refine then_exit ?_
        refine blk_hit ?_
        refine then_normal ?_
        refine sq_t hE [Rw 121 (vW (q - 1)) [(15, vW (q - 1))], Rw 122 (vW (((q - 1) * 4294967296) % 18446744073709551616)) [(121, vW (q - 1))], Rw 123 (vW (p - 1)) [(18, vW (p - 1))], Rw 124 (vW (((((q - 1) * 4294967296) % 18446744073709551616) + (p - 1)) % 18446744073709551616)) [(122, vW (((q - 1) * 4294967296) % 18446744073709551616)), (123, vW (p - 1))], Rw 125 (vW R) [(17, vW R)], Rw 126 (vW ((R * 4294967296) % 18446744073709551616)) [(125, vW R)], Rw 127 (vW u0) [(14, vW u0)], Rw 128 (vW ((((R * 4294967296) % 18446744073709551616) + u0) % 18446744073709551616)) [(126, vW ((R * 4294967296) % 18446744073709551616)), (127, vW u0)], Rw 129 (vW (p - 1)) [(18, vW (p - 1))], Rw 130 (vW Y) [(2, vW Y)], Rw 131 (vW (((p - 1) * Y) % 18446744073709551616)) [(129, vW (p - 1)), (130, vW Y)], Rw 132 (vW ((((((R * 4294967296) % 18446744073709551616) + u0) % 18446744073709551616) + (18446744073709551616 - (((p - 1) * Y) % 18446744073709551616))) % 18446744073709551616)) [(128, vW ((((R * 4294967296) % 18446744073709551616) + u0) % 18446744073709551616)), (131, vW (((p - 1) * Y) % 18446744073709551616))], Rw 133 (vW s) [(8, vW s)], Rw 134 (vW (((((((R * 4294967296) % 18446744073709551616) + u0) % 18446744073709551616) + (18446744073709551616 - (((p - 1) * Y) % 18446744073709551616))) % 18446744073709551616) / 2 ^ s)) [(132, vW ((((((R * 4294967296) % 18446744073709551616) + u0) % 18446744073709551616) + (18446744073709551616 - (((p - 1) * Y) % 18446744073709551616))) % 18446744073709551616)), (133, vW s)], Rw 6 (vW (((((q - 1) * 4294967296) % 18446744073709551616) + (p - 1)) % 18446744073709551616)) [(124, vW (((((q - 1) * 4294967296) % 18446744073709551616) + (p - 1)) % 18446744073709551616))], Rw 7 (vW (((((((R * 4294967296) % 18446744073709551616) + u0) % 18446744073709551616) + (18446744073709551616 - (((p - 1) * Y) % 18446744073709551616))) % 18446744073709551616) / 2 ^ s)) [(134, vW (((((((R * 4294967296) % 18446744073709551616) + u0) % 18446744073709551616) + (18446744073709551616 - (((p - 1) * Y) % 18446744073709551616))) % 18446744073709551616) / 2 ^ s))]] [(0, vW hi), (1, vW lo), (2, vW Y), (6, vW (((((q - 1) * 4294967296) % 18446744073709551616) + (p - 1)) % 18446744073709551616)), (7, vW (((((((R * 4294967296) % 18446744073709551616) + u0) % 18446744073709551616) + (18446744073709551616 - (((p - 1) * Y) % 18446744073709551616))) % 18446744073709551616) / 2 ^ s)), (8, vW s), (9, vW y1), (10, vW y0), (11, vW U), (12, vW L), (13, vW u1), (14, vW u0), (15, vW (q - 1)), (16, vW (t + y1)), (17, vW R), (18, vW (p - 1))] [] ⟨tp, tE fun _ => wu_mul _ _, tp, tE fun _ => wu_add _ _, tp, tE fun _ => wu_mul _ _, tp, tE fun _ => wu_add _ _, tp, tp, tE fun _ => wu_mul _ _, tE fun _ => wu_sub _ _ (by omega), tp, t_shr_u64, tp, tp, trivial⟩ ?_
        clear hE; intro γ ac wc hE
        refine wp_ret ?_
        have hf := dv_fin (N := hi * 18446744073709551616 + lo) (Q1 := q - 1) (Q0 := p - 1) (R := R) hyp hY hU hL hu1 hu0 hqe hR hpe hUY
        exact (end2 hE rfl (.tmp 6 (vW (((((q - 1) * 4294967296) % 18446744073709551616) + (p - 1)) % 18446744073709551616)) rfl) (.tmp 7 (vW (((((((R * 4294967296) % 18446744073709551616) + u0) % 18446744073709551616) + (18446744073709551616 - (((p - 1) * Y) % 18446744073709551616))) % 18446744073709551616) / 2 ^ s)) rfl) (⟨by rw [dv_rest hY0 hY2 hpe, hf.1, hf.2]; rfl, hE.keep.below⟩)).1
       ·
        have hb7p := of_decide_eq_false hb7
        refine wp_skip ?_
        refine blk_normal ?_
        refine then_normal ⟨(p - 1, t + y1), (by show p - 1 < p; have := hp.1; omega), ⟨dv_succ hp.1 gb1, hp.2, by omega⟩, γ, hE.sub (by kernel_rfl) (by kernel_rfl)⟩
      ·
       have hb6p := of_decide_eq_false hb6
       refine sq_t hE [Rw 102 (vW p) [(18, vW p)], Rw 103 (vB false) [(102, vW p)], Rw 104 (vB false) [(103, vB false)], Rw 105 (vW p) [(18, vW p), (104, vB false)], Rw 106 (vW y0) [(10, vW y0), (104, vB false)], Rw 107 (vW (p * y0)) [(105, vW p), (106, vW y0), (104, vB false)], Rw 108 (vW t) [(16, vW t), (104, vB false)], Rw 109 (vW (4294967296 * t)) [(108, vW t), (104, vB false)], Rw 110 (vW u0) [(14, vW u0), (104, vB false)], Rw 111 (vW (4294967296 * t + u0)) [(109, vW (4294967296 * t)), (110, vW u0), (104, vB false)], Rw 112 (vB (decide (4294967296 * t + u0 < p * y0))) [(107, vW (p * y0)), (111, vW (4294967296 * t + u0)), (104, vB false)], Rw 113 (vB (decide (4294967296 * t + u0 < p * y0))) [(104, vB false), (112, vB (decide (4294967296 * t + u0 < p * y0)))]] [(0, vW hi), (1, vW lo), (2, vW Y), (6, vW 0), (7, vW 0), (8, vW s), (9, vW y1), (10, vW y0), (11, vW U), (12, vW L), (13, vW u1), (14, vW u0), (15, vW (q - 1)), (16, vW t), (17, vW R), (18, vW p), (113, vB (decide (4294967296 * t + u0 < p * y0)))] [] ⟨tp, tE fun _ => (d_geq _ _).trans (congrArg Value.bool hb6), tp, ton tp, ton tp, ton (tE (x := .int .u64 (IntKind.u64.wrap (((p : Nat) : Int) * ((y0 : Nat) : Int)))) fun _ => (wu_mul _ _).trans (congrArg (fun n : Nat => Value.int .u64 (n : Int)) (Nat.mod_eq_of_lt (mul32 (by omega) (by omega))))), ton tp, ton (tE (x := .int .u64 (IntKind.u64.wrap (((4294967296 : Nat) : Int) * ((t : Nat) : Int)))) fun _ => (wu_mul _ _).trans (congrArg (fun n : Nat => Value.int .u64 (n : Int)) (Nat.mod_eq_of_lt (by omega)))), ton tp, ton (tE (x := .int .u64 (IntKind.u64.wrap (((4294967296 * t : Nat) : Int) + ((u0 : Nat) : Int)))) fun _ => (wu_add _ _).trans (congrArg (fun n : Nat => Value.int .u64 (n : Int)) (Nat.mod_eq_of_lt (by omega)))), ton (tE fun _ => d_gtr _ _), tp, trivial⟩ ?_
       clear hE; intro γ ac wc hE
       refine cond_sx hE rfl (fun hb8 => ?_) (fun hb8 => ?_)
       ·
        have hb8p := of_decide_eq_true hb8
        have hp := dv_dec hYs hY0 hRY hu0l gb1 (.inr hb8p)
        refine wp_skip ?_
        refine then_normal ?_
        refine wp_block ?_
        refine sq_t hE [Rw 114 (vW p) [(18, vW p)], Rw 115 (vW (p - 1)) [(114, vW p)], Rw 18 (vW (p - 1)) [(115, vW (p - 1))]] [(0, vW hi), (1, vW lo), (2, vW Y), (6, vW 0), (7, vW 0), (8, vW s), (9, vW y1), (10, vW y0), (11, vW U), (12, vW L), (13, vW u1), (14, vW u0), (15, vW (q - 1)), (16, vW t), (17, vW R), (18, vW (p - 1))] [] ⟨tp, tE (x := .int .u64 (IntKind.u64.wrap (((p : Nat) : Int) - ((1 : Nat) : Int)))) fun _ => (wu_sub _ _ (by omega)).trans (congrArg (fun n : Nat => Value.int .u64 (n : Int)) (by have := hp.1; omega)), tp, trivial⟩ ?_
        clear hE; intro γ ac wc hE
        refine sq_t hE [Rw 116 (vW t) [(16, vW t)], Rw 117 (vW y1) [(9, vW y1)], Rw 118 (vW (t + y1)) [(116, vW t), (117, vW y1)], Rw 16 (vW (t + y1)) [(118, vW (t + y1))]] [(0, vW hi), (1, vW lo), (2, vW Y), (6, vW 0), (7, vW 0), (8, vW s), (9, vW y1), (10, vW y0), (11, vW U), (12, vW L), (13, vW u1), (14, vW u0), (15, vW (q - 1)), (16, vW (t + y1)), (17, vW R), (18, vW (p - 1))] [] ⟨tp, tp, tE (x := .int .u64 (IntKind.u64.wrap (((t : Nat) : Int) + ((y1 : Nat) : Int)))) fun _ => (wu_add _ _).trans (congrArg (fun n : Nat => Value.int .u64 (n : Int)) (Nat.mod_eq_of_lt (by omega))), tp, trivial⟩ ?_
        clear hE; intro γ ac wc hE
        refine sq_t hE [Rw 119 (vW (t + y1)) [(16, vW (t + y1))], Rw 120 (vB (decide (4294967296 ≤ t + y1))) [(119, vW (t + y1))]] [(0, vW hi), (1, vW lo), (2, vW Y), (6, vW 0), (7, vW 0), (8, vW s), (9, vW y1), (10, vW y0), (11, vW U), (12, vW L), (13, vW u1), (14, vW u0), (15, vW (q - 1)), (16, vW (t + y1)), (17, vW R), (18, vW (p - 1)), (120, vB (decide (4294967296 ≤ t + y1)))] [] ⟨tp, tE fun _ => d_geq _ _, trivial⟩ ?_
        clear hE; intro γ ac wc hE
        refine cond_sx hE rfl (fun hb9 => ?_) (fun hb9 => ?_)
        ·
         have hb9p := of_decide_eq_true hb9
         have hpe := dv_end2 hYs hY0 hy0 (dv_succ hp.1 gb1) hp.2 (by omega) hb9p
         refine wp_exit ?_
         refine blk_miss (by decide) ?_
         refine then_exit ?_
         refine blk_hit ?_
         refine then_normal ?_
         refine sq_t hE [Rw 121 (vW (q - 1)) [(15, vW (q - 1))], Rw 122 (vW (((q - 1) * 4294967296) % 18446744073709551616)) [(121, vW (q - 1))], Rw 123 (vW (p - 1)) [(18, vW (p - 1))], Rw 124 (vW (((((q - 1) * 4294967296) % 18446744073709551616) + (p - 1)) % 18446744073709551616)) [(122, vW (((q - 1) * 4294967296) % 18446744073709551616)), (123, vW (p - 1))], Rw 125 (vW R) [(17, vW R)], Rw 126 (vW ((R * 4294967296) % 18446744073709551616)) [(125, vW R)], Rw 127 (vW u0) [(14, vW u0)], Rw 128 (vW ((((R * 4294967296) % 18446744073709551616) + u0) % 18446744073709551616)) [(126, vW ((R * 4294967296) % 18446744073709551616)), (127, vW u0)], Rw 129 (vW (p - 1)) [(18, vW (p - 1))], Rw 130 (vW Y) [(2, vW Y)], Rw 131 (vW (((p - 1) * Y) % 18446744073709551616)) [(129, vW (p - 1)), (130, vW Y)], Rw 132 (vW ((((((R * 4294967296) % 18446744073709551616) + u0) % 18446744073709551616) + (18446744073709551616 - (((p - 1) * Y) % 18446744073709551616))) % 18446744073709551616)) [(128, vW ((((R * 4294967296) % 18446744073709551616) + u0) % 18446744073709551616)), (131, vW (((p - 1) * Y) % 18446744073709551616))], Rw 133 (vW s) [(8, vW s)], Rw 134 (vW (((((((R * 4294967296) % 18446744073709551616) + u0) % 18446744073709551616) + (18446744073709551616 - (((p - 1) * Y) % 18446744073709551616))) % 18446744073709551616) / 2 ^ s)) [(132, vW ((((((R * 4294967296) % 18446744073709551616) + u0) % 18446744073709551616) + (18446744073709551616 - (((p - 1) * Y) % 18446744073709551616))) % 18446744073709551616)), (133, vW s)], Rw 6 (vW (((((q - 1) * 4294967296) % 18446744073709551616) + (p - 1)) % 18446744073709551616)) [(124, vW (((((q - 1) * 4294967296) % 18446744073709551616) + (p - 1)) % 18446744073709551616))], Rw 7 (vW (((((((R * 4294967296) % 18446744073709551616) + u0) % 18446744073709551616) + (18446744073709551616 - (((p - 1) * Y) % 18446744073709551616))) % 18446744073709551616) / 2 ^ s)) [(134, vW (((((((R * 4294967296) % 18446744073709551616) + u0) % 18446744073709551616) + (18446744073709551616 - (((p - 1) * Y) % 18446744073709551616))) % 18446744073709551616) / 2 ^ s))]] [(0, vW hi), (1, vW lo), (2, vW Y), (6, vW (((((q - 1) * 4294967296) % 18446744073709551616) + (p - 1)) % 18446744073709551616)), (7, vW (((((((R * 4294967296) % 18446744073709551616) + u0) % 18446744073709551616) + (18446744073709551616 - (((p - 1) * Y) % 18446744073709551616))) % 18446744073709551616) / 2 ^ s)), (8, vW s), (9, vW y1), (10, vW y0), (11, vW U), (12, vW L), (13, vW u1), (14, vW u0), (15, vW (q - 1)), (16, vW (t + y1)), (17, vW R), (18, vW (p - 1))] [] ⟨tp, tE fun _ => wu_mul _ _, tp, tE fun _ => wu_add _ _, tp, tE fun _ => wu_mul _ _, tp, tE fun _ => wu_add _ _, tp, tp, tE fun _ => wu_mul _ _, tE fun _ => wu_sub _ _ (by omega), tp, t_shr_u64, tp, tp, trivial⟩ ?_
         clear hE; intro γ ac wc hE
         refine wp_ret ?_
         have hf := dv_fin (N := hi * 18446744073709551616 + lo) (Q1 := q - 1) (Q0 := p - 1) (R := R) hyp hY hU hL hu1 hu0 hqe hR hpe hUY
         exact (end2 hE rfl (.tmp 6 (vW (((((q - 1) * 4294967296) % 18446744073709551616) + (p - 1)) % 18446744073709551616)) rfl) (.tmp 7 (vW (((((((R * 4294967296) % 18446744073709551616) + u0) % 18446744073709551616) + (18446744073709551616 - (((p - 1) * Y) % 18446744073709551616))) % 18446744073709551616) / 2 ^ s)) rfl) (⟨by rw [dv_rest hY0 hY2 hpe, hf.1, hf.2]; rfl, hE.keep.below⟩)).1
        ·
         have hb9p := of_decide_eq_false hb9
         refine wp_skip ?_
         refine blk_normal ?_
         refine then_normal ⟨(p - 1, t + y1), (by show p - 1 < p; have := hp.1; omega), ⟨dv_succ hp.1 gb1, hp.2, by omega⟩, γ, hE.sub (by kernel_rfl) (by kernel_rfl)⟩
       ·
        have hb8p := of_decide_eq_false hb8
        have hpe := dv_end1 hYs hY0 gb1 gb2 (Nat.le_of_not_lt hb8p)
        refine wp_exit ?_
        refine then_exit ?_
        refine then_exit ?_
        refine blk_hit ?_
        refine then_normal ?_
        refine sq_t hE [Rw 121 (vW (q - 1)) [(15, vW (q - 1))], Rw 122 (vW (((q - 1) * 4294967296) % 18446744073709551616)) [(121, vW (q - 1))], Rw 123 (vW p) [(18, vW p)], Rw 124 (vW (((((q - 1) * 4294967296) % 18446744073709551616) + p) % 18446744073709551616)) [(122, vW (((q - 1) * 4294967296) % 18446744073709551616)), (123, vW p)], Rw 125 (vW R) [(17, vW R)], Rw 126 (vW ((R * 4294967296) % 18446744073709551616)) [(125, vW R)], Rw 127 (vW u0) [(14, vW u0)], Rw 128 (vW ((((R * 4294967296) % 18446744073709551616) + u0) % 18446744073709551616)) [(126, vW ((R * 4294967296) % 18446744073709551616)), (127, vW u0)], Rw 129 (vW p) [(18, vW p)], Rw 130 (vW Y) [(2, vW Y)], Rw 131 (vW ((p * Y) % 18446744073709551616)) [(129, vW p), (130, vW Y)], Rw 132 (vW ((((((R * 4294967296) % 18446744073709551616) + u0) % 18446744073709551616) + (18446744073709551616 - ((p * Y) % 18446744073709551616))) % 18446744073709551616)) [(128, vW ((((R * 4294967296) % 18446744073709551616) + u0) % 18446744073709551616)), (131, vW ((p * Y) % 18446744073709551616))], Rw 133 (vW s) [(8, vW s)], Rw 134 (vW (((((((R * 4294967296) % 18446744073709551616) + u0) % 18446744073709551616) + (18446744073709551616 - ((p * Y) % 18446744073709551616))) % 18446744073709551616) / 2 ^ s)) [(132, vW ((((((R * 4294967296) % 18446744073709551616) + u0) % 18446744073709551616) + (18446744073709551616 - ((p * Y) % 18446744073709551616))) % 18446744073709551616)), (133, vW s)], Rw 6 (vW (((((q - 1) * 4294967296) % 18446744073709551616) + p) % 18446744073709551616)) [(124, vW (((((q - 1) * 4294967296) % 18446744073709551616) + p) % 18446744073709551616))], Rw 7 (vW (((((((R * 4294967296) % 18446744073709551616) + u0) % 18446744073709551616) + (18446744073709551616 - ((p * Y) % 18446744073709551616))) % 18446744073709551616) / 2 ^ s)) [(134, vW (((((((R * 4294967296) % 18446744073709551616) + u0) % 18446744073709551616) + (18446744073709551616 - ((p * Y) % 18446744073709551616))) % 18446744073709551616) / 2 ^ s))]] [(0, vW hi), (1, vW lo), (2, vW Y), (6, vW (((((q - 1) * 4294967296) % 18446744073709551616) + p) % 18446744073709551616)), (7, vW (((((((R * 4294967296) % 18446744073709551616) + u0) % 18446744073709551616) + (18446744073709551616 - ((p * Y) % 18446744073709551616))) % 18446744073709551616) / 2 ^ s)), (8, vW s), (9, vW y1), (10, vW y0), (11, vW U), (12, vW L), (13, vW u1), (14, vW u0), (15, vW (q - 1)), (16, vW t), (17, vW R), (18, vW p)] [] ⟨tp, tE fun _ => wu_mul _ _, tp, tE fun _ => wu_add _ _, tp, tE fun _ => wu_mul _ _, tp, tE fun _ => wu_add _ _, tp, tp, tE fun _ => wu_mul _ _, tE fun _ => wu_sub _ _ (by omega), tp, t_shr_u64, tp, tp, trivial⟩ ?_
        clear hE; intro γ ac wc hE
        refine wp_ret ?_
        have hf := dv_fin (N := hi * 18446744073709551616 + lo) (Q1 := q - 1) (Q0 := p) (R := R) hyp hY hU hL hu1 hu0 hqe hR hpe hUY
        exact (end2 hE rfl (.tmp 6 (vW (((((q - 1) * 4294967296) % 18446744073709551616) + p) % 18446744073709551616)) rfl) (.tmp 7 (vW (((((((R * 4294967296) % 18446744073709551616) + u0) % 18446744073709551616) + (18446744073709551616 - ((p * Y) % 18446744073709551616))) % 18446744073709551616) / 2 ^ s)) rfl) (⟨by rw [dv_rest hY0 hY2 hpe, hf.1, hf.2]; rfl, hE.keep.below⟩)).1
     ·
      have hb5p := of_decide_eq_false hb5
      refine wp_skip ?_
      refine blk_normal ?_
      refine then_normal ⟨(q - 1, r + y1), (by show q - 1 < q; have := hq.1; omega), ⟨dv_succ hq.1 ga1, hq.2, by omega⟩, γ, hE.sub (by kernel_rfl) (by kernel_rfl)⟩
    ·
     have hb4p := of_decide_eq_false hb4
     refine sq_t hE [Rw 67 (vW q) [(15, vW q)], Rw 68 (vB false) [(67, vW q)], Rw 69 (vB false) [(68, vB false)], Rw 70 (vW q) [(15, vW q), (69, vB false)], Rw 71 (vW y0) [(10, vW y0), (69, vB false)], Rw 72 (vW (q * y0)) [(70, vW q), (71, vW y0), (69, vB false)], Rw 73 (vW r) [(16, vW r), (69, vB false)], Rw 74 (vW (4294967296 * r)) [(73, vW r), (69, vB false)], Rw 75 (vW u1) [(13, vW u1), (69, vB false)], Rw 76 (vW (4294967296 * r + u1)) [(74, vW (4294967296 * r)), (75, vW u1), (69, vB false)], Rw 77 (vB (decide (4294967296 * r + u1 < q * y0))) [(72, vW (q * y0)), (76, vW (4294967296 * r + u1)), (69, vB false)], Rw 78 (vB (decide (4294967296 * r + u1 < q * y0))) [(69, vB false), (77, vB (decide (4294967296 * r + u1 < q * y0)))]] [(0, vW hi), (1, vW lo), (2, vW Y), (6, vW 0), (7, vW 0), (8, vW s), (9, vW y1), (10, vW y0), (11, vW U), (12, vW L), (13, vW u1), (14, vW u0), (15, vW q), (16, vW r), (78, vB (decide (4294967296 * r + u1 < q * y0)))] [] ⟨tp, tE fun _ => (d_geq _ _).trans (congrArg Value.bool hb4), tp, ton tp, ton tp, ton (tE (x := .int .u64 (IntKind.u64.wrap (((q : Nat) : Int) * ((y0 : Nat) : Int)))) fun _ => (wu_mul _ _).trans (congrArg (fun n : Nat => Value.int .u64 (n : Int)) (Nat.mod_eq_of_lt (mul32 (by omega) (by omega))))), ton tp, ton (tE (x := .int .u64 (IntKind.u64.wrap (((4294967296 : Nat) : Int) * ((r : Nat) : Int)))) fun _ => (wu_mul _ _).trans (congrArg (fun n : Nat => Value.int .u64 (n : Int)) (Nat.mod_eq_of_lt (by omega)))), ton tp, ton (tE (x := .int .u64 (IntKind.u64.wrap (((4294967296 * r : Nat) : Int) + ((u1 : Nat) : Int)))) fun _ => (wu_add _ _).trans (congrArg (fun n : Nat => Value.int .u64 (n : Int)) (Nat.mod_eq_of_lt (by omega)))), ton (tE fun _ => d_gtr _ _), tp, trivial⟩ ?_
     clear hE; intro γ ac wc hE
     refine cond_sx hE rfl (fun hb10 => ?_) (fun hb10 => ?_)
     ·
      have hb10p := of_decide_eq_true hb10
      have hq := dv_dec hYs hY0 hUY hu1l ga1 (.inr hb10p)
      refine wp_skip ?_
      refine then_normal ?_
      refine wp_block ?_
      refine sq_t hE [Rw 79 (vW q) [(15, vW q)], Rw 80 (vW (q - 1)) [(79, vW q)], Rw 15 (vW (q - 1)) [(80, vW (q - 1))]] [(0, vW hi), (1, vW lo), (2, vW Y), (6, vW 0), (7, vW 0), (8, vW s), (9, vW y1), (10, vW y0), (11, vW U), (12, vW L), (13, vW u1), (14, vW u0), (15, vW (q - 1)), (16, vW r)] [] ⟨tp, tE (x := .int .u64 (IntKind.u64.wrap (((q : Nat) : Int) - ((1 : Nat) : Int)))) fun _ => (wu_sub _ _ (by omega)).trans (congrArg (fun n : Nat => Value.int .u64 (n : Int)) (by have := hq.1; omega)), tp, trivial⟩ ?_
      clear hE; intro γ ac wc hE
      refine sq_t hE [Rw 81 (vW r) [(16, vW r)], Rw 82 (vW y1) [(9, vW y1)], Rw 83 (vW (r + y1)) [(81, vW r), (82, vW y1)], Rw 16 (vW (r + y1)) [(83, vW (r + y1))]] [(0, vW hi), (1, vW lo), (2, vW Y), (6, vW 0), (7, vW 0), (8, vW s), (9, vW y1), (10, vW y0), (11, vW U), (12, vW L), (13, vW u1), (14, vW u0), (15, vW (q - 1)), (16, vW (r + y1))] [] ⟨tp, tp, tE (x := .int .u64 (IntKind.u64.wrap (((r : Nat) : Int) + ((y1 : Nat) : Int)))) fun _ => (wu_add _ _).trans (congrArg (fun n : Nat => Value.int .u64 (n : Int)) (Nat.mod_eq_of_lt (by omega))), tp, trivial⟩ ?_
      clear hE; intro γ ac wc hE
      refine sq_t hE [Rw 84 (vW (r + y1)) [(16, vW (r + y1))], Rw 85 (vB (decide (4294967296 ≤ r + y1))) [(84, vW (r + y1))]] [(0, vW hi), (1, vW lo), (2, vW Y), (6, vW 0), (7, vW 0), (8, vW s), (9, vW y1), (10, vW y0), (11, vW U), (12, vW L), (13, vW u1), (14, vW u0), (15, vW (q - 1)), (16, vW (r + y1)), (85, vB (decide (4294967296 ≤ r + y1)))] [] ⟨tp, tE fun _ => d_geq _ _, trivial⟩ ?_
      clear hE; intro γ ac wc hE
      refine cond_sx hE rfl (fun hb11 => ?_) (fun hb11 => ?_)
      ·
       have hb11p := of_decide_eq_true hb11
       have hqe := dv_end2 hYs hY0 hy0 (dv_succ hq.1 ga1) hq.2 (by omega) hb11p
       refine wp_exit ?_
       refine blk_miss (by decide) ?_
       refine then_exit ?_
       refine blk_hit ?_
       refine then_normal ?_
       refine sq_t hE [Rw 86 (vW U) [(11, vW U)], Rw 87 (vW ((U * 4294967296) % 18446744073709551616)) [(86, vW U)], Rw 88 (vW u1) [(13, vW u1)], Rw 89 (vW ((((U * 4294967296) % 18446744073709551616) + u1) % 18446744073709551616)) [(87, vW ((U * 4294967296) % 18446744073709551616)), (88, vW u1)], Rw 90 (vW (q - 1)) [(15, vW (q - 1))], Rw 91 (vW Y) [(2, vW Y)], Rw 92 (vW (((q - 1) * Y) % 18446744073709551616)) [(90, vW (q - 1)), (91, vW Y)], Rw 93 (vW ((((((U * 4294967296) % 18446744073709551616) + u1) % 18446744073709551616) + (18446744073709551616 - (((q - 1) * Y) % 18446744073709551616))) % 18446744073709551616)) [(89, vW ((((U * 4294967296) % 18446744073709551616) + u1) % 18446744073709551616)), (92, vW (((q - 1) * Y) % 18446744073709551616))], Rw 17 (vW ((((((U * 4294967296) % 18446744073709551616) + u1) % 18446744073709551616) + (18446744073709551616 - (((q - 1) * Y) % 18446744073709551616))) % 18446744073709551616)) [(93, vW ((((((U * 4294967296) % 18446744073709551616) + u1) % 18446744073709551616) + (18446744073709551616 - (((q - 1) * Y) % 18446744073709551616))) % 18446744073709551616))]] [(0, vW hi), (1, vW lo), (2, vW Y), (6, vW 0), (7, vW 0), (8, vW s), (9, vW y1), (10, vW y0), (11, vW U), (12, vW L), (13, vW u1), (14, vW u0), (15, vW (q - 1)), (16, vW (r + y1)), (17, vW ((((((U * 4294967296) % 18446744073709551616) + u1) % 18446744073709551616) + (18446744073709551616 - (((q - 1) * Y) % 18446744073709551616))) % 18446744073709551616))] [] ⟨tp, tE fun _ => wu_mul _ _, tp, tE fun _ => wu_add _ _, tp, tp, tE fun _ => wu_mul _ _, tE fun _ => wu_sub _ _ (by omega), tp, trivial⟩ ?_
       clear hE; intro γ ac wc hE
       obtain ⟨R, hR⟩ : ∃ z : Nat, z = (((((U * 4294967296) % 18446744073709551616) + u1) % 18446744073709551616) + (18446744073709551616 - (((q - 1) * Y) % 18446744073709551616))) % 18446744073709551616 := ⟨_, rfl⟩
       rw [← hR] at hE
       rw [dv_rest hY0 hY2 hqe] at hR
       have hRY : R < Y := by rw [hR]; exact Nat.mod_lt _ hY0
       refine sq_t hE [Rw 94 (vW R) [(17, vW R)], Rw 95 (vW y1) [(9, vW y1)], Rw 96 (vW (R / y1)) [(94, vW R), (95, vW y1)], Rw 18 (vW (R / y1)) [(96, vW (R / y1))]] [(0, vW hi), (1, vW lo), (2, vW Y), (6, vW 0), (7, vW 0), (8, vW s), (9, vW y1), (10, vW y0), (11, vW U), (12, vW L), (13, vW u1), (14, vW u0), (15, vW (q - 1)), (16, vW (r + y1)), (17, vW R), (18, vW (R / y1))] [] ⟨tp, tp, t_quo_u64, tp, trivial⟩ ?_
       clear hE; intro γ ac wc hE
       refine sq_t hE [Rw 97 (vW R) [(17, vW R)], Rw 98 (vW (R / y1)) [(18, vW (R / y1))], Rw 99 (vW y1) [(9, vW y1)], Rw 100 (vW (R / y1 * y1)) [(98, vW (R / y1)), (99, vW y1)], Rw 101 (vW (R % y1)) [(97, vW R), (100, vW (R / y1 * y1))], Rw 16 (vW (R % y1)) [(101, vW (R % y1))]] [(0, vW hi), (1, vW lo), (2, vW Y), (6, vW 0), (7, vW 0), (8, vW s), (9, vW y1), (10, vW y0), (11, vW U), (12, vW L), (13, vW u1), (14, vW u0), (15, vW (q - 1)), (16, vW (R % y1)), (17, vW R), (18, vW (R / y1))] [] ⟨tp, tp, tp, tE (x := .int .u64 (IntKind.u64.wrap (((R / y1 : Nat) : Int) * ((y1 : Nat) : Int)))) fun _ => (wu_mul _ _).trans (congrArg (fun n : Nat => Value.int .u64 (n : Int)) (Nat.mod_eq_of_lt (Nat.lt_of_le_of_lt (Nat.div_mul_le_self _ _) (by omega)))), tE (x := .int .u64 (IntKind.u64.wrap (((R : Nat) : Int) - ((R / y1 * y1 : Nat) : Int)))) fun _ => (wu_sub _ _ (Nat.le_trans (Nat.div_mul_le_self _ _) (by omega))).trans (congrArg (fun n : Nat => Value.int .u64 (n : Int)) (by have h1 := Nat.div_add_mod R y1; rw [Nat.mul_comm] at h1; have h2 := Nat.mod_lt R (show 0 < y1 by omega); omega)), tp, trivial⟩ ?_
       clear hE; intro γ ac wc hE
       refine wp_seq ?_
       refine wp_block ?_
       refine loop_sx (σ := Nat × Nat) (fun (p, t) => p) (fun (p, t) => p * y1 + t = R ∧ (R * 4294967296 + u0) / Y ≤ p ∧ t < 4294967296)
           (fun (p, t) => [(0, vW hi), (1, vW lo), (2, vW Y), (6, vW 0), (7, vW 0), (8, vW s), (9, vW y1), (10, vW y0), (11, vW U), (12, vW L), (13, vW u1), (14, vW u0), (15, vW (q - 1)), (16, vW t), (17, vW R), (18, vW p)])
           (fun (p, t) => [])
           ((R / y1, R % y1)) (⟨by rw [Nat.mul_comm]; exact Nat.div_add_mod R y1, dv_start hYs (by omega) hu0l, Nat.lt_of_lt_of_le (Nat.mod_lt _ (by omega)) (by omega)⟩) (hE.sub (by kernel_rfl) (by kernel_rfl)) ?_
       clear hE; rintro ⟨p, t⟩ γ ac wc gb hE
       replace gb : p * y1 + t = R ∧ (R * 4294967296 + u0) / Y ≤ p ∧ t < 4294967296 := gb
       replace hE : Env _ _ _ w0 (lk [(0, vW hi), (1, vW lo), (2, vW Y), (6, vW 0), (7, vW 0), (8, vW s), (9, vW y1), (10, vW y0), (11, vW U), (12, vW L), (13, vW u1), (14, vW u0), (15, vW (q - 1)), (16, vW t), (17, vW R), (18, vW p)]) (lk []) γ ac wc := hE
       obtain ⟨gb1, gb2, gb3⟩ := gb
       have gb4 := dv_q hYs hY3 hy0 hRY gb1
       refine wp_seq ?_
       rcases Bool.eq_false_or_eq_true (decide (4294967296 ≤ p)) with hb12 | hb12
       ·
        have hb12p := of_decide_eq_true hb12
        have hp := dv_dec hYs hY0 hRY hu0l gb1 (.inl hb12p)
        refine sq_t hE [Rw 102 (vW p) [(18, vW p)], Rw 103 (vB true) [(102, vW p)], Rw 104 (vB true) [(103, vB true)], Rw 105 vU [(104, vB true)], Rw 106 vU [(104, vB true)], Rw 107 vU [(104, vB true)], Rw 108 vU [(104, vB true)], Rw 109 vU [(104, vB true)], Rw 110 vU [(104, vB true)], Rw 111 vU [(104, vB true)], Rw 112 vU [(104, vB true)], Rw 113 (vB true) [(104, vB true), (112, vU)]] [(0, vW hi), (1, vW lo), (2, vW Y), (6, vW 0), (7, vW 0), (8, vW s), (9, vW y1), (10, vW y0), (11, vW U), (12, vW L), (13, vW u1), (14, vW u0), (15, vW (q - 1)), (16, vW t), (17, vW R), (18, vW p), (113, vB true)] [] ⟨tp, tE fun _ => (d_geq _ _).trans (congrArg Value.bool hb12), tp, tof, tof, tof, tof, tof, tof, tof, tof, tp, trivial⟩ ?_
        clear hE; intro γ ac wc hE
        refine cond_sx hE rfl (fun _ => ?_) (fun h => by cases h)
        refine wp_skip ?_
        refine then_normal ?_
        refine wp_block ?_
        refine sq_t hE [Rw 114 (vW p) [(18, vW p)], Rw 115 (vW (p - 1)) [(114, vW p)], Rw 18 (vW (p - 1)) [(115, vW (p - 1))]] [(0, vW hi), (1, vW lo), (2, vW Y), (6, vW 0), (7, vW 0), (8, vW s), (9, vW y1), (10, vW y0), (11, vW U), (12, vW L), (13, vW u1), (14, vW u0), (15, vW (q - 1)), (16, vW t), (17, vW R), (18, vW (p - 1))] [] ⟨tp, tE (x := .int .u64 (IntKind.u64.wrap (((p : Nat) : Int) - ((1 : Nat) : Int)))) fun _ => (wu_sub _ _ (by omega)).trans (congrArg (fun n : Nat => Value.int .u64 (n : Int)) (by have := hp.1; omega)), tp, trivial⟩ ?_
        clear hE; intro γ ac wc hE
        refine sq_t hE [Rw 116 (vW t) [(16, vW t)], Rw 117 (vW y1) [(9, vW y1)], Rw 118 (vW (t + y1)) [(116, vW t), (117, vW y1)], Rw 16 (vW (t + y1)) [(118, vW (t + y1))]] [(0, vW hi), (1, vW lo), (2, vW Y), (6, vW 0), (7, vW 0), (8, vW s), (9, vW y1), (10, vW y0), (11, vW U), (12, vW L), (13, vW u1), (14, vW u0), (15, vW (q - 1)), (16, vW (t + y1)), (17, vW R), (18, vW (p - 1))] [] ⟨tp, tp, tE (x := .int .u64 (IntKind.u64.wrap (((t : Nat) : Int) + ((y1 : Nat) : Int)))) fun _ => (wu_add _ _).trans (congrArg (fun n : Nat => Value.int .u64 (n : Int)) (Nat.mod_eq_of_lt (by omega))), tp, trivial⟩ ?_
        clear hE; intro γ ac wc hE
        refine sq_t hE [Rw 119 (vW (t + y1)) [(16, vW (t + y1))], Rw 120 (vB (decide (4294967296 ≤ t + y1))) [(119, vW (t + y1))]] [(0, vW hi), (1, vW lo), (2, vW Y), (6, vW 0), (7, vW 0), (8, vW s), (9, vW y1), (10, vW y0), (11, vW U), (12, vW L), (13, vW u1), (14, vW u0), (15, vW (q - 1)), (16, vW (t + y1)), (17, vW R), (18, vW (p - 1)), (120, vB (decide (4294967296 ≤ t + y1)))] [] ⟨tp, tE fun _ => d_geq _ _, trivial⟩ ?_
        clear hE; intro γ ac wc hE
        refine cond_sx hE rfl (fun hb13 => ?_) (fun hb13 => ?_)
        ·
         have hb13p := of_decide_eq_true hb13
         have hpe := dv_end2 hYs hY0 hy0 (dv_succ hp.1 gb1) hp.2 (by omega) hb13p
         refine wp_exit ?_
         refine blk_miss (by decide) ?_
         refine then_exit ?_
         refine blk_hit ?_
         refine then_normal ?_
         refine sq_t hE [Rw 121 (vW (q - 1)) [(15, vW (q - 1))], Rw 122 (vW (((q - 1) * 4294967296) % 18446744073709551616)) [(121, vW (q - 1))], Rw 123 (vW (p - 1)) [(18, vW (p - 1))], Rw 124 (vW (((((q - 1) * 4294967296) % 18446744073709551616) + (p - 1)) % 18446744073709551616)) [(122, vW (((q - 1) * 4294967296) % 18446744073709551616)), (123, vW (p - 1))], Rw 125 (vW R) [(17, vW R)], Rw 126 (vW ((R * 4294967296) % 18446744073709551616)) [(125, vW R)], Rw 127 (vW u0) [(14, vW u0)], Rw 128 (vW ((((R * 4294967296) % 18446744073709551616) + u0) % 18446744073709551616)) [(126, vW ((R * 4294967296) % 18446744073709551616)), (127, vW u0)], Rw 129 (vW (p - 1)) [(18, vW (p - 1))], Rw 130 (vW Y) [(2, vW Y)], Rw 131 (vW (((p - 1) * Y) % 18446744073709551616)) [(129, vW (p - 1)), (130, vW Y)], Rw 132 (vW ((((((R * 4294967296) % 18446744073709551616) + u0) % 18446744073709551616) + (18446744073709551616 - (((p - 1) * Y) % 18446744073709551616))) % 18446744073709551616)) [(128, vW ((((R * 4294967296) % 18446744073709551616) + u0) % 18446744073709551616)), (131, vW (((p - 1) * Y) % 18446744073709551616))], Rw 133 (vW s) [(8, vW s)], Rw 134 (vW (((((((R * 4294967296) % 18446744073709551616) + u0) % 18446744073709551616) + (18446744073709551616 - (((p - 1) * Y) % 18446744073709551616))) % 18446744073709551616) / 2 ^ s)) [(132, vW ((((((R * 4294967296) % 18446744073709551616) + u0) % 18446744073709551616) + (18446744073709551616 - (((p - 1) * Y) % 18446744073709551616))) % 18446744073709551616)), (133, vW s)], Rw 6 (vW (((((q - 1) * 4294967296) % 18446744073709551616) + (p - 1)) % 18446744073709551616)) [(124, vW (((((q - 1) * 4294967296) % 18446744073709551616) + (p - 1)) % 18446744073709551616))], Rw 7 (vW (((((((R * 4294967296) % 18446744073709551616) + u0) % 18446744073709551616) + (18446744073709551616 - (((p - 1) * Y) % 18446744073709551616))) % 18446744073709551616) / 2 ^ s)) [(134, vW (((((((R * 4294967296) % 18446744073709551616) + u0) % 18446744073709551616) + (18446744073709551616 - (((p - 1) * Y) % 18446744073709551616))) % 18446744073709551616) / 2 ^ s))]] [(0, vW hi), (1, vW lo), (2, vW Y), (6, vW (((((q - 1) * 4294967296) % 18446744073709551616) + (p - 1)) % 18446744073709551616)), (7, vW (((((((R * 4294967296) % 18446744073709551616) + u0) % 18446744073709551616) + (18446744073709551616 - (((p - 1) * Y) % 18446744073709551616))) % 18446744073709551616) / 2 ^ s)), (8, vW s), (9, vW y1), (10, vW y0), (11, vW U), (12, vW L), (13, vW u1), (14, vW u0), (15, vW (q - 1)), (16, vW (t + y1)), (17, vW R), (18, vW (p - 1))] [] ⟨tp, tE fun _ => wu_mul _ _, tp, tE fun _ => wu_add _ _, tp, tE fun _ => wu_mul _ _, tp, tE fun _ => wu_add _ _, tp, tp, tE fun _ => wu_mul _ _, tE fun _ => wu_sub _ _ (by omega), tp, t_shr_u64, tp, tp, trivial⟩ ?_
         clear hE; intro γ ac wc hE
         refine wp_ret ?_
         have hf := dv_fin (N := hi * 18446744073709551616 + lo) (Q1 := q - 1) (Q0 := p - 1) (R := R) hyp hY hU hL hu1 hu0 hqe hR hpe hUY
         exact (end2 hE rfl (.tmp 6 (vW (((((q - 1) * 4294967296) % 18446744073709551616) + (p - 1)) % 18446744073709551616)) rfl) (.tmp 7 (vW (((((((R * 4294967296) % 18446744073709551616) + u0) % 18446744073709551616) + (18446744073709551616 - (((p - 1) * Y) % 18446744073709551616))) % 18446744073709551616) / 2 ^ s)) rfl) (⟨by rw [dv_rest hY0 hY2 hpe, hf.1, hf.2]; rfl, hE.keep.below⟩)).1
        ·
         have hb13p := of_decide_eq_false hb13
         refine wp_skip ?_
         refine blk_normal ?_
         refine then_normal ⟨(p - 1, t + y1), (by show p - 1 < p; have := hp.1; omega), ⟨dv_succ hp.1 gb1, hp.2, by omega⟩, γ, hE.sub (by kernel_rfl) (by kernel_rfl)⟩
       ·
        have hb12p := of_decide_eq_false hb12
        refine sq_t hE [Rw 102 (vW p) [(18, vW p)], Rw 103 (vB false) [(102, vW p)], Rw 104 (vB false) [(103, vB false)], Rw 105 (vW p) [(18, vW p), (104, vB false)], Rw 106 (vW y0) [(10, vW y0), (104, vB false)], Rw 107 (vW (p * y0)) [(105, vW p), (106, vW y0), (104, vB false)], Rw 108 (vW t) [(16, vW t), (104, vB false)], Rw 109 (vW (4294967296 * t)) [(108, vW t), (104, vB false)], Rw 110 (vW u0) [(14, vW u0), (104, vB false)], Rw 111 (vW (4294967296 * t + u0)) [(109, vW (4294967296 * t)), (110, vW u0), (104, vB false)], Rw 112 (vB (decide (4294967296 * t + u0 < p * y0))) [(107, vW (p * y0)), (111, vW (4294967296 * t + u0)), (104, vB false)], Rw 113 (vB (decide (4294967296 * t + u0 < p * y0))) [(104, vB false), (112, vB (decide (4294967296 * t + u0 < p * y0)))]] [(0, vW hi), (1, vW lo), (2, vW Y), (6, vW 0), (7, vW 0), (8, vW s), (9, vW y1), (10, vW y0), (11, vW U), (12, vW L), (13, vW u1), (14, vW u0), (15, vW (q - 1)), (16, vW t), (17, vW R), (18, vW p), (113, vB (decide (4294967296 * t + u0 < p * y0)))] [] ⟨tp, tE fun _ => (d_geq _ _).trans (congrArg Value.bool hb12), tp, ton tp, ton tp, ton (tE (x := .int .u64 (IntKind.u64.wrap (((p : Nat) : Int) * ((y0 : Nat) : Int)))) fun _ => (wu_mul _ _).trans (congrArg (fun n : Nat => Value.int .u64 (n : Int)) (Nat.mod_eq_of_lt (mul32 (by omega) (by omega))))), ton tp, ton (tE (x := .int .u64 (IntKind.u64.wrap (((4294967296 : Nat) : Int) * ((t : Nat) : Int)))) fun _ => (wu_mul _ _).trans (congrArg (fun n : Nat => Value.int .u64 (n : Int)) (Nat.mod_eq_of_lt (by omega)))), ton tp, ton (tE (x := .int .u64 (IntKind.u64.wrap (((4294967296 * t : Nat) : Int) + ((u0 : Nat) : Int)))) fun _ => (wu_add _ _).trans (congrArg (fun n : Nat => Value.int .u64 (n : Int)) (Nat.mod_eq_of_lt (by omega)))), ton (tE fun _ => d_gtr _ _), tp, trivial⟩ ?_
        clear hE; intro γ ac wc hE
        refine cond_sx hE rfl (fun hb14 => ?_) (fun hb14 => ?_)
        ·
         have hb14p := of_decide_eq_true hb14
         have hp := dv_dec hYs hY0 hRY hu0l gb1 (.inr hb14p)
         refine wp_skip ?_
         refine then_normal ?_
         refine wp_block ?_
         refine sq_t hE [Rw 114 (vW p) [(18, vW p)], Rw 115 (vW (p - 1)) [(114, vW p)], Rw 18 (vW (p - 1)) [(115, vW (p - 1))]] [(0, vW hi), (1, vW lo), (2, vW Y), (6, vW 0), (7, vW 0), (8, vW s), (9, vW y1), (10, vW y0), (11, vW U), (12, vW L), (13, vW u1), (14, vW u0), (15, vW (q - 1)), (16, vW t), (17, vW R), (18, vW (p - 1))] [] ⟨tp, tE (x := .int .u64 (IntKind.u64.wrap (((p : Nat) : Int) - ((1 : Nat) : Int)))) fun _ => (wu_sub _ _ (by omega)).trans (congrArg (fun n : Nat => Value.int .u64 (n : Int)) (by have := hp.1; omega)), tp, trivial⟩ ?_
         clear hE; intro γ ac wc hE
         refine sq_t hE [Rw 116 (vW t) [(16, vW t)], Rw 117 (vW y1) [(9, vW y1)], Rw 118 (vW (t + y1)) [(116, vW t), (117, vW y1)], Rw 16 (vW (t + y1)) [(118, vW (t + y1))]] [(0, vW hi), (1, vW lo), (2, vW Y), (6, vW 0), (7, vW 0), (8, vW s), (9, vW y1), (10, vW y0), (11, vW U), (12, vW L), (13, vW u1), (14, vW u0), (15, vW (q - 1)), (16, vW (t + y1)), (17, vW R), (18, vW (p - 1))] [] ⟨tp, tp, tE (x := .int .u64 (IntKind.u64.wrap (((t : Nat) : Int) + ((y1 : Nat) : Int)))) fun _ => (wu_add _ _).trans (congrArg (fun n : Nat => Value.int .u64 (n : Int)) (Nat.mod_eq_of_lt (by omega))), tp, trivial⟩ ?_
         clear hE; intro γ ac wc hE
         refine sq_t hE [Rw 119 (vW (t + y1)) [(16, vW (t + y1))], Rw 120 (vB (decide (4294967296 ≤ t + y1))) [(119, vW (t + y1))]] [(0, vW hi), (1, vW lo), (2, vW Y), (6, vW 0), (7, vW 0), (8, vW s), (9, vW y1), (10, vW y0), (11, vW U), (12, vW L), (13, vW u1), (14, vW u0), (15, vW (q - 1)), (16, vW (t + y1)), (17, vW R), (18, vW (p - 1)), (120, vB (decide (4294967296 ≤ t + y1)))] [] ⟨tp, tE fun _ => d_geq _ _, trivial⟩ ?_
         clear hE; intro γ ac wc hE
         refine cond_sx hE rfl (fun hb15 => ?_) (fun hb15 => ?_)
         ·
          have hb15p := of_decide_eq_true hb15
          have hpe := dv_end2 hYs hY0 hy0 (dv_succ hp.1 gb1) hp.2 (by omega) hb15p
          refine wp_exit ?_
          refine blk_miss (by decide) ?_
          refine then_exit ?_
          refine blk_hit ?_
          refine then_normal ?_
          refine sq_t hE [Rw 121 (vW (q - 1)) [(15, vW (q - 1))], Rw 122 (vW (((q - 1) * 4294967296) % 18446744073709551616)) [(121, vW (q - 1))], Rw 123 (vW (p - 1)) [(18, vW (p - 1))], Rw 124 (vW (((((q - 1) * 4294967296) % 18446744073709551616) + (p - 1)) % 18446744073709551616)) [(122, vW (((q - 1) * 4294967296) % 18446744073709551616)), (123, vW (p - 1))], Rw 125 (vW R) [(17, vW R)], Rw 126 (vW ((R * 4294967296) % 18446744073709551616)) [(125, vW R)], Rw 127 (vW u0) [(14, vW u0)], Rw 128 (vW ((((R * 4294967296) % 18446744073709551616) + u0) % 18446744073709551616)) [(126, vW ((R * 4294967296) % 18446744073709551616)), (127, vW u0)], Rw 129 (vW (p - 1)) [(18, vW (p - 1))], Rw 130 (vW Y) [(2, vW Y)], Rw 131 (vW (((p - 1) * Y) % 18446744073709551616)) [(129, vW (p - 1)), (130, vW Y)], Rw 132 (vW ((((((R * 4294967296) % 18446744073709551616) + u0) % 18446744073709551616) + (18446744073709551616 - (((p - 1) * Y) % 18446744073709551616))) % 18446744073709551616)) [(128, vW ((((R * 4294967296) % 18446744073709551616) + u0) % 18446744073709551616)), (131, vW (((p - 1) * Y) % 18446744073709551616))], Rw 133 (vW s) [(8, vW s)], Rw 134 (vW (((((((R * 4294967296) % 18446744073709551616) + u0) % 18446744073709551616) + (18446744073709551616 - (((p - 1) * Y) % 18446744073709551616))) % 18446744073709551616) / 2 ^ s)) [(132, vW ((((((R * 4294967296) % 18446744073709551616) + u0) % 18446744073709551616) + (18446744073709551616 - (((p - 1) * Y) % 18446744073709551616))) % 18446744073709551616)), (133, vW s)], Rw 6 (vW (((((q - 1) * 4294967296) % 18446744073709551616) + (p - 1)) % 18446744073709551616)) [(124, vW (((((q - 1) * 4294967296) % 18446744073709551616) + (p - 1)) % 18446744073709551616))], Rw 7 (vW (((((((R * 4294967296) % 18446744073709551616) + u0) % 18446744073709551616) + (18446744073709551616 - (((p - 1) * Y) % 18446744073709551616))) % 18446744073709551616) / 2 ^ s)) [(134, vW (((((((R * 4294967296) % 18446744073709551616) + u0) % 18446744073709551616) + (18446744073709551616 - (((p - 1) * Y) % 18446744073709551616))) % 18446744073709551616) / 2 ^ s))]] [(0, vW hi), (1, vW lo), (2, vW Y), (6, vW (((((q - 1) * 4294967296) % 18446744073709551616) + (p - 1)) % 18446744073709551616)), (7, vW (((((((R * 4294967296) % 18446744073709551616) + u0) % 18446744073709551616) + (18446744073709551616 - (((p - 1) * Y) % 18446744073709551616))) % 18446744073709551616) / 2 ^ s)), (8, vW s), (9, vW y1), (10, vW y0), (11, vW U), (12, vW L), (13, vW u1), (14, vW u0), (15, vW (q - 1)), (16, vW (t + y1)), (17, vW R), (18, vW (p - 1))] [] ⟨tp, tE fun _ => wu_mul _ _, tp, tE fun _ => wu_add _ _, tp, tE fun _ => wu_mul _ _, tp, tE fun _ => wu_add _ _, tp, tp, tE fun _ => wu_mul _ _, tE fun _ => wu_sub _ _ (by omega), tp, t_shr_u64, tp, tp, trivial⟩ ?_
          clear hE; intro γ ac wc hE
          refine wp_ret ?_
          have hf := dv_fin (N := hi * 18446744073709551616 + lo) (Q1 := q - 1) (Q0 := p - 1) (R := R) hyp hY hU hL hu1 hu0 hqe hR hpe hUY
          exact (end2 hE rfl (.tmp 6 (vW (((((q - 1) * 4294967296) % 18446744073709551616) + (p - 1)) % 18446744073709551616)) rfl) (.tmp 7 (vW (((((((R * 4294967296) % 18446744073709551616) + u0) % 18446744073709551616) + (18446744073709551616 - (((p - 1) * Y) % 18446744073709551616))) % 18446744073709551616) / 2 ^ s)) rfl) (⟨by rw [dv_rest hY0 hY2 hpe, hf.1, hf.2]; rfl, hE.keep.below⟩)).1
         ·
          have hb15p := of_decide_eq_false hb15
          refine wp_skip ?_
          refine blk_normal ?_
          refine then_normal ⟨(p - 1, t + y1), (by show p - 1 < p; have := hp.1; omega), ⟨dv_succ hp.1 gb1, hp.2, by omega⟩, γ, hE.sub (by kernel_rfl) (by kernel_rfl)⟩
        ·
         have hb14p := of_decide_eq_false hb14
         have hpe := dv_end1 hYs hY0 gb1 gb2 (Nat.le_of_not_lt hb14p)
         refine wp_exit ?_
         refine then_exit ?_
         refine then_exit ?_
         refine blk_hit ?_
         refine then_normal ?_
         refine sq_t hE [Rw 121 (vW (q - 1)) [(15, vW (q - 1))], Rw 122 (vW (((q - 1) * 4294967296) % 18446744073709551616)) [(121, vW (q - 1))], Rw 123 (vW p) [(18, vW p)], Rw 124 (vW (((((q - 1) * 4294967296) % 18446744073709551616) + p) % 18446744073709551616)) [(122, vW (((q - 1) * 4294967296) % 18446744073709551616)), (123, vW p)], Rw 125 (vW R) [(17, vW R)], Rw 126 (vW ((R * 4294967296) % 18446744073709551616)) [(125, vW R)], Rw 127 (vW u0) [(14, vW u0)], Rw 128 (vW ((((R * 4294967296) % 18446744073709551616) + u0) % 18446744073709551616)) [(126, vW ((R * 4294967296) % 18446744073709551616)), (127, vW u0)], Rw 129 (vW p) [(18, vW p)], Rw 130 (vW Y) [(2, vW Y)], Rw 131 (vW ((p * Y) % 18446744073709551616)) [(129, vW p), (130, vW Y)], Rw 132 (vW ((((((R * 4294967296) % 18446744073709551616) + u0) % 18446744073709551616) + (18446744073709551616 - ((p * Y) % 18446744073709551616))) % 18446744073709551616)) [(128, vW ((((R * 4294967296) % 18446744073709551616) + u0) % 18446744073709551616)), (131, vW ((p * Y) % 18446744073709551616))], Rw 133 (vW s) [(8, vW s)], Rw 134 (vW (((((((R * 4294967296) % 18446744073709551616) + u0) % 18446744073709551616) + (18446744073709551616 - ((p * Y) % 18446744073709551616))) % 18446744073709551616) / 2 ^ s)) [(132, vW ((((((R * 4294967296) % 18446744073709551616) + u0) % 18446744073709551616) + (18446744073709551616 - ((p * Y) % 18446744073709551616))) % 18446744073709551616)), (133, vW s)], Rw 6 (vW (((((q - 1) * 4294967296) % 18446744073709551616) + p) % 18446744073709551616)) [(124, vW (((((q - 1) * 4294967296) % 18446744073709551616) + p) % 18446744073709551616))], Rw 7 (vW (((((((R * 4294967296) % 18446744073709551616) + u0) % 18446744073709551616) + (18446744073709551616 - ((p * Y) % 18446744073709551616))) % 18446744073709551616) / 2 ^ s)) [(134, vW (((((((R * 4294967296) % 18446744073709551616) + u0) % 18446744073709551616) + (18446744073709551616 - ((p * Y) % 18446744073709551616))) % 18446744073709551616) / 2 ^ s))]] [(0, vW hi), (1, vW lo), (2, vW Y), (6, vW (((((q - 1) * 4294967296) % 18446744073709551616) + p) % 18446744073709551616)), (7, vW (((((((R * 4294967296) % 18446744073709551616) + u0) % 18446744073709551616) + (18446744073709551616 - ((p * Y) % 18446744073709551616))) % 18446744073709551616) / 2 ^ s)), (8, vW s), (9, vW y1), (10, vW y0), (11, vW U), (12, vW L), (13, vW u1), (14, vW u0), (15, vW (q - 1)), (16, vW t), (17, vW R), (18, vW p)] [] ⟨tp, tE fun _ => wu_mul _ _, tp, tE fun _ => wu_add _ _, tp, tE fun _ => wu_mul _ _, tp, tE fun _ => wu_add _ _, tp, tp, tE fun _ => wu_mul _ _, tE fun _ => wu_sub _ _ (by omega), tp, t_shr_u64, tp, tp, trivial⟩ ?_
         clear hE; intro γ ac wc hE
         refine wp_ret ?_
         have hf := dv_fin (N := hi * 18446744073709551616 + lo) (Q1 := q - 1) (Q0 := p) (R := R) hyp hY hU hL hu1 hu0 hqe hR hpe hUY
         exact (end2 hE rfl (.tmp 6 (vW (((((q - 1) * 4294967296) % 18446744073709551616) + p) % 18446744073709551616)) rfl) (.tmp 7 (vW (((((((R * 4294967296) % 18446744073709551616) + u0) % 18446744073709551616) + (18446744073709551616 - ((p * Y) % 18446744073709551616))) % 18446744073709551616) / 2 ^ s)) rfl) (⟨by rw [dv_rest hY0 hY2 hpe, hf.1, hf.2]; rfl, hE.keep.below⟩)).1
      ·
       have hb11p := of_decide_eq_false hb11
       refine wp_skip ?_
       refine blk_normal ?_
       refine then_normal ⟨(q - 1, r + y1), (by show q - 1 < q; have := hq.1; omega), ⟨dv_succ hq.1 ga1, hq.2, by omega⟩, γ, hE.sub (by kernel_rfl) (by kernel_rfl)⟩
     ·
      have hb10p := of_decide_eq_false hb10
      have hqe := dv_end1 hYs hY0 ga1 ga2 (Nat.le_of_not_lt hb10p)
      refine wp_exit ?_
      refine then_exit ?_
      refine then_exit ?_
      refine blk_hit ?_
      refine then_normal ?_
      refine sq_t hE [Rw 86 (vW U) [(11, vW U)], Rw 87 (vW ((U * 4294967296) % 18446744073709551616)) [(86, vW U)], Rw 88 (vW u1) [(13, vW u1)], Rw 89 (vW ((((U * 4294967296) % 18446744073709551616) + u1) % 18446744073709551616)) [(87, vW ((U * 4294967296) % 18446744073709551616)), (88, vW u1)], Rw 90 (vW q) [(15, vW q)], Rw 91 (vW Y) [(2, vW Y)], Rw 92 (vW ((q * Y) % 18446744073709551616)) [(90, vW q), (91, vW Y)], Rw 93 (vW ((((((U * 4294967296) % 18446744073709551616) + u1) % 18446744073709551616) + (18446744073709551616 - ((q * Y) % 18446744073709551616))) % 18446744073709551616)) [(89, vW ((((U * 4294967296) % 18446744073709551616) + u1) % 18446744073709551616)), (92, vW ((q * Y) % 18446744073709551616))], Rw 17 (vW ((((((U * 4294967296) % 18446744073709551616) + u1) % 18446744073709551616) + (18446744073709551616 - ((q * Y) % 18446744073709551616))) % 18446744073709551616)) [(93, vW ((((((U * 4294967296) % 18446744073709551616) + u1) % 18446744073709551616) + (18446744073709551616 - ((q * Y) % 18446744073709551616))) % 18446744073709551616))]] [(0, vW hi), (1, vW lo), (2, vW Y), (6, vW 0), (7, vW 0), (8, vW s), (9, vW y1), (10, vW y0), (11, vW U), (12, vW L), (13, vW u1), (14, vW u0), (15, vW q), (16, vW r), (17, vW ((((((U * 4294967296) % 18446744073709551616) + u1) % 18446744073709551616) + (18446744073709551616 - ((q * Y) % 18446744073709551616))) % 18446744073709551616))] [] ⟨tp, tE fun _ => wu_mul _ _, tp, tE fun _ => wu_add _ _, tp, tp, tE fun _ => wu_mul _ _, tE fun _ => wu_sub _ _ (by omega), tp, trivial⟩ ?_
      clear hE; intro γ ac wc hE
      obtain ⟨R, hR⟩ : ∃ z : Nat, z = (((((U * 4294967296) % 18446744073709551616) + u1) % 18446744073709551616) + (18446744073709551616 - ((q * Y) % 18446744073709551616))) % 18446744073709551616 := ⟨_, rfl⟩
      rw [← hR] at hE
      rw [dv_rest hY0 hY2 hqe] at hR
      have hRY : R < Y := by rw [hR]; exact Nat.mod_lt _ hY0
      refine sq_t hE [Rw 94 (vW R) [(17, vW R)], Rw 95 (vW y1) [(9, vW y1)], Rw 96 (vW (R / y1)) [(94, vW R), (95, vW y1)], Rw 18 (vW (R / y1)) [(96, vW (R / y1))]] [(0, vW hi), (1, vW lo), (2, vW Y), (6, vW 0), (7, vW 0), (8, vW s), (9, vW y1), (10, vW y0), (11, vW U), (12, vW L), (13, vW u1), (14, vW u0), (15, vW q), (16, vW r), (17, vW R), (18, vW (R / y1))] [] ⟨tp, tp, t_quo_u64, tp, trivial⟩ ?_
      clear hE; intro γ ac wc hE
      refine sq_t hE [Rw 97 (vW R) [(17, vW R)], Rw 98 (vW (R / y1)) [(18, vW (R / y1))], Rw 99 (vW y1) [(9, vW y1)], Rw 100 (vW (R / y1 * y1)) [(98, vW (R / y1)), (99, vW y1)], Rw 101 (vW (R % y1)) [(97, vW R), (100, vW (R / y1 * y1))], Rw 16 (vW (R % y1)) [(101, vW (R % y1))]] [(0, vW hi), (1, vW lo), (2, vW Y), (6, vW 0), (7, vW 0), (8, vW s), (9, vW y1), (10, vW y0), (11, vW U), (12, vW L), (13, vW u1), (14, vW u0), (15, vW q), (16, vW (R % y1)), (17, vW R), (18, vW (R / y1))] [] ⟨tp, tp, tp, tE (x := .int .u64 (IntKind.u64.wrap (((R / y1 : Nat) : Int) * ((y1 : Nat) : Int)))) fun _ => (wu_mul _ _).trans (congrArg (fun n : Nat => Value.int .u64 (n : Int)) (Nat.mod_eq_of_lt (Nat.lt_of_le_of_lt (Nat.div_mul_le_self _ _) (by omega)))), tE (x := .int .u64 (IntKind.u64.wrap (((R : Nat) : Int) - ((R / y1 * y1 : Nat) : Int)))) fun _ => (wu_sub _ _ (Nat.le_trans (Nat.div_mul_le_self _ _) (by omega))).trans (congrArg (fun n : Nat => Value.int .u64 (n : Int)) (by have h1 := Nat.div_add_mod R y1; rw [Nat.mul_comm] at h1; have h2 := Nat.mod_lt R (show 0 < y1 by omega); omega)), tp, trivial⟩ ?_
      clear hE; intro γ ac wc hE
      refine wp_seq ?_
      refine wp_block ?_
      refine loop_sx (σ := Nat × Nat) (fun (p, t) => p) (fun (p, t) => p * y1 + t = R ∧ (R * 4294967296 + u0) / Y ≤ p ∧ t < 4294967296)
          (fun (p, t) => [(0, vW hi), (1, vW lo), (2, vW Y), (6, vW 0), (7, vW 0), (8, vW s), (9, vW y1), (10, vW y0), (11, vW U), (12, vW L), (13, vW u1), (14, vW u0), (15, vW q), (16, vW t), (17, vW R), (18, vW p)])
          (fun (p, t) => [])
          ((R / y1, R % y1)) (⟨by rw [Nat.mul_comm]; exact Nat.div_add_mod R y1, dv_start hYs (by omega) hu0l, Nat.lt_of_lt_of_le (Nat.mod_lt _ (by omega)) (by omega)⟩) (hE.sub (by kernel_rfl) (by kernel_rfl)) ?_
      clear hE; rintro ⟨p, t⟩ γ ac wc gb hE
      replace gb : p * y1 + t = R ∧ (R * 4294967296 + u0) / Y ≤ p ∧ t < 4294967296 := gb
      replace hE : Env _ _ _ w0 (lk [(0, vW hi), (1, vW lo), (2, vW Y), (6, vW 0), (7, vW 0), (8, vW s), (9, vW y1), (10, vW y0), (11, vW U), (12, vW L), (13, vW u1), (14, vW u0), (15, vW q), (16, vW t), (17, vW R), (18, vW p)]) (lk []) γ ac wc := hE
      obtain ⟨gb1, gb2, gb3⟩ := gb
      have gb4 := dv_q hYs hY3 hy0 hRY gb1
      refine wp_seq ?_
      rcases Bool.eq_false_or_eq_true (decide (4294967296 ≤ p)) with hb16 | hb16
      ·
       have hb16p := of_decide_eq_true hb16
       have hp := dv_dec hYs hY0 hRY hu0l gb1 (.inl hb16p)
       refine sq_t hE [Rw 102 (vW p) [(18, vW p)], Rw 103 (vB true) [(102, vW p)], Rw 104 (vB true) [(103, vB true)], Rw 105 vU [(104, vB true)], Rw 106 vU [(104, vB true)], Rw 107 vU [(104, vB true)], Rw 108 vU [(104, vB true)], Rw 109 vU [(104, vB true)], Rw 110 vU [(104, vB true)], Rw 111 vU [(104, vB true)], Rw 112 vU [(104, vB true)], Rw 113 (vB true) [(104, vB true), (112, vU)]] [(0, vW hi), (1, vW lo), (2, vW Y), (6, vW 0), (7, vW 0), (8, vW s), (9, vW y1), (10, vW y0), (11, vW U), (12, vW L), (13, vW u1), (14, vW u0), (15, vW q), (16, vW t), (17, vW R), (18, vW p), (113, vB true)] [] ⟨tp, tE fun _ => (d_geq _ _).trans (congrArg Value.bool hb16), tp, tof, tof, tof, tof, tof, tof, tof, tof, tp, trivial⟩ ?_
       clear hE; intro γ ac wc hE
       refine cond_sx hE rfl (fun _ => ?_) (fun h => by cases h)
       refine wp_skip ?_
       refine then_normal ?_
       refine wp_block ?_
       refine sq_t hE [Rw 114 (vW p) [(18, vW p)], Rw 115 (vW (p - 1)) [(114, vW p)], Rw 18 (vW (p - 1)) [(115, vW (p - 1))]] [(0, vW hi), (1, vW lo), (2, vW Y), (6, vW 0), (7, vW 0), (8, vW s), (9, vW y1), (10, vW y0), (11, vW U), (12, vW L), (13, vW u1), (14, vW u0), (15, vW q), (16, vW t), (17, vW R), (18, vW (p - 1))] [] ⟨tp, tE (x := .int .u64 (IntKind.u64.wrap (((p : Nat) : Int) - ((1 : Nat) : Int)))) fun _ => (wu_sub _ _ (by omega)).trans (congrArg (fun n : Nat => Value.int .u64 (n : Int)) (by have := hp.1; omega)), tp, trivial⟩ ?_
       clear hE; intro γ ac wc hE
       refine sq_t hE [Rw 116 (vW t) [(16, vW t)], Rw 117 (vW y1) [(9, vW y1)], Rw 118 (vW (t + y1)) [(116, vW t), (117, vW y1)], Rw 16 (vW (t + y1)) [(118, vW (t + y1))]] [(0, vW hi), (1, vW lo), (2, vW Y), (6, vW 0), (7, vW 0), (8, vW s), (9, vW y1), (10, vW y0), (11, vW U), (12, vW L), (13, vW u1), (14, vW u0), (15, vW q), (16, vW (t + y1)), (17, vW R), (18, vW (p - 1))] [] ⟨tp, tp, tE (x := .int .u64 (IntKind.u64.wrap (((t : Nat) : Int) + ((y1 : Nat) : Int)))) fun _ => (wu_add _ _).trans (congrArg (fun n : Nat => Value.int .u64 (n : Int)) (Nat.mod_eq_of_lt (by omega))), tp, trivial⟩ ?_
       clear hE; intro γ ac wc hE
       refine sq_t hE [Rw 119 (vW (t + y1)) [(16, vW (t + y1))], Rw 120 (vB (decide (4294967296 ≤ t + y1))) [(119, vW (t + y1))]] [(0, vW hi), (1, vW lo), (2, vW Y), (6, vW 0), (7, vW 0), (8, vW s), (9, vW y1), (10, vW y0), (11, vW U), (12, vW L), (13, vW u1), (14, vW u0), (15, vW q), (16, vW (t + y1)), (17, vW R), (18, vW (p - 1)), (120, vB (decide (4294967296 ≤ t + y1)))] [] ⟨tp, tE fun _ => d_geq _ _, trivial⟩ ?_
       clear hE; intro γ ac wc hE
       refine cond_sx hE rfl (fun hb17 => ?_) (fun hb17 => ?_)
       ·
        have hb17p := of_decide_eq_true hb17
        have hpe := dv_end2 hYs hY0 hy0 (dv_succ hp.1 gb1) hp.2 (by omega) hb17p
        refine wp_exit ?_
        refine blk_miss (by decide) ?_
        refine then_exit ?_
        refine blk_hit ?_
        refine then_normal ?_
        refine sq_t hE [Rw 121 (vW q) [(15, vW q)], Rw 122 (vW ((q * 4294967296) % 18446744073709551616)) [(121, vW q)], Rw 123 (vW (p - 1)) [(18, vW (p - 1))], Rw 124 (vW ((((q * 4294967296) % 18446744073709551616) + (p - 1)) % 18446744073709551616)) [(122, vW ((q * 4294967296) % 18446744073709551616)), (123, vW (p - 1))], Rw 125 (vW R) [(17, vW R)], Rw 126 (vW ((R * 4294967296) % 18446744073709551616)) [(125, vW R)], Rw 127 (vW u0) [(14, vW u0)], Rw 128 (vW ((((R * 4294967296) % 18446744073709551616) + u0) % 18446744073709551616)) [(126, vW ((R * 4294967296) % 18446744073709551616)), (127, vW u0)], Rw 129 (vW (p - 1)) [(18, vW (p - 1))], Rw 130 (vW Y) [(2, vW Y)], Rw 131 (vW (((p - 1) * Y) % 18446744073709551616)) [(129, vW (p - 1)), (130, vW Y)], Rw 132 (vW ((((((R * 4294967296) % 18446744073709551616) + u0) % 18446744073709551616) + (18446744073709551616 - (((p - 1) * Y) % 18446744073709551616))) % 18446744073709551616)) [(128, vW ((((R * 4294967296) % 18446744073709551616) + u0) % 18446744073709551616)), (131, vW (((p - 1) * Y) % 18446744073709551616))], Rw 133 (vW s) [(8, vW s)], Rw 134 (vW (((((((R * 4294967296) % 18446744073709551616) + u0) % 18446744073709551616) + (18446744073709551616 - (((p - 1) * Y) % 18446744073709551616))) % 18446744073709551616) / 2 ^ s)) [(132, vW ((((((R * 4294967296) % 18446744073709551616) + u0) % 18446744073709551616) + (18446744073709551616 - (((p - 1) * Y) % 18446744073709551616))) % 18446744073709551616)), (133, vW s)], Rw 6 (vW ((((q * 4294967296) % 18446744073709551616) + (p - 1)) % 18446744073709551616)) [(124, vW ((((q * 4294967296) % 18446744073709551616) + (p - 1)) % 18446744073709551616))], Rw 7 (vW (((((((R * 4294967296) % 18446744073709551616) + u0) % 18446744073709551616) + (18446744073709551616 - (((p - 1) * Y) % 18446744073709551616))) % 18446744073709551616) / 2 ^ s)) [(134, vW (((((((R * 4294967296) % 18446744073709551616) + u0) % 18446744073709551616) + (18446744073709551616 - (((p - 1) * Y) % 18446744073709551616))) % 18446744073709551616) / 2 ^ s))]] [(0, vW hi), (1, vW lo), (2, vW Y), (6, vW ((((q * 4294967296) % 18446744073709551616) + (p - 1)) % 18446744073709551616)), (7, vW (((((((R * 4294967296) % 18446744073709551616) + u0) % 18446744073709551616) + (18446744073709551616 - (((p - 1) * Y) % 18446744073709551616))) % 18446744073709551616) / 2 ^ s)), (8, vW s), (9, vW y1), (10, vW y0), (11, vW U), (12, vW L), (13, vW u1), (14, vW u0), (15, vW q), (16, vW (t + y1)), (17, vW R), (18, vW (p - 1))] [] ⟨tp, tE fun _ => wu_mul _ _, tp, tE fun _ => wu_add _ _, tp, tE fun _ => wu_mul _ _, tp, tE fun _ => wu_add _ _, tp, tp, tE fun _ => wu_mul _ _, tE fun _ => wu_sub _ _ (by omega), tp, t_shr_u64, tp, tp, trivial⟩ ?_
        clear hE; intro γ ac wc hE
        refine wp_ret ?_
        have hf := dv_fin (N := hi * 18446744073709551616 + lo) (Q1 := q) (Q0 := p - 1) (R := R) hyp hY hU hL hu1 hu0 hqe hR hpe hUY
        exact (end2 hE rfl (.tmp 6 (vW ((((q * 4294967296) % 18446744073709551616) + (p - 1)) % 18446744073709551616)) rfl) (.tmp 7 (vW (((((((R * 4294967296) % 18446744073709551616) + u0) % 18446744073709551616) + (18446744073709551616 - (((p - 1) * Y) % 18446744073709551616))) % 18446744073709551616) / 2 ^ s)) rfl) (⟨by rw [dv_rest hY0 hY2 hpe, hf.1, hf.2]; rfl, hE.keep.below⟩)).1
       ·
        have hb17p := of_decide_eq_false hb17
        refine wp_skip ?_
        refine blk_normal ?_
        refine then_normal ⟨(p - 1, t + y1), (by show p - 1 < p; have := hp.1; omega), ⟨dv_succ hp.1 gb1, hp.2, by omega⟩, γ, hE.sub (by kernel_rfl) (by kernel_rfl)⟩
      ·
       have hb16p := of_decide_eq_false hb16
       refine sq_t hE [Rw 102 (vW p) [(18, vW p)], Rw 103 (vB false) [(102, vW p)], Rw 104 (vB false) [(103, vB false)], Rw 105 (vW p) [(18, vW p), (104, vB false)], Rw 106 (vW y0) [(10, vW y0), (104, vB false)], Rw 107 (vW (p * y0)) [(105, vW p), (106, vW y0), (104, vB false)], Rw 108 (vW t) [(16, vW t), (104, vB false)], Rw 109 (vW (4294967296 * t)) [(108, vW t), (104, vB false)], Rw 110 (vW u0) [(14, vW u0), (104, vB false)], Rw 111 (vW (4294967296 * t + u0)) [(109, vW (4294967296 * t)), (110, vW u0), (104, vB false)], Rw 112 (vB (decide (4294967296 * t + u0 < p * y0))) [(107, vW (p * y0)), (111, vW (4294967296 * t + u0)), (104, vB false)], Rw 113 (vB (decide (4294967296 * t + u0 < p * y0))) [(104, vB false), (112, vB (decide (4294967296 * t + u0 < p * y0)))]] [(0, vW hi), (1, vW lo), (2, vW Y), (6, vW 0), (7, vW 0), (8, vW s), (9, vW y1), (10, vW y0), (11, vW U), (12, vW L), (13, vW u1), (14, vW u0), (15, vW q), (16, vW t), (17, vW R), (18, vW p), (113, vB (decide (4294967296 * t + u0 < p * y0)))] [] ⟨tp, tE fun _ => (d_geq _ _).trans (congrArg Value.bool hb16), tp, ton tp, ton tp, ton (tE (x := .int .u64 (IntKind.u64.wrap (((p : Nat) : Int) * ((y0 : Nat) : Int)))) fun _ => (wu_mul _ _).trans (congrArg (fun n : Nat => Value.int .u64 (n : Int)) (Nat.mod_eq_of_lt (mul32 (by omega) (by omega))))), ton tp, ton (tE (x := .int .u64 (IntKind.u64.wrap (((4294967296 : Nat) : Int) * ((t : Nat) : Int)))) fun _ => (wu_mul _ _).trans (congrArg (fun n : Nat => Value.int .u64 (n : Int)) (Nat.mod_eq_of_lt (by omega)))), ton tp, ton (tE (x := .int .u64 (IntKind.u64.wrap (((4294967296 * t : Nat) : Int) + ((u0 : Nat) : Int)))) fun _ => (wu_add _ _).trans (congrArg (fun n : Nat => Value.int .u64 (n : Int)) (Nat.mod_eq_of_lt (by omega)))), ton (tE fun _ => d_gtr _ _), tp, trivial⟩ ?_
       clear hE; intro γ ac wc hE
       refine cond_sx hE rfl (fun hb18 => ?_) (fun hb18 => ?_)
       ·
        have hb18p := of_decide_eq_true hb18
        have hp := dv_dec hYs hY0 hRY hu0l gb1 (.inr hb18p)
        refine wp_skip ?_
        refine then_normal ?_
        refine wp_block ?_
        refine sq_t hE [Rw 114 (vW p) [(18, vW p)], Rw 115 (vW (p - 1)) [(114, vW p)], Rw 18 (vW (p - 1)) [(115, vW (p - 1))]] [(0, vW hi), (1, vW lo), (2, vW Y), (6, vW 0), (7, vW 0), (8, vW s), (9, vW y1), (10, vW y0), (11, vW U), (12, vW L), (13, vW u1), (14, vW u0), (15, vW q), (16, vW t), (17, vW R), (18, vW (p - 1))] [] ⟨tp, tE (x := .int .u64 (IntKind.u64.wrap (((p : Nat) : Int) - ((1 : Nat) : Int)))) fun _ => (wu_sub _ _ (by omega)).trans (congrArg (fun n : Nat => Value.int .u64 (n : Int)) (by have := hp.1; omega)), tp, trivial⟩ ?_
        clear hE; intro γ ac wc hE
        refine sq_t hE [Rw 116 (vW t) [(16, vW t)], Rw 117 (vW y1) [(9, vW y1)], Rw 118 (vW (t + y1)) [(116, vW t), (117, vW y1)], Rw 16 (vW (t + y1)) [(118, vW (t + y1))]] [(0, vW hi), (1, vW lo), (2, vW Y), (6, vW 0), (7, vW 0), (8, vW s), (9, vW y1), (10, vW y0), (11, vW U), (12, vW L), (13, vW u1), (14, vW u0), (15, vW q), (16, vW (t + y1)), (17, vW R), (18, vW (p - 1))] [] ⟨tp, tp, tE (x := .int .u64 (IntKind.u64.wrap (((t : Nat) : Int) + ((y1 : Nat) : Int)))) fun _ => (wu_add _ _).trans (congrArg (fun n : Nat => Value.int .u64 (n : Int)) (Nat.mod_eq_of_lt (by omega))), tp, trivial⟩ ?_
        clear hE; intro γ ac wc hE
        refine sq_t hE [Rw 119 (vW (t + y1)) [(16, vW (t + y1))], Rw 120 (vB (decide (4294967296 ≤ t + y1))) [(119, vW (t + y1))]] [(0, vW hi), (1, vW lo), (2, vW Y), (6, vW 0), (7, vW 0), (8, vW s), (9, vW y1), (10, vW y0), (11, vW U), (12, vW L), (13, vW u1), (14, vW u0), (15, vW q), (16, vW (t + y1)), (17, vW R), (18, vW (p - 1)), (120, vB (decide (4294967296 ≤ t + y1)))] [] ⟨tp, tE fun _ => d_geq _ _, trivial⟩ ?_
        clear hE; intro γ ac wc hE
        refine cond_sx hE rfl (fun hb19 => ?_) (fun hb19 => ?_)
        ·
         have hb19p := of_decide_eq_true hb19
         have hpe := dv_end2 hYs hY0 hy0 (dv_succ hp.1 gb1) hp.2 (by omega) hb19p
         refine wp_exit ?_
         refine blk_miss (by decide) ?_
         refine then_exit ?_
         refine blk_hit ?_
         refine then_normal ?_
         refine sq_t hE [Rw 121 (vW q) [(15, vW q)], Rw 122 (vW ((q * 4294967296) % 18446744073709551616)) [(121, vW q)], Rw 123 (vW (p - 1)) [(18, vW (p - 1))], Rw 124 (vW ((((q * 4294967296) % 18446744073709551616) + (p - 1)) % 18446744073709551616)) [(122, vW ((q * 4294967296) % 18446744073709551616)), (123, vW (p - 1))], Rw 125 (vW R) [(17, vW R)], Rw 126 (vW ((R * 4294967296) % 18446744073709551616)) [(125, vW R)], Rw 127 (vW u0) [(14, vW u0)], Rw 128 (vW ((((R * 4294967296) % 18446744073709551616) + u0) % 18446744073709551616)) [(126, vW ((R * 4294967296) % 18446744073709551616)), (127, vW u0)], Rw 129 (vW (p - 1)) [(18, vW (p - 1))], Rw 130 (vW Y) [(2, vW Y)], Rw 131 (vW (((p - 1) * Y) % 18446744073709551616)) [(129, vW (p - 1)), (130, vW Y)], Rw 132 (vW ((((((R * 4294967296) % 18446744073709551616) + u0) % 18446744073709551616) + (18446744073709551616 - (((p - 1) * Y) % 18446744073709551616))) % 18446744073709551616)) [(128, vW ((((R * 4294967296) % 18446744073709551616) + u0) % 18446744073709551616)), (131, vW (((p - 1) * Y) % 18446744073709551616))], Rw 133 (vW s) [(8, vW s)], Rw 134 (vW (((((((R * 4294967296) % 18446744073709551616) + u0) % 18446744073709551616) + (18446744073709551616 - (((p - 1) * Y) % 18446744073709551616))) % 18446744073709551616) / 2 ^ s)) [(132, vW ((((((R * 4294967296) % 18446744073709551616) + u0) % 18446744073709551616) + (18446744073709551616 - (((p - 1) * Y) % 18446744073709551616))) % 18446744073709551616)), (133, vW s)], Rw 6 (vW ((((q * 4294967296) % 18446744073709551616) + (p - 1)) % 18446744073709551616)) [(124, vW ((((q * 4294967296) % 18446744073709551616) + (p - 1)) % 18446744073709551616))], Rw 7 (vW (((((((R * 4294967296) % 18446744073709551616) + u0) % 18446744073709551616) + (18446744073709551616 - (((p - 1) * Y) % 18446744073709551616))) % 18446744073709551616) / 2 ^ s)) [(134, vW (((((((R * 4294967296) % 18446744073709551616) + u0) % 18446744073709551616) + (18446744073709551616 - (((p - 1) * Y) % 18446744073709551616))) % 18446744073709551616) / 2 ^ s))]] [(0, vW hi), (1, vW lo), (2, vW Y), (6, vW ((((q * 4294967296) % 18446744073709551616) + (p - 1)) % 18446744073709551616)), (7, vW (((((((R * 4294967296) % 18446744073709551616) + u0) % 18446744073709551616) + (18446744073709551616 - (((p - 1) * Y) % 18446744073709551616))) % 18446744073709551616) / 2 ^ s)), (8, vW s), (9, vW y1), (10, vW y0), (11, vW U), (12, vW L), (13, vW u1), (14, vW u0), (15, vW q), (16, vW (t + y1)), (17, vW R), (18, vW (p - 1))] [] ⟨tp, tE fun _ => wu_mul _ _, tp, tE fun _ => wu_add _ _, tp, tE fun _ => wu_mul _ _, tp, tE fun _ => wu_add _ _, tp, tp, tE fun _ => wu_mul _ _, tE fun _ => wu_sub _ _ (by omega), tp, t_shr_u64, tp, tp, trivial⟩ ?_
         clear hE; intro γ ac wc hE
         refine wp_ret ?_
         have hf := dv_fin (N := hi * 18446744073709551616 + lo) (Q1 := q) (Q0 := p - 1) (R := R) hyp hY hU hL hu1 hu0 hqe hR hpe hUY
         exact (end2 hE rfl (.tmp 6 (vW ((((q * 4294967296) % 18446744073709551616) + (p - 1)) % 18446744073709551616)) rfl) (.tmp 7 (vW (((((((R * 4294967296) % 18446744073709551616) + u0) % 18446744073709551616) + (18446744073709551616 - (((p - 1) * Y) % 18446744073709551616))) % 18446744073709551616) / 2 ^ s)) rfl) (⟨by rw [dv_rest hY0 hY2 hpe, hf.1, hf.2]; rfl, hE.keep.below⟩)).1
        ·
         have hb19p := of_decide_eq_false hb19
         refine wp_skip ?_
         refine blk_normal ?_
         refine then_normal ⟨(p - 1, t + y1), (by show p - 1 < p; have := hp.1; omega), ⟨dv_succ hp.1 gb1, hp.2, by omega⟩, γ, hE.sub (by kernel_rfl) (by kernel_rfl)⟩
       ·
        have hb18p := of_decide_eq_false hb18
        have hpe := dv_end1 hYs hY0 gb1 gb2 (Nat.le_of_not_lt hb18p)
        refine wp_exit ?_
        refine then_exit ?_
        refine then_exit ?_
        refine blk_hit ?_
        refine then_normal ?_
        refine sq_t hE [Rw 121 (vW q) [(15, vW q)], Rw 122 (vW ((q * 4294967296) % 18446744073709551616)) [(121, vW q)], Rw 123 (vW p) [(18, vW p)], Rw 124 (vW ((((q * 4294967296) % 18446744073709551616) + p) % 18446744073709551616)) [(122, vW ((q * 4294967296) % 18446744073709551616)), (123, vW p)], Rw 125 (vW R) [(17, vW R)], Rw 126 (vW ((R * 4294967296) % 18446744073709551616)) [(125, vW R)], Rw 127 (vW u0) [(14, vW u0)], Rw 128 (vW ((((R * 4294967296) % 18446744073709551616) + u0) % 18446744073709551616)) [(126, vW ((R * 4294967296) % 18446744073709551616)), (127, vW u0)], Rw 129 (vW p) [(18, vW p)], Rw 130 (vW Y) [(2, vW Y)], Rw 131 (vW ((p * Y) % 18446744073709551616)) [(129, vW p), (130, vW Y)], Rw 132 (vW ((((((R * 4294967296) % 18446744073709551616) + u0) % 18446744073709551616) + (18446744073709551616 - ((p * Y) % 18446744073709551616))) % 18446744073709551616)) [(128, vW ((((R * 4294967296) % 18446744073709551616) + u0) % 18446744073709551616)), (131, vW ((p * Y) % 18446744073709551616))], Rw 133 (vW s) [(8, vW s)], Rw 134 (vW (((((((R * 4294967296) % 18446744073709551616) + u0) % 18446744073709551616) + (18446744073709551616 - ((p * Y) % 18446744073709551616))) % 18446744073709551616) / 2 ^ s)) [(132, vW ((((((R * 4294967296) % 18446744073709551616) + u0) % 18446744073709551616) + (18446744073709551616 - ((p * Y) % 18446744073709551616))) % 18446744073709551616)), (133, vW s)], Rw 6 (vW ((((q * 4294967296) % 18446744073709551616) + p) % 18446744073709551616)) [(124, vW ((((q * 4294967296) % 18446744073709551616) + p) % 18446744073709551616))], Rw 7 (vW (((((((R * 4294967296) % 18446744073709551616) + u0) % 18446744073709551616) + (18446744073709551616 - ((p * Y) % 18446744073709551616))) % 18446744073709551616) / 2 ^ s)) [(134, vW (((((((R * 4294967296) % 18446744073709551616) + u0) % 18446744073709551616) + (18446744073709551616 - ((p * Y) % 18446744073709551616))) % 18446744073709551616) / 2 ^ s))]] [(0, vW hi), (1, vW lo), (2, vW Y), (6, vW ((((q * 4294967296) % 18446744073709551616) + p) % 18446744073709551616)), (7, vW (((((((R * 4294967296) % 18446744073709551616) + u0) % 18446744073709551616) + (18446744073709551616 - ((p * Y) % 18446744073709551616))) % 18446744073709551616) / 2 ^ s)), (8, vW s), (9, vW y1), (10, vW y0), (11, vW U), (12, vW L), (13, vW u1), (14, vW u0), (15, vW q), (16, vW t), (17, vW R), (18, vW p)] [] ⟨tp, tE fun _ => wu_mul _ _, tp, tE fun _ => wu_add _ _, tp, tE fun _ => wu_mul _ _, tp, tE fun _ => wu_add _ _, tp, tp, tE fun _ => wu_mul _ _, tE fun _ => wu_sub _ _ (by omega), tp, t_shr_u64, tp, tp, trivial⟩ ?_
        clear hE; intro γ ac wc hE
        refine wp_ret ?_
        have hf := dv_fin (N := hi * 18446744073709551616 + lo) (Q1 := q) (Q0 := p) (R := R) hyp hY hU hL hu1 hu0 hqe hR hpe hUY
        exact (end2 hE rfl (.tmp 6 (vW ((((q * 4294967296) % 18446744073709551616) + p) % 18446744073709551616)) rfl) (.tmp 7 (vW (((((((R * 4294967296) % 18446744073709551616) + u0) % 18446744073709551616) + (18446744073709551616 - ((p * Y) % 18446744073709551616))) % 18446744073709551616) / 2 ^ s)) rfl) (⟨by rw [dv_rest hY0 hY2 hpe, hf.1, hf.2]; rfl, hE.keep.below⟩)).1
end Go.Proofs.Ytddfimfgcfgpbaa
