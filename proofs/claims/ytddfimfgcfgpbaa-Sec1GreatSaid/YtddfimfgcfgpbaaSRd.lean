/-
  Numbers of the references: From, Nat, products, shifts.
-/
import Derived.Test.YtddfimfgcfgpbaaSTf
import Derived.Test.YtddfimfgcfgpbaaSRc
namespace Go.Proofs.Ytddfimfgcfgpbaa
open Sx
open Go.RowKit (Below)
set_option exponentiation.threshold 2000
theorem nret_nil {N : Nat} {F : Fx} {X : NX} {w0 w : World} {S : Nat → Option SV} {C : Nat → Option Ct} {γ : Nat → Nat} {a : Act} (hE : Env N F (BN X) w0 S C γ a w) : NRet w0 (X.map fun p => p.2.1) [0] (fun f => dec (f 0)) (.returned (.slice none 0 0)) w :=
  ⟨fun _ => enc none 0 0, by show Ending.returned _ = .returned (dec (enc none 0 0)); rw [dec_enc]; rfl, fun i z hz => by
    have hz0 : z = 0 := by
      cases i with
      | zero => simpa using hz.symm
      | succ i => simp at hz
    subst hz0
    exact ⟨num_nil, fun g hg => (Nb_nil hg).elim⟩, hE.keep.belowN⟩
theorem Vn_from {x i : Nat} (hd : dg32 x (2 * i) = dg32 x (2 * i)) : Vn 18 (set32 (set32 (mix32 x 0 (2 * i)) (2 * i) (dg32 x (2 * i))) (2 * i + 1) (dg32 x (2 * i + 1))) = Vn 18 (mix32 x 0 (2 * (i + 1))) := by
  have _ := hd
  refine Vn_congr (fun j _ => ?_)
  rw [dg32_set _ _ _ _ (dg32_lt _ _), dg32_set _ _ _ _ (dg32_lt _ _), dg32_mix, dg32_mix]
  by_cases h : j = 2 * i + 1
  · subst h; rw [if_pos rfl, if_pos (by omega)]
  · rw [if_neg h]
    by_cases h2 : j = 2 * i
    · subst h2; rw [if_pos rfl, if_pos (by omega)]
    · rw [if_neg h2]
      by_cases h3 : j < 2 * i
      · rw [if_pos h3, if_pos (by omega)]
      · rw [if_neg h3, if_neg (by omega)]
theorem mul32_step {a b i k V c d c' : Nat} (h : V + c * 2 ^ (32 * (i + k)) = a % 2 ^ (32 * i) * b + dg32 a i * 2 ^ (32 * i) * (b % 2 ^ (32 * k))) (hd : d + 4294967296 * c' = dg32 a i * dg32 b k + dg32 V (i + k) + c) :
    set32 V (i + k) d + c' * 2 ^ (32 * (i + (k + 1))) = a % 2 ^ (32 * i) * b + dg32 a i * 2 ^ (32 * i) * (b % 2 ^ (32 * (k + 1))) := by
  have h1 := set32_val V (i + k) d
  have h2 := congrArg (· * 2 ^ (32 * (i + k))) hd
  simp only [Nat.add_mul] at h2
  rw [mod32_succ, Nat.mul_add (dg32 a i * 2 ^ (32 * i)), show i + (k + 1) = i + k + 1 by omega, pv_succ (i + k)]
  have h3 : dg32 a i * 2 ^ (32 * i) * (dg32 b k * 2 ^ (32 * k)) = dg32 a i * dg32 b k * 2 ^ (32 * (i + k)) := by
    rw [Nat.mul_add, Nat.pow_add]; simp only [Nat.mul_assoc, Nat.mul_left_comm, Nat.mul_comm]
  have h4 : c' * (4294967296 * 2 ^ (32 * (i + k))) = 4294967296 * c' * 2 ^ (32 * (i + k)) := by rw [← Nat.mul_assoc, Nat.mul_comm c']
  rw [h3, h4]
  generalize dg32 a i * dg32 b k * 2 ^ (32 * (i + k)) = t1 at *
  generalize 4294967296 * c' * 2 ^ (32 * (i + k)) = t2 at *
  generalize dg32 V (i + k) * 2 ^ (32 * (i + k)) = t3 at *
  generalize c * 2 ^ (32 * (i + k)) = t4 at *
  generalize d * 2 ^ (32 * (i + k)) = t5 at *
  generalize dg32 a i * 2 ^ (32 * i) * (b % 2 ^ (32 * k)) = t6 at *
  omega
theorem mul32_row {a b i V c n : Nat} (hb : b < 2 ^ (32 * n)) (hV : V < 2 ^ (32 * (i + n))) (h : V + c * 2 ^ (32 * (i + n)) = a % 2 ^ (32 * i) * b + dg32 a i * 2 ^ (32 * i) * (b % 2 ^ (32 * n))) : set32 V (i + n) c = a % 2 ^ (32 * (i + 1)) * b := by
  have h1 := set32_val V (i + n) c
  rw [dg32_big hV (Nat.le_refl _), Nat.zero_mul, Nat.add_zero] at h1
  rw [h1, h, lo32, Nat.mod_eq_of_lt hb, Nat.add_mul, Nat.add_comm]
theorem mul32_lo_lt {a b i n : Nat} (hb : b < 2 ^ (32 * n)) : a % 2 ^ (32 * i) * b < 2 ^ (32 * (i + n)) := by
  rw [Nat.mul_add, Nat.pow_add]
  have h1 := Nat.mod_lt a (pv_pos i)
  exact Nat.lt_of_le_of_lt (Nat.mul_le_mul_right _ (Nat.le_of_lt h1)) (Nat.mul_lt_mul_of_pos_left hb (pv_pos i))
theorem mul32_word {a b o c : Nat} (ha : a < 4294967296) (hb : b < 4294967296) (ho : o < 4294967296) (hc : c < 4294967296) : a * b + o + c < 18446744073709551616 := by
  have h : a * b ≤ 4294967295 * 4294967295 := Nat.mul_le_mul (by omega) (by omega)
  omega
theorem shl32_or {V D r : Nat} (hr : r < 32) (hV : V < 2 ^ r) (hD : D < 4294967296) : V ||| D * 2 ^ r % 18446744073709551616 % 4294967296 = V + D * 2 ^ r % 4294967296 := by
  have h1 : D * 2 ^ r < 18446744073709551616 := by
    have : D * 2 ^ r < 4294967296 * 2 ^ r := Nat.mul_lt_mul_of_pos_right hD (Nat.pow_pos (by decide))
    have h2 : (2 : Nat) ^ r ≤ 2 ^ 32 := Nat.pow_le_pow_right (by decide) (by omega)
    omega
  rw [Nat.mod_eq_of_lt h1]
  have h2 : D * 2 ^ r % 4294967296 = 2 ^ r * (D % 2 ^ (32 - r)) := by
    rw [show (4294967296 : Nat) = 2 ^ r * 2 ^ (32 - r) by rw [← Nat.pow_add, show r + (32 - r) = 32 by omega], Nat.mul_comm D, Nat.mul_mod_mul_left]
  rw [h2, Nat.or_comm, ← Nat.two_pow_add_eq_or_of_lt hV, Nat.add_comm]
theorem shl32_step {x i r : Nat} (hr : r < 32) : set32 (set32 (x % 2 ^ (32 * i) * 2 ^ r) i (dg32 (x % 2 ^ (32 * i) * 2 ^ r) i ||| dg32 x i * 2 ^ r % 18446744073709551616 % 4294967296)) (i + 1) (dg32 x i * 2 ^ r % 18446744073709551616 / 2 ^ 32) = x % 2 ^ (32 * (i + 1)) * 2 ^ r := by
  have hx := Nat.mod_lt x (pv_pos i)
  have hD := dg32_lt x i
  have hp : 0 < 2 ^ r := Nat.pow_pos (by decide)
  have h32 : (2 : Nat) ^ r ≤ 2147483648 := Nat.le_trans (Nat.pow_le_pow_right (by decide) (show r ≤ 31 by omega)) (by decide)
  have h1 : dg32 x i * 2 ^ r < 18446744073709551616 := by
    have : dg32 x i * 2 ^ r ≤ 4294967295 * 2147483648 := Nat.mul_le_mul (by omega) h32
    omega
  generalize hV : x % 2 ^ (32 * i) * 2 ^ r = V
  have hVlt : V < 2 ^ (32 * i) * 2 ^ r := by rw [← hV]; exact Nat.mul_lt_mul_of_pos_right hx hp
  have hVi : dg32 V i < 2 ^ r := by
    unfold dg32
    exact Nat.lt_of_le_of_lt (Nat.mod_le _ _) ((Nat.div_lt_iff_lt_mul (pv_pos i)).2 (by rw [Nat.mul_comm]; exact hVlt))
  rw [shl32_or hr hVi hD, Nat.mod_eq_of_lt h1]
  have hVj : dg32 V (i + 1) = 0 := dg32_big (n := i + 1) (Nat.lt_of_lt_of_le hVlt (by rw [pv_succ, Nat.mul_comm]; exact Nat.mul_le_mul_right _ (by omega))) (Nat.le_refl _)
  have hlo : dg32 V i + dg32 x i * 2 ^ r % 4294967296 < 4294967296 := by
    have h2 : dg32 x i * 2 ^ r % 4294967296 = 2 ^ r * (dg32 x i % 2 ^ (32 - r)) := by
      rw [show (4294967296 : Nat) = 2 ^ r * 2 ^ (32 - r) by rw [← Nat.pow_add, show r + (32 - r) = 32 by omega], Nat.mul_comm (dg32 x i), Nat.mul_mod_mul_left]
    have h3 := Nat.mod_lt (dg32 x i) (Nat.pow_pos (n := 32 - r) (show 0 < 2 by decide))
    have h4 : 2 ^ r * (dg32 x i % 2 ^ (32 - r) + 1) ≤ 2 ^ r * 2 ^ (32 - r) := Nat.mul_le_mul_left _ h3
    rw [← Nat.pow_add, show r + (32 - r) = 32 by omega, Nat.mul_add, ← h2] at h4
    have : (2 : Nat) ^ 32 = 4294967296 := rfl
    omega
  have s1 := set32_val V i (dg32 V i + dg32 x i * 2 ^ r % 4294967296)
  have s2 := set32_val (set32 V i (dg32 V i + dg32 x i * 2 ^ r % 4294967296)) (i + 1) (dg32 x i * 2 ^ r / 2 ^ 32)
  rw [dg32_set _ _ _ _ hlo, if_neg (by omega), hVj, Nat.zero_mul, Nat.add_zero] at s2
  rw [s2, lo32, Nat.add_mul, hV]
  have e := Nat.div_add_mod (dg32 x i * 2 ^ r) 4294967296
  have e2 := congrArg (· * 2 ^ (32 * i)) e
  simp only [Nat.add_mul] at e2
  rw [Nat.add_mul] at s1
  have e3 : dg32 x i * 2 ^ (32 * i) * 2 ^ r = dg32 x i * 2 ^ r * 2 ^ (32 * i) := Nat.mul_right_comm _ _ _
  have e4 : dg32 x i * 2 ^ r / 2 ^ 32 * 2 ^ (32 * (i + 1)) = 4294967296 * (dg32 x i * 2 ^ r / 4294967296) * 2 ^ (32 * i) := by
    rw [pv_succ, ← Nat.mul_assoc, Nat.mul_comm _ 4294967296]
  rw [e3, e4]
  generalize 4294967296 * (dg32 x i * 2 ^ r / 4294967296) * 2 ^ (32 * i) = t1 at *
  generalize dg32 x i * 2 ^ r % 4294967296 * 2 ^ (32 * i) = t2 at *
  generalize dg32 x i * 2 ^ r * 2 ^ (32 * i) = t3 at *
  generalize dg32 V i * 2 ^ (32 * i) = t4 at *
  omega
theorem shl_ltk {x n r : Nat} (hx : x < 2 ^ (32 * n)) (hr : r < 32) : x * 2 ^ r < 2 ^ (32 * (n + 0 + 1)) := by
  rw [Nat.add_zero, Nat.mul_succ, Nat.pow_add]
  exact Nat.lt_of_lt_of_le (Nat.mul_lt_mul_of_pos_right hx (Nat.pow_pos (by decide))) (Nat.mul_le_mul_left _ (Nat.pow_le_pow_right (by decide) (by omega)))
theorem shr32_word (x q r i : Nat) (hr : r < 32) : (dg32 x (i + q) ||| dg32 x (i + q + 1) * 2 ^ 32 % 18446744073709551616) / 2 ^ r % 4294967296 = dg32 (x / 2 ^ (32 * q + r)) i := by
  have h1 := dg32_lt x (i + q)
  have h2 := dg32_lt x (i + q + 1)
  rw [Nat.mod_eq_of_lt (show dg32 x (i + q + 1) * 2 ^ 32 < 18446744073709551616 by omega), Nat.or_comm, Nat.mul_comm, ← Nat.two_pow_add_eq_or_of_lt (show dg32 x (i + q) < 2 ^ 32 by omega)]
  have h3 := hi32 x (i + q)
  have h4 := hi32 x (i + q + 1)
  unfold dg32 at h1 h2 ⊢
  rw [Nat.div_div_eq_div_mul, ← Nat.pow_add, show 32 * q + r + 32 * i = 32 * (i + q) + r by omega, Nat.pow_add, ← Nat.div_div_eq_div_mul x]
  have h5 : x / 2 ^ (32 * (i + q)) = 2 ^ 32 * (x / 2 ^ (32 * (i + q + 1)) % 4294967296) + x / 2 ^ (32 * (i + q)) % 4294967296 + 2 ^ 64 * (x / 2 ^ (32 * (i + q + 1 + 1))) := by
    unfold dg32 at h3 h4
    rw [show (2 : Nat) ^ 64 = 4294967296 * 4294967296 from rfl, show (2 : Nat) ^ 32 = 4294967296 from rfl]
    omega
  conv => rhs; rw [h5]
  have h6 : (2 : Nat) ^ 64 * (x / 2 ^ (32 * (i + q + 1 + 1))) = 2 ^ r * (4294967296 * (2 ^ (32 - r) * (x / 2 ^ (32 * (i + q + 1 + 1))))) := by
    rw [show (2 : Nat) ^ 64 = 2 ^ r * (4294967296 * 2 ^ (32 - r)) by rw [show (4294967296 : Nat) = 2 ^ 32 from rfl, ← Nat.pow_add, ← Nat.pow_add]; congr 1; omega]
    simp only [Nat.mul_assoc]
  rw [h6, Nat.add_mul_div_left _ _ (Nat.pow_pos (by decide)), Nat.add_mul_mod_self_left]
theorem shr_nil {x k n : Nat} (hx : x < 2 ^ (32 * n)) (h : n ≤ k / 32) : x / 2 ^ k = 0 := Nat.div_eq_of_lt (Nat.lt_of_lt_of_le hx (Nat.pow_le_pow_right (by decide) (by omega)))
theorem shr_ltk {x k n : Nat} (hx : x < 2 ^ (32 * n)) (h : ¬ n ≤ k / 32) : x / 2 ^ k < 2 ^ (32 * (n - k / 32)) := by
  rw [Nat.div_lt_iff_lt_mul (Nat.pow_pos (by decide)), ← Nat.pow_add]
  exact Nat.lt_of_lt_of_le hx (Nat.pow_le_pow_right (by decide) (by omega))
theorem r1_From {x : Nat} (hx : x < 2 ^ 576) (w0 : World) : Calls Try.prog 23 #[nv x] w0 (NRet w0 [] [x] fun f => dec (f 0)) := by
 refine enter_n [] [(0, .agg (U9 x))] Try.func23 rfl rfl trivial ?_
 intro γ ac hE
 refine sq_t hE [Rw 1 (vP 1 0) [(0, .agg (U9 x))] [] [(1, (.sc (U9 x), 37))], Rw 2 (.s (.v (.slice none 0 0)))] [(1, vP 1 0), (2, .s (.v (.slice none 0 0)))] [(1, (.sc (U9 x), 37))] ⟨tb, tp, trivial⟩ ?_
 clear hE; intro γ ac wc hE
 refine sq_t hE [Rw 5 (.s (.sl 5 0 18 18)) [] [] [(5, (.pl (Vn 18 0), 81))], Rw 3 (.s (.sl 5 0 18 18)) [(5, .s (.sl 5 0 18 18))]] [(1, vP 1 0), (2, .s (.v (.slice none 0 0))), (3, .s (.sl 5 0 18 18))] [(1, (.sc (U9 x), 37)), (5, (.pl (Vn 18 0), 81))] ⟨tmk mk25, tp, trivial⟩ ?_
 clear hE; intro γ ac wc hE
 refine wp_seq ?_
 refine sq_t hE [Rw 4 (vI 0)] [(1, vP 1 0), (2, .s (.v (.slice none 0 0))), (3, .s (.sl 5 0 18 18)), (4, vI 0)] [(1, (.sc (U9 x), 37)), (5, (.pl (Vn 18 0), 81))] ⟨tp, trivial⟩ ?_
 clear hE; intro γ ac wc hE
 refine wp_block ?_
 refine loop_sx (σ := Nat) (fun i => 9 - i) (fun i => i ≤ 9)
     (fun i => [(1, vP 1 0), (2, .s (.v (.slice none 0 0))), (3, .s (.sl 5 0 18 18)), (4, vI i)])
     (fun i => [(1, (.sc (U9 x), 37)), (5, (.pl (Vn 18 (mix32 x 0 (2 * i))), 81))])
     (0) (by omega) (hE.sub (by kernel_rfl) (by rw [Nat.mul_zero, ← Vn_mix0]; kernel_rfl)) ?_
 clear hE; intro i γ ac wc hG hE
 refine wp_seq ?_
 refine sq_t hE [Rw 6 (vI i) [(4, vI i)], Rw 7 (vB (decide (i < 9))) [(6, vI i)]] [(1, vP 1 0), (2, .s (.v (.slice none 0 0))), (3, .s (.sl 5 0 18 18)), (4, vI i), (7, vB (decide (i < 9)))] [(1, (.sc (U9 x), 37)), (5, (.pl (Vn 18 (mix32 x 0 (2 * i))), 81))] ⟨tp, tE fun _ => d_lss _ _, trivial⟩ ?_
 clear hE; intro γ ac wc hE
 refine cond_sx hE rfl (fun hb1 => ?_) (fun hb1 => ?_)
 ·
  have hb1p := of_decide_eq_true hb1
  refine wp_skip ?_
  refine then_normal ?_
  refine wp_seq ?_
  refine wp_block ?_
  refine sq_t hE [Rw 10 (.s (.sl 5 0 18 18)) [(3, .s (.sl 5 0 18 18))], Rw 11 (vI i) [(4, vI i)], Rw 12 (vI (2 * i)) [(11, vI i)], Rw 13 (vI i) [(4, vI i)], Rw 14 (vP 1 0) [(1, vP 1 0)], Rw 15 (vP 1 i) [(14, vP 1 0), (13, vI i)], Rw 16 (vW (dg x i)) [(15, vP 1 i)] [(1, (.sc (U9 x), 37))], Rw 17 (vW (dg32 x (2 * i))) [(16, vW (dg x i))], Rw 18 (.s (inN .u32 (dg32 x (2 * i)))) [(17, vW (dg32 x (2 * i)))], Rw 19 (vP 5 (2 * i)) [(10, .s (.sl 5 0 18 18)), (12, vI (2 * i))], Rz [(19, vP 5 (2 * i)), (18, .s (inN .u32 (dg32 x (2 * i))))] [(5, (.pl (Vn 18 (mix32 x 0 (2 * i))), 81))] [(5, (.pl (Vn 18 (set32 (mix32 x 0 (2 * i)) (2 * i) (dg32 x (2 * i)))), 81))]] [(1, vP 1 0), (2, .s (.v (.slice none 0 0))), (3, .s (.sl 5 0 18 18)), (4, vI i)] [(1, (.sc (U9 x), 37)), (5, (.pl (Vn 18 (set32 (mix32 x 0 (2 * i)) (2 * i) (dg32 x (2 * i)))), 81))] ⟨tp, tp, tE fun _ => wi_mul, tp, tp, txa0 ar35, tlU on22, trip_bin .and 22 22 (.tmp 16) (.const (.int .u64 ((4294967295 : Nat) : Int))) (.int .u64 ((dg x i : Nat) : Int)) (.int .u64 ((4294967295 : Nat) : Int)) (.int .u64 ((dg32 x (2 * i) : Nat) : Int)) rfl rfl rfl (by kernel_rfl) rfl rfl (fun γ => by kernel_rfl) (fun γ => by kernel_rfl) (fun _ _ => rfl) (fun w => (b_and_u64 _ _ (dg_lt _ _) (by decide)).trans (congrArg (fun n : Nat => Result.ok (Value.int .u64 (n : Int)) w) ((and32' _).trans (dg_lo x i)))) (fun γ => rfl), tE fun _ => wr_u32 rfl (dg32_lt _ _), txs sl25, tsv sz81 (hd32 := (dg32_lt _ _)), trivial⟩ ?_
  clear hE; intro γ ac wc hE
  refine rg_t hE [Rw 20 (.s (.sl 5 0 18 18)) [(3, .s (.sl 5 0 18 18))], Rw 21 (vI i) [(4, vI i)], Rw 22 (vI (2 * i)) [(21, vI i)], Rw 23 (vI ((2 * i) + 1)) [(22, vI (2 * i))], Rw 24 (vI i) [(4, vI i)], Rw 25 (vP 1 0) [(1, vP 1 0)], Rw 26 (vP 1 i) [(25, vP 1 0), (24, vI i)], Rw 27 (vW (dg x i)) [(26, vP 1 i)] [(1, (.sc (U9 x), 37))], Rw 28 (vW (dg32 x (2 * i + 1))) [(27, vW (dg x i))], Rw 29 (.s (inN .u32 (dg32 x (2 * i + 1)))) [(28, vW (dg32 x (2 * i + 1)))], Rw 30 (vP 5 ((2 * i) + 1)) [(20, .s (.sl 5 0 18 18)), (23, vI ((2 * i) + 1))], Rz [(30, vP 5 ((2 * i) + 1)), (29, .s (inN .u32 (dg32 x (2 * i + 1))))] [(5, (.pl (Vn 18 (set32 (mix32 x 0 (2 * i)) (2 * i) (dg32 x (2 * i)))), 81))] [(5, (.pl (Vn 18 (set32 (set32 (mix32 x 0 (2 * i)) (2 * i) (dg32 x (2 * i))) ((2 * i) + 1) (dg32 x (2 * i + 1)))), 81))]] [(1, vP 1 0), (2, .s (.v (.slice none 0 0))), (3, .s (.sl 5 0 18 18)), (4, vI i)] [(1, (.sc (U9 x), 37)), (5, (.pl (Vn 18 (set32 (set32 (mix32 x 0 (2 * i)) (2 * i) (dg32 x (2 * i))) ((2 * i) + 1) (dg32 x (2 * i + 1)))), 81))] ⟨tp, tp, tE fun _ => wi_mul, tE fun _ => wi_add, tp, tp, txa0 ar35, tlU on22, trip_bin .shr 22 30 (.tmp 27) (.const (.int .u64 ((32 : Nat) : Int))) (.int .u64 ((dg x i : Nat) : Int)) (.int .u64 ((32 : Nat) : Int)) (.int .u64 ((dg32 x (2 * i + 1) : Nat) : Int)) rfl rfl rfl (by kernel_rfl) rfl rfl (fun γ => by kernel_rfl) (fun γ => by kernel_rfl) (fun _ _ => rfl) (fun w => (b_shr_u64 _ _ _ (by decide)).trans (congrArg (fun n : Nat => Result.ok (Value.int .u64 (n : Int)) w) (dg_hi x i))) (fun γ => rfl), tE fun _ => wr_u32 rfl (dg32_lt _ _), txs sl25, tsv sz81 (hd32 := (dg32_lt _ _)), trivial⟩ ?_
  clear hE; intro γ ac wc hE
  refine blk_normal ?_
  refine then_normal ?_
  refine rg_t hE [Rw 8 (vI i) [(4, vI i)], Rw 9 (vI (i + 1)) [(8, vI i)], Rw 4 (vI (i + 1)) [(9, vI (i + 1))]] [(1, vP 1 0), (2, .s (.v (.slice none 0 0))), (3, .s (.sl 5 0 18 18)), (4, vI (i + 1))] [(1, (.sc (U9 x), 37)), (5, (.pl (Vn 18 (set32 (set32 (mix32 x 0 (2 * i)) (2 * i) (dg32 x (2 * i))) ((2 * i) + 1) (dg32 x (2 * i + 1)))), 81))] ⟨tp, tE fun _ => wi_add, tp, trivial⟩ ?_
  clear hE; intro γ ac wc hE
  refine then_normal ⟨i + 1, by omega, by omega, _, hE.sub (by kernel_rfl) (by rw [← Vn_from rfl]; kernel_rfl)⟩
 ·
  have hb1p := of_decide_eq_false hb1
  refine wp_exit ?_
  refine then_exit ?_
  refine then_exit ?_
  refine blk_hit ?_
  refine then_normal ?_
  refine sq_t hE [Rw 31 (.s (.sl 5 0 18 18)) [(3, .s (.sl 5 0 18 18))], Rw 32 (vM 32) [(31, .s (.sl 5 0 18 18))] [(5, (.pl (Vn 18 (mix32 x 0 (2 * i))), 81))] [(32, (.abs (numA x), 0))] [(5, (.gone, 0))], Rw 2 (vM 32) [(32, vM 32)]] [(1, vP 1 0), (2, vM 32), (3, .s (.sl 5 0 18 18)), (4, vI i)] [(1, (.sc (U9 x), 37)), (32, (.abs (numA x), 0))] ⟨tp, ttrim (hz := (Vn_mixn (by omega))) (hlt := hx), tp, trivial⟩ ?_
  clear hE; intro γ ac wc hE
  refine wp_ret ?_
  exact (end1 hE rfl (.tmp 2 (vM 32) rfl) (nret hE [(32, x)])).1
theorem r1_Nat {k x : Nat} (w0 : World) (h1 : Num w0 k x) : Calls Try.prog 31 #[dec k] w0 fun e w => e = .returned (nv x) ∧ Below w0.heap.size w0 w := by
 refine enter_n [(900, k, (nd x), x)] [(0, vM 900)] Try.func31 rfl rfl ⟨h1, trivial⟩ ?_
 intro γ ac hE
 replace hE : Env _ _ _ w0 (lk [(0, vM 900)]) (lk [(900, (.abs (numA x), 0))]) γ ac w0 := hE
 refine sq_t hE [Rw 2 (vP 2 0) [] [] [(2, (.sc (U9 0), 37))]] [(0, vM 900), (2, vP 2 0)] [(2, (.sc (U9 0), 37)), (900, (.abs (numA x), 0))] ⟨ta zt37, trivial⟩ ?_
 clear hE; intro γ ac wc hE
 refine sq_t hE [Rw 3 (vP 3 0) [] [] [(3, (.sc (U9 0), 37))]] [(0, vM 900), (2, vP 2 0), (3, vP 3 0)] [(2, (.sc (U9 0), 37)), (3, (.sc (U9 0), 37)), (900, (.abs (numA x), 0))] ⟨ta zt37, trivial⟩ ?_
 clear hE; intro γ ac wc hE
 refine wp_seq ?_
 refine sq_t hE [Rw 4 (vI 0)] [(0, vM 900), (2, vP 2 0), (3, vP 3 0), (4, vI 0)] [(2, (.sc (U9 0), 37)), (3, (.sc (U9 0), 37)), (900, (.abs (numA x), 0))] ⟨tp, trivial⟩ ?_
 clear hE; intro γ ac wc hE
 refine wp_block ?_
 refine loop_sx (σ := Nat) (fun i => 9 - i) (fun i => i ≤ 9)
     (fun i => [(0, vM 900), (2, vP 2 0), (3, vP 3 0), (4, vI i)])
     (fun i => [(2, (.sc (U9 0), 37)), (3, (.sc (U9 (mixw x 0 i)), 37)), (900, (.abs (numA x), 0))])
     (0) (by omega) (hE.sub (by kernel_rfl) (by rw [← U9_mix0]; kernel_rfl)) ?_
 clear hE; intro i γ ac wc hG hE
 refine wp_seq ?_
 refine sq_t hE [Rw 5 (vI i) [(4, vI i)], Rw 6 (vB (decide (i < 9))) [(5, vI i)]] [(0, vM 900), (2, vP 2 0), (3, vP 3 0), (4, vI i), (6, vB (decide (i < 9)))] [(2, (.sc (U9 0), 37)), (3, (.sc (U9 (mixw x 0 i)), 37)), (900, (.abs (numA x), 0))] ⟨tp, tE fun _ => d_lss _ _, trivial⟩ ?_
 clear hE; intro γ ac wc hE
 refine cond_sx hE rfl (fun hb1 => ?_) (fun hb1 => ?_)
 ·
  have hb1p := of_decide_eq_true hb1
  refine wp_skip ?_
  refine then_normal ?_
  refine wp_seq ?_
  refine wp_block ?_
  refine rg_t hE [Rw 9 (vI i) [(4, vI i)], Rw 10 (vM 900) [(0, vM 900)], Rw 11 (vI i) [(4, vI i)], Rw 12 (vI (2 * i)) [(11, vI i)], Rn 13 (vW (dg32 x (2 * i))) [(10, vM 900), (12, vI (2 * i))] [(900, x)] [], Rw 14 (vM 900) [(0, vM 900)], Rw 15 (vI i) [(4, vI i)], Rw 16 (vI (2 * i)) [(15, vI i)], Rw 17 (vI ((2 * i) + 1)) [(16, vI (2 * i))], Rn 18 (vW (dg32 x ((2 * i) + 1))) [(14, vM 900), (17, vI ((2 * i) + 1))] [(900, x)] [], Rw 19 (vW ((dg32 x ((2 * i) + 1)) * 2 ^ 32 % 18446744073709551616)) [(18, vW (dg32 x ((2 * i) + 1)))], Rw 20 (vW (dg x i)) [(13, vW (dg32 x (2 * i))), (19, vW ((dg32 x ((2 * i) + 1)) * 2 ^ 32 % 18446744073709551616))], Rw 21 (vP 3 0) [(3, vP 3 0)], Rw 22 (vP 3 i) [(21, vP 3 0), (9, vI i)], Rz [(22, vP 3 i), (20, vW (dg x i))] [(3, (.sc (U9 (mixw x 0 i)), 37))] [(3, (.sc (U9 (setw (mixw x 0 i) i (dg x i))), 37))]] [(0, vM 900), (2, vP 2 0), (3, vP 3 0), (4, vI i)] [(2, (.sc (U9 0), 37)), (3, (.sc (U9 (setw (mixw x 0 i) i (dg x i))), 37)), (900, (.abs (numA x), 0))] ⟨tp, tp, tp, tE fun _ => wi_mul, tnv fun γ w h => r1_digit (i := 2 * i) (nd_lt _) w h.1, tp, tp, tE fun _ => wi_mul, tE fun _ => wi_add, tnv fun γ w h => r1_digit (i := (2 * i) + 1) (nd_lt _) w h.1, t_shl_u64, trip_bin .or 22 22 (.tmp 13) (.tmp 19) (.int .u64 ((dg32 x (2 * i) : Nat) : Int)) (.int .u64 (((dg32 x ((2 * i) + 1)) * 2 ^ 32 % 18446744073709551616 : Nat) : Int)) (.int .u64 ((dg x i : Nat) : Int)) rfl rfl rfl (by kernel_rfl) rfl rfl (fun γ => by kernel_rfl) (fun γ => by kernel_rfl) (fun _ _ => rfl) (fun w => (b_or_u64 _ _ (Nat.lt_trans (dg32_lt _ _) (by decide)) (Nat.mod_lt _ (by decide))).trans (congrArg (fun n : Nat => Result.ok (Value.int .u64 (n : Int)) w) (dg_two x i))) (fun γ => rfl), tp, txa0 ar35, tsU sz22 (hdd := (dg_lt _ _)), trivial⟩ ?_
  clear hE; intro γ ac wc hE
  refine blk_normal ?_
  refine then_normal ?_
  refine rg_t hE [Rw 7 (vI i) [(4, vI i)], Rw 8 (vI (i + 1)) [(7, vI i)], Rw 4 (vI (i + 1)) [(8, vI (i + 1))]] [(0, vM 900), (2, vP 2 0), (3, vP 3 0), (4, vI (i + 1))] [(2, (.sc (U9 0), 37)), (3, (.sc (U9 (setw (mixw x 0 i) i (dg x i))), 37)), (900, (.abs (numA x), 0))] ⟨tp, tE fun _ => wi_add, tp, trivial⟩ ?_
  clear hE; intro γ ac wc hE
  refine then_normal ⟨i + 1, by omega, by omega, _, hE.sub (by kernel_rfl) (by rw [← setw_mixw rfl]; kernel_rfl)⟩
 ·
  have hb1p := of_decide_eq_false hb1
  refine wp_exit ?_
  refine then_exit ?_
  refine then_exit ?_
  refine blk_hit ?_
  refine then_normal ?_
  refine sq_t hE [Rw 23 (.agg (U9 (mixw x 0 i))) [(3, vP 3 0)] [(3, (.sc (U9 (mixw x 0 i)), 37))], Rz [(2, vP 2 0), (23, .agg (U9 (mixw x 0 i)))] [(2, (.sc (U9 0), 37))] [(2, (.sc (U9 (mixw x 0 i)), 37))]] [(0, vM 900), (2, vP 2 0), (3, vP 3 0), (4, vI i)] [(2, (.sc (U9 (mixw x 0 i)), 37)), (3, (.sc (U9 (mixw x 0 i)), 37)), (900, (.abs (numA x), 0))] ⟨tl ag37, ts sz37, trivial⟩ ?_
  clear hE; intro γ ac wc hE
  refine wp_ret ?_
  have hi : i = 9 := by omega
  exact (end1 hE rfl (.cells 2 2 0 37 37 (U9 (mixw x 0 i)) (U9 (mixw x 0 i)) rfl rfl ag37 (by kernel_rfl)) (⟨by rw [show U9 (mixw x 0 i) = U9 x by rw [hi]; exact U9_mix9 _ _]; rfl, hE.keep.belowN⟩)).1
theorem r1_Mul {k m x y : Nat} (hx : nd x ≤ 1000) (hy : nd y ≤ 1000) (w0 : World) (h1 : Num w0 k x) (h2 : Num w0 m y) : Calls Try.prog 92 #[dec k, dec m] w0 (NRet w0 [k, m] [x * y] fun f => dec (f 0)) := by
 refine enter_n [(900, k, (nd x), x), (901, m, (nd y), y)] [(0, vM 900), (1, vM 901)] Try.func92 rfl rfl ⟨h1, h2, trivial⟩ ?_
 intro γ ac hE
 replace hE : Env _ _ _ w0 (lk [(0, vM 900), (1, vM 901)]) (lk [(900, (.abs (numA x), 0)), (901, (.abs (numA y), 0))]) γ ac w0 := hE
 refine sq_t hE [Rw 4 (.s (.v (.slice none 0 0)))] [(0, vM 900), (1, vM 901), (4, .s (.v (.slice none 0 0)))] [(900, (.abs (numA x), 0)), (901, (.abs (numA y), 0))] ⟨tp, trivial⟩ ?_
 clear hE; intro γ ac wc hE
 refine sq_t hE [Rw 10 (vM 900) [(0, vM 900)], Rw 11 (vI (nd x)) [(10, vM 900)] [(900, (.abs (numA x), 0))], Rw 12 (vM 901) [(1, vM 901)], Rw 13 (vI (nd y)) [(12, vM 901)] [(901, (.abs (numA y), 0))], Rw 14 (vI ((nd x) + (nd y))) [(11, vI (nd x)), (13, vI (nd y))], Rw 15 (.s (.sl 15 0 ((nd x) + (nd y)) ((nd x) + (nd y)))) [(14, vI ((nd x) + (nd y)))] [] [(15, (.pl (Vn ((nd x) + (nd y)) 0), 81))], Rw 5 (.s (.sl 15 0 ((nd x) + (nd y)) ((nd x) + (nd y)))) [(15, .s (.sl 15 0 ((nd x) + (nd y)) ((nd x) + (nd y))))]] [(0, vM 900), (1, vM 901), (4, .s (.v (.slice none 0 0))), (5, .s (.sl 15 0 ((nd x) + (nd y)) ((nd x) + (nd y))))] [(15, (.pl (Vn ((nd x) + (nd y)) 0), 81)), (900, (.abs (numA x), 0)), (901, (.abs (numA y), 0))] ⟨tp, tnl sl25, tp, tnl sl25, tE fun _ => wi_add, tmk mk25, tp, trivial⟩ ?_
 clear hE; intro γ ac wc hE
 refine wp_seq ?_
 refine sq_t hE [Rw 6 (vI 0)] [(0, vM 900), (1, vM 901), (4, .s (.v (.slice none 0 0))), (5, .s (.sl 15 0 ((nd x) + (nd y)) ((nd x) + (nd y)))), (6, vI 0)] [(15, (.pl (Vn ((nd x) + (nd y)) 0), 81)), (900, (.abs (numA x), 0)), (901, (.abs (numA y), 0))] ⟨tp, trivial⟩ ?_
 clear hE; intro γ ac wc hE
 refine wp_block ?_
 refine loop_sx (σ := Nat) (fun i => nd x - i) (fun i => i ≤ nd x)
     (fun i => [(0, vM 900), (1, vM 901), (4, .s (.v (.slice none 0 0))), (5, .s (.sl 15 0 ((nd x) + (nd y)) ((nd x) + (nd y)))), (6, vI i)])
     (fun i => [(15, (.pl (Vn (nd x + nd y) (x % 2 ^ (32 * i) * y)), 81)), (900, (.abs (numA x), 0)), (901, (.abs (numA y), 0))])
     (0) (by omega) (hE.sub (by kernel_rfl) (by rw [Nat.mul_zero, Nat.pow_zero, Nat.mod_one, Nat.zero_mul]; kernel_rfl)) ?_
 clear hE; intro i γ ac wc hG hE
 refine wp_seq ?_
 refine sq_t hE [Rw 16 (vI i) [(6, vI i)], Rw 17 (vM 900) [(0, vM 900)], Rw 18 (vI (nd x)) [(17, vM 900)] [(900, (.abs (numA x), 0))], Rw 19 (vB (decide (i < nd x))) [(16, vI i), (18, vI (nd x))]] [(0, vM 900), (1, vM 901), (4, .s (.v (.slice none 0 0))), (5, .s (.sl 15 0 ((nd x) + (nd y)) ((nd x) + (nd y)))), (6, vI i), (19, vB (decide (i < nd x)))] [(15, (.pl (Vn (nd x + nd y) (x % 2 ^ (32 * i) * y)), 81)), (900, (.abs (numA x), 0)), (901, (.abs (numA y), 0))] ⟨tp, tp, tnl sl25, tE fun _ => d_lss _ _, trivial⟩ ?_
 clear hE; intro γ ac wc hE
 refine cond_sx hE rfl (fun hb1 => ?_) (fun hb1 => ?_)
 ·
  have hb1p := of_decide_eq_true hb1
  refine wp_skip ?_
  refine then_normal ?_
  refine wp_seq ?_
  refine wp_block ?_
  refine sq_t hE [Rw 7 (vW 0)] [(0, vM 900), (1, vM 901), (4, .s (.v (.slice none 0 0))), (5, .s (.sl 15 0 ((nd x) + (nd y)) ((nd x) + (nd y)))), (6, vI i), (7, vW 0)] [(15, (.pl (Vn (nd x + nd y) (x % 2 ^ (32 * i) * y)), 81)), (900, (.abs (numA x), 0)), (901, (.abs (numA y), 0))] ⟨tp, trivial⟩ ?_
  clear hE; intro γ ac wc hE
  refine wp_seq ?_
  refine sq_t hE [Rw 8 (vI 0)] [(0, vM 900), (1, vM 901), (4, .s (.v (.slice none 0 0))), (5, .s (.sl 15 0 ((nd x) + (nd y)) ((nd x) + (nd y)))), (6, vI i), (7, vW 0), (8, vI 0)] [(15, (.pl (Vn (nd x + nd y) (x % 2 ^ (32 * i) * y)), 81)), (900, (.abs (numA x), 0)), (901, (.abs (numA y), 0))] ⟨tp, trivial⟩ ?_
  clear hE; intro γ ac wc hE
  refine wp_block ?_
  refine loop_sx (σ := Nat × Nat × Nat) (fun (j, V, c) => nd y - j) (fun (j, V, c) => j ≤ nd y ∧ V + c * 2 ^ (32 * (i + j)) = x % 2 ^ (32 * i) * y + dg32 x i * 2 ^ (32 * i) * (y % 2 ^ (32 * j)) ∧ V < 2 ^ (32 * (i + nd y)) ∧ c < 4294967296)
      (fun (j, V, c) => [(0, vM 900), (1, vM 901), (4, .s (.v (.slice none 0 0))), (5, .s (.sl 15 0 ((nd x) + (nd y)) ((nd x) + (nd y)))), (6, vI i), (7, vW c), (8, vI j)])
      (fun (j, V, c) => [(15, (.pl (Vn (nd x + nd y) V), 81)), (900, (.abs (numA x), 0)), (901, (.abs (numA y), 0))])
      ((0, x % 2 ^ (32 * i) * y, 0)) (⟨Nat.zero_le _, by simp [Nat.mod_one], mul32_lo_lt (nd_lt y), by decide⟩) (hE.sub (by kernel_rfl) (by kernel_rfl)) ?_
  clear hE; rintro ⟨j, V, c⟩ γ ac wc hG2 hE
  replace hG2 : j ≤ nd y ∧ V + c * 2 ^ (32 * (i + j)) = x % 2 ^ (32 * i) * y + dg32 x i * 2 ^ (32 * i) * (y % 2 ^ (32 * j)) ∧ V < 2 ^ (32 * (i + nd y)) ∧ c < 4294967296 := hG2
  replace hE : Env _ _ _ w0 (lk [(0, vM 900), (1, vM 901), (4, .s (.v (.slice none 0 0))), (5, .s (.sl 15 0 ((nd x) + (nd y)) ((nd x) + (nd y)))), (6, vI i), (7, vW c), (8, vI j)]) (lk [(15, (.pl (Vn (nd x + nd y) V), 81)), (900, (.abs (numA x), 0)), (901, (.abs (numA y), 0))]) γ ac wc := hE
  have hw := mul32_word (dg32_lt x i) (dg32_lt y j) (dg32_lt V (i + j)) hG2.2.2.2
  refine wp_seq ?_
  refine sq_t hE [Rw 22 (vI j) [(8, vI j)], Rw 23 (vM 901) [(1, vM 901)], Rw 24 (vI (nd y)) [(23, vM 901)] [(901, (.abs (numA y), 0))], Rw 25 (vB (decide (j < nd y))) [(22, vI j), (24, vI (nd y))]] [(0, vM 900), (1, vM 901), (4, .s (.v (.slice none 0 0))), (5, .s (.sl 15 0 ((nd x) + (nd y)) ((nd x) + (nd y)))), (6, vI i), (7, vW c), (8, vI j), (25, vB (decide (j < nd y)))] [(15, (.pl (Vn (nd x + nd y) V), 81)), (900, (.abs (numA x), 0)), (901, (.abs (numA y), 0))] ⟨tp, tp, tnl sl25, tE fun _ => d_lss _ _, trivial⟩ ?_
  clear hE; intro γ ac wc hE
  refine cond_sx hE rfl (fun hb2 => ?_) (fun hb2 => ?_)
  ·
   have hb2p := of_decide_eq_true hb2
   refine wp_skip ?_
   refine then_normal ?_
   refine wp_seq ?_
   refine wp_block ?_
   refine sq_d hE [Rw 28 (vM 900) [(0, vM 900)], Rw 29 (vI i) [(6, vI i)], Rw 30 (.s (.nptr 900 i)) [(28, vM 900), (29, vI i)] [(900, (.abs (numA x), 0))], Rw 31 (.s (inN .u32 (dg32 x i))) [(30, .s (.nptr 900 i))] [(900, (.abs (numA x), 0))], Rw 32 (vW (dg32 x i)) [(31, .s (inN .u32 (dg32 x i)))], Rw 33 (vM 901) [(1, vM 901)], Rw 34 (vI j) [(8, vI j)], Rw 35 (.s (.nptr 901 j)) [(33, vM 901), (34, vI j)] [(901, (.abs (numA y), 0))], Rw 36 (.s (inN .u32 (dg32 y j))) [(35, .s (.nptr 901 j))] [(901, (.abs (numA y), 0))], Rw 37 (vW (dg32 y j)) [(36, .s (inN .u32 (dg32 y j)))], Rw 38 (vW (dg32 x i * dg32 y j)) [(32, vW (dg32 x i)), (37, vW (dg32 y j))], Rw 39 (.s (.sl 15 0 ((nd x) + (nd y)) ((nd x) + (nd y)))) [(5, .s (.sl 15 0 ((nd x) + (nd y)) ((nd x) + (nd y))))], Rw 40 (vI i) [(6, vI i)], Rw 41 (vI j) [(8, vI j)], Rw 42 (vI (i + j)) [(40, vI i), (41, vI j)], Rw 43 (vP 15 (i + j)) [(39, .s (.sl 15 0 ((nd x) + (nd y)) ((nd x) + (nd y)))), (42, vI (i + j))], Rw 44 (.s (inN .u32 (dg32 V (i + j)))) [(43, vP 15 (i + j))] [(15, (.pl (Vn (nd x + nd y) V), 81))], Rw 45 (vW (dg32 V (i + j))) [(44, .s (inN .u32 (dg32 V (i + j))))], Rw 46 (vW (dg32 x i * dg32 y j + dg32 V (i + j))) [(38, vW (dg32 x i * dg32 y j)), (45, vW (dg32 V (i + j)))], Rw 47 (vW c) [(7, vW c)], Rw 48 (vW (dg32 x i * dg32 y j + dg32 V (i + j) + c)) [(46, vW (dg32 x i * dg32 y j + dg32 V (i + j))), (47, vW c)], Rw 9 (vW (dg32 x i * dg32 y j + dg32 V (i + j) + c)) [(48, vW (dg32 x i * dg32 y j + dg32 V (i + j) + c))]] [(0, vM 900), (1, vM 901), (4, .s (.v (.slice none 0 0))), (5, .s (.sl 15 0 ((nd x) + (nd y)) ((nd x) + (nd y)))), (6, vI i), (7, vW c), (8, vI j), (9, vW (dg32 x i * dg32 y j + dg32 V (i + j) + c))] [(15, (.pl (Vn (nd x + nd y) V), 81)), (900, (.abs (numA x), 0)), (901, (.abs (numA y), 0))] ⟨tp, tp, txn sl25, tln on81, tE fun _ => wr_u64 rfl (Nat.lt_trans (dg32_lt _ _) (by decide)), tp, tp, txn sl25, tln on81, tE fun _ => wr_u64 rfl (Nat.lt_trans (dg32_lt _ _) (by decide)), tE (x := .int .u64 (IntKind.u64.wrap (((dg32 x i : Nat) : Int) * ((dg32 y j : Nat) : Int)))) fun _ => (wu_mul _ _).trans (congrArg (fun n : Nat => Value.int .u64 (n : Int)) (Nat.mod_eq_of_lt (by omega))), tp, tp, tp, tE fun _ => wi_add, txs sl25, tlv on81, tE fun _ => wr_u64 rfl (Nat.lt_trans (dg32_lt _ _) (by decide)), tE (x := .int .u64 (IntKind.u64.wrap (((dg32 x i * dg32 y j : Nat) : Int) + ((dg32 V (i + j) : Nat) : Int)))) fun _ => (wu_add _ _).trans (congrArg (fun n : Nat => Value.int .u64 (n : Int)) (Nat.mod_eq_of_lt (by omega))), tp, tE (x := .int .u64 (IntKind.u64.wrap (((dg32 x i * dg32 y j + dg32 V (i + j) : Nat) : Int) + ((c : Nat) : Int)))) fun _ => (wu_add _ _).trans (congrArg (fun n : Nat => Value.int .u64 (n : Int)) (Nat.mod_eq_of_lt (by omega))), tp, trivial⟩ ?_
   clear hE; intro γ ac wc hE
   refine sq_t hE [Rw 49 (.s (.sl 15 0 ((nd x) + (nd y)) ((nd x) + (nd y)))) [(5, .s (.sl 15 0 ((nd x) + (nd y)) ((nd x) + (nd y))))], Rw 50 (vI i) [(6, vI i)], Rw 51 (vI j) [(8, vI j)], Rw 52 (vI (i + j)) [(50, vI i), (51, vI j)], Rw 53 (vW (dg32 x i * dg32 y j + dg32 V (i + j) + c)) [(9, vW (dg32 x i * dg32 y j + dg32 V (i + j) + c))], Rw 54 (vW ((dg32 x i * dg32 y j + dg32 V (i + j) + c) % 4294967296)) [(53, vW (dg32 x i * dg32 y j + dg32 V (i + j) + c))], Rw 55 (.s (inN .u32 ((dg32 x i * dg32 y j + dg32 V (i + j) + c) % 4294967296))) [(54, vW ((dg32 x i * dg32 y j + dg32 V (i + j) + c) % 4294967296))], Rw 56 (vP 15 (i + j)) [(49, .s (.sl 15 0 ((nd x) + (nd y)) ((nd x) + (nd y)))), (52, vI (i + j))], Rz [(56, vP 15 (i + j)), (55, .s (inN .u32 ((dg32 x i * dg32 y j + dg32 V (i + j) + c) % 4294967296)))] [(15, (.pl (Vn (nd x + nd y) V), 81))] [(15, (.pl (Vn (nd x + nd y) (set32 V (i + j) ((dg32 x i * dg32 y j + dg32 V (i + j) + c) % 4294967296))), 81))]] [(0, vM 900), (1, vM 901), (4, .s (.v (.slice none 0 0))), (5, .s (.sl 15 0 ((nd x) + (nd y)) ((nd x) + (nd y)))), (6, vI i), (7, vW c), (8, vI j), (9, vW (dg32 x i * dg32 y j + dg32 V (i + j) + c))] [(15, (.pl (Vn (nd x + nd y) (set32 V (i + j) ((dg32 x i * dg32 y j + dg32 V (i + j) + c) % 4294967296))), 81)), (900, (.abs (numA x), 0)), (901, (.abs (numA y), 0))] ⟨tp, tp, tp, tE fun _ => wi_add, tp, trip_bin .and 22 22 (.tmp 53) (.const (.int .u64 ((4294967295 : Nat) : Int))) (.int .u64 ((dg32 x i * dg32 y j + dg32 V (i + j) + c : Nat) : Int)) (.int .u64 ((4294967295 : Nat) : Int)) (.int .u64 (((dg32 x i * dg32 y j + dg32 V (i + j) + c) % 4294967296 : Nat) : Int)) rfl rfl rfl (by kernel_rfl) rfl rfl (fun γ => by kernel_rfl) (fun γ => by kernel_rfl) (fun _ _ => rfl) (fun w => (b_and_u64 _ _ (by omega) (by decide)).trans (congrArg (fun n : Nat => Result.ok (Value.int .u64 (n : Int)) w) (and32' _))) (fun γ => rfl), tE fun _ => wr_u32 rfl (Nat.mod_lt _ (by decide)), txs sl25, tsv sz81 (hd32 := (Nat.mod_lt _ (by decide))), trivial⟩ ?_
   clear hE; intro γ ac wc hE
   refine rg_t hE [Rw 57 (vW (dg32 x i * dg32 y j + dg32 V (i + j) + c)) [(9, vW (dg32 x i * dg32 y j + dg32 V (i + j) + c))], Rw 58 (vW ((dg32 x i * dg32 y j + dg32 V (i + j) + c) / 4294967296)) [(57, vW (dg32 x i * dg32 y j + dg32 V (i + j) + c))], Rw 7 (vW ((dg32 x i * dg32 y j + dg32 V (i + j) + c) / 4294967296)) [(58, vW ((dg32 x i * dg32 y j + dg32 V (i + j) + c) / 4294967296))]] [(0, vM 900), (1, vM 901), (4, .s (.v (.slice none 0 0))), (5, .s (.sl 15 0 ((nd x) + (nd y)) ((nd x) + (nd y)))), (6, vI i), (7, vW ((dg32 x i * dg32 y j + dg32 V (i + j) + c) / 4294967296)), (8, vI j), (9, vW (dg32 x i * dg32 y j + dg32 V (i + j) + c))] [(15, (.pl (Vn (nd x + nd y) (set32 V (i + j) ((dg32 x i * dg32 y j + dg32 V (i + j) + c) % 4294967296))), 81)), (900, (.abs (numA x), 0)), (901, (.abs (numA y), 0))] ⟨tp, trip_bin .shr 22 30 (.tmp 57) (.const (.int .u64 ((32 : Nat) : Int))) (.int .u64 ((dg32 x i * dg32 y j + dg32 V (i + j) + c : Nat) : Int)) (.int .u64 ((32 : Nat) : Int)) (.int .u64 (((dg32 x i * dg32 y j + dg32 V (i + j) + c) / 4294967296 : Nat) : Int)) rfl rfl rfl (by kernel_rfl) rfl rfl (fun γ => by kernel_rfl) (fun γ => by kernel_rfl) (fun _ _ => rfl) (fun w => (b_shr_u64 _ _ _ (by decide)).trans (congrArg (fun n : Nat => Result.ok (Value.int .u64 (n : Int)) w) rfl)) (fun γ => rfl), tp, trivial⟩ ?_
   clear hE; intro γ ac wc hE
   refine blk_normal ?_
   refine then_normal ?_
   refine rg_t hE [Rw 26 (vI j) [(8, vI j)], Rw 27 (vI (j + 1)) [(26, vI j)], Rw 8 (vI (j + 1)) [(27, vI (j + 1))]] [(0, vM 900), (1, vM 901), (4, .s (.v (.slice none 0 0))), (5, .s (.sl 15 0 ((nd x) + (nd y)) ((nd x) + (nd y)))), (6, vI i), (7, vW ((dg32 x i * dg32 y j + dg32 V (i + j) + c) / 4294967296)), (8, vI (j + 1)), (9, vW (dg32 x i * dg32 y j + dg32 V (i + j) + c))] [(15, (.pl (Vn (nd x + nd y) (set32 V (i + j) ((dg32 x i * dg32 y j + dg32 V (i + j) + c) % 4294967296))), 81)), (900, (.abs (numA x), 0)), (901, (.abs (numA y), 0))] ⟨tp, tE fun _ => wi_add, tp, trivial⟩ ?_
   clear hE; intro γ ac wc hE
   refine then_normal ⟨(j + 1, set32 V (i + j) ((dg32 x i * dg32 y j + dg32 V (i + j) + c) % 4294967296), (dg32 x i * dg32 y j + dg32 V (i + j) + c) / 4294967296), (by show nd y - (j + 1) < nd y - j; omega), ⟨by omega, mul32_step hG2.2.1 (Nat.mod_add_div _ 4294967296), set32_lt hG2.2.2.1 (Nat.mod_lt _ (by decide)) (by omega), by omega⟩, _, hE.sub (by kernel_rfl) (by kernel_rfl)⟩
  ·
   have hb2p := of_decide_eq_false hb2
   have hkn : j = nd y := by omega
   have hk := hkn ▸ hG2.2.1
   have hV := hG2.2.2.1
   have hc := hG2.2.2.2
   refine wp_exit ?_
   refine then_exit ?_
   refine then_exit ?_
   refine blk_hit ?_
   refine then_normal ?_
   refine rg_t hE [Rw 59 (.s (.sl 15 0 ((nd x) + (nd y)) ((nd x) + (nd y)))) [(5, .s (.sl 15 0 ((nd x) + (nd y)) ((nd x) + (nd y))))], Rw 60 (vI i) [(6, vI i)], Rw 61 (vM 901) [(1, vM 901)], Rw 62 (vI (nd y)) [(61, vM 901)] [(901, (.abs (numA y), 0))], Rw 63 (vI (i + (nd y))) [(60, vI i), (62, vI (nd y))], Rw 64 (vW c) [(7, vW c)], Rw 65 (.s (inN .u32 c)) [(64, vW c)], Rw 66 (vP 15 (i + (nd y))) [(59, .s (.sl 15 0 ((nd x) + (nd y)) ((nd x) + (nd y)))), (63, vI (i + (nd y)))], Rz [(66, vP 15 (i + (nd y))), (65, .s (inN .u32 c))] [(15, (.pl (Vn (nd x + nd y) V), 81))] [(15, (.pl (Vn (nd x + nd y) (set32 V (i + (nd y)) c)), 81))]] [(0, vM 900), (1, vM 901), (4, .s (.v (.slice none 0 0))), (5, .s (.sl 15 0 ((nd x) + (nd y)) ((nd x) + (nd y)))), (6, vI i), (7, vW c), (8, vI j)] [(15, (.pl (Vn (nd x + nd y) (set32 V (i + (nd y)) c)), 81)), (900, (.abs (numA x), 0)), (901, (.abs (numA y), 0))] ⟨tp, tp, tp, tnl sl25, tE fun _ => wi_add, tp, tE fun _ => wr_u32 rfl (by omega), txs sl25, tsv sz81, trivial⟩ ?_
   clear hE; intro γ ac wc hE
   refine blk_normal ?_
   refine then_normal ?_
   refine rg_t hE [Rw 20 (vI i) [(6, vI i)], Rw 21 (vI (i + 1)) [(20, vI i)], Rw 6 (vI (i + 1)) [(21, vI (i + 1))]] [(0, vM 900), (1, vM 901), (4, .s (.v (.slice none 0 0))), (5, .s (.sl 15 0 ((nd x) + (nd y)) ((nd x) + (nd y)))), (6, vI (i + 1)), (7, vW c), (8, vI j)] [(15, (.pl (Vn (nd x + nd y) (set32 V (i + (nd y)) c)), 81)), (900, (.abs (numA x), 0)), (901, (.abs (numA y), 0))] ⟨tp, tE fun _ => wi_add, tp, trivial⟩ ?_
   clear hE; intro γ ac wc hE
   refine then_normal ⟨i + 1, by omega, by omega, _, hE.sub (by kernel_rfl) (by rw [← mul32_row (c := c) (nd_lt y) hV hk]; kernel_rfl)⟩
 ·
  have hb1p := of_decide_eq_false hb1
  refine wp_exit ?_
  refine then_exit ?_
  refine then_exit ?_
  refine blk_hit ?_
  refine then_normal ?_
  refine sq_t hE [Rw 67 (.s (.sl 15 0 ((nd x) + (nd y)) ((nd x) + (nd y)))) [(5, .s (.sl 15 0 ((nd x) + (nd y)) ((nd x) + (nd y))))], Rw 68 (vM 68) [(67, .s (.sl 15 0 ((nd x) + (nd y)) ((nd x) + (nd y))))] [(15, (.pl (Vn (nd x + nd y) (x % 2 ^ (32 * i) * y)), 81))] [(68, (.abs (numA (x * y)), 0))] [(15, (.gone, 0))], Rw 4 (vM 68) [(68, vM 68)]] [(0, vM 900), (1, vM 901), (4, vM 68), (5, .s (.sl 15 0 ((nd x) + (nd y)) ((nd x) + (nd y)))), (6, vI i)] [(68, (.abs (numA (x * y)), 0)), (900, (.abs (numA x), 0)), (901, (.abs (numA y), 0))] ⟨tp, ttrim (hz := (by rw [show i = nd x by omega, Nat.mod_eq_of_lt (nd_lt x)])) (hlt := (by rw [Nat.mul_add, Nat.pow_add]; exact Nat.mul_lt_mul_of_lt_of_le (nd_lt x) (Nat.le_of_lt (nd_lt y)) (Nat.pow_pos (by decide)))), tp, trivial⟩ ?_
  clear hE; intro γ ac wc hE
  refine wp_ret ?_
  exact (end1 hE rfl (.tmp 4 (vM 68) rfl) (nret hE [(68, x * y)])).1
theorem r1_Shl {k x r : Nat} (hx : nd x ≤ 1000) (hr : r < 32) (w0 : World) (h1 : Num w0 k x) : Calls Try.prog 120 #[dec k, .int .i64 (r : Int)] w0 (NRet w0 [k] [x * 2 ^ r] fun f => dec (f 0)) := by
 refine enter_n [(900, k, (nd x), x)] [(0, vM 900), (1, vI r)] Try.func120 rfl rfl ⟨h1, trivial⟩ ?_
 intro γ ac hE
 replace hE : Env _ _ _ w0 (lk [(0, vM 900), (1, vI r)]) (lk [(900, (.abs (numA x), 0))]) γ ac w0 := hE
 refine sq_t hE [Rw 4 (.s (.v (.slice none 0 0)))] [(0, vM 900), (1, vI r), (4, .s (.v (.slice none 0 0)))] [(900, (.abs (numA x), 0))] ⟨tp, trivial⟩ ?_
 clear hE; intro γ ac wc hE
 refine sq_t hE [Rw 8 (vM 900) [(0, vM 900)], Rw 9 (vI (nd x)) [(8, vM 900)] [(900, (.abs (numA x), 0))], Rw 10 (vI r) [(1, vI r)], Rw 11 (vI 0) [(10, vI r)], Rw 12 (vI ((nd x) + 0)) [(9, vI (nd x)), (11, vI 0)], Rw 13 (vI (((nd x) + 0) + 1)) [(12, vI ((nd x) + 0))], Rw 14 (.s (.sl 14 0 (((nd x) + 0) + 1) (((nd x) + 0) + 1))) [(13, vI (((nd x) + 0) + 1))] [] [(14, (.pl (Vn (((nd x) + 0) + 1) 0), 81))], Rw 5 (.s (.sl 14 0 (((nd x) + 0) + 1) (((nd x) + 0) + 1))) [(14, .s (.sl 14 0 (((nd x) + 0) + 1) (((nd x) + 0) + 1)))]] [(0, vM 900), (1, vI r), (4, .s (.v (.slice none 0 0))), (5, .s (.sl 14 0 (((nd x) + 0) + 1) (((nd x) + 0) + 1)))] [(14, (.pl (Vn (((nd x) + 0) + 1) 0), 81)), (900, (.abs (numA x), 0))] ⟨tp, tnl sl25, tp, trip_bin .quo 3 3 (.tmp 10) (.const (.int .i64 ((32 : Nat) : Int))) (.int .i64 ((r : Nat) : Int)) (.int .i64 ((32 : Nat) : Int)) (.int .i64 ((0 : Nat) : Int)) rfl rfl rfl (by kernel_rfl) rfl rfl (fun γ => by kernel_rfl) (fun γ => by kernel_rfl) (fun _ _ => rfl) (fun w => (b_quo_i64 _ _ (by omega) (by decide)).trans (congrArg (fun n : Nat => Result.ok (Value.int .i64 (n : Int)) w) (Nat.div_eq_of_lt hr))) (fun γ => rfl), tE fun _ => wi_add, tE fun _ => wi_add, tmk mk25, tp, trivial⟩ ?_
 clear hE; intro γ ac wc hE
 refine wp_seq ?_
 refine sq_t hE [Rw 6 (vI 0)] [(0, vM 900), (1, vI r), (4, .s (.v (.slice none 0 0))), (5, .s (.sl 14 0 (((nd x) + 0) + 1) (((nd x) + 0) + 1))), (6, vI 0)] [(14, (.pl (Vn (((nd x) + 0) + 1) 0), 81)), (900, (.abs (numA x), 0))] ⟨tp, trivial⟩ ?_
 clear hE; intro γ ac wc hE
 refine wp_block ?_
 refine loop_sx (σ := Nat) (fun i => nd x - i) (fun i => i ≤ nd x)
     (fun i => [(0, vM 900), (1, vI r), (4, .s (.v (.slice none 0 0))), (5, .s (.sl 14 0 (((nd x) + 0) + 1) (((nd x) + 0) + 1))), (6, vI i)])
     (fun i => [(14, (.pl (Vn (nd x + 0 + 1) (x % 2 ^ (32 * i) * 2 ^ r)), 81)), (900, (.abs (numA x), 0))])
     (0) (by omega) (hE.sub (by kernel_rfl) (by rw [Nat.mul_zero, Nat.pow_zero, Nat.mod_one, Nat.zero_mul]; kernel_rfl)) ?_
 clear hE; intro i γ ac wc hG hE
 have hq : dg32 x i * 2 ^ r % 18446744073709551616 / 2 ^ 32 < 4294967296 := by have := Nat.mod_lt (dg32 x i * 2 ^ r) (show 0 < 18446744073709551616 by decide); omega
 refine wp_seq ?_
 refine sq_t hE [Rw 15 (vI i) [(6, vI i)], Rw 16 (vM 900) [(0, vM 900)], Rw 17 (vI (nd x)) [(16, vM 900)] [(900, (.abs (numA x), 0))], Rw 18 (vB (decide (i < nd x))) [(15, vI i), (17, vI (nd x))]] [(0, vM 900), (1, vI r), (4, .s (.v (.slice none 0 0))), (5, .s (.sl 14 0 (((nd x) + 0) + 1) (((nd x) + 0) + 1))), (6, vI i), (18, vB (decide (i < nd x)))] [(14, (.pl (Vn (nd x + 0 + 1) (x % 2 ^ (32 * i) * 2 ^ r)), 81)), (900, (.abs (numA x), 0))] ⟨tp, tp, tnl sl25, tE fun _ => d_lss _ _, trivial⟩ ?_
 clear hE; intro γ ac wc hE
 refine cond_sx hE rfl (fun hb1 => ?_) (fun hb1 => ?_)
 ·
  have hb1p := of_decide_eq_true hb1
  refine wp_skip ?_
  refine then_normal ?_
  refine wp_seq ?_
  refine wp_block ?_
  refine sq_t hE [Rw 21 (vM 900) [(0, vM 900)], Rw 22 (vI i) [(6, vI i)], Rw 23 (.s (.nptr 900 i)) [(21, vM 900), (22, vI i)] [(900, (.abs (numA x), 0))], Rw 24 (.s (inN .u32 (dg32 x i))) [(23, .s (.nptr 900 i))] [(900, (.abs (numA x), 0))], Rw 25 (vW (dg32 x i)) [(24, .s (inN .u32 (dg32 x i)))], Rw 26 (vI r) [(1, vI r)], Rw 27 (vI r) [(26, vI r)], Rw 28 (vW ((dg32 x i) * 2 ^ r % 18446744073709551616)) [(25, vW (dg32 x i)), (27, vI r)], Rw 7 (vW ((dg32 x i) * 2 ^ r % 18446744073709551616)) [(28, vW ((dg32 x i) * 2 ^ r % 18446744073709551616))]] [(0, vM 900), (1, vI r), (4, .s (.v (.slice none 0 0))), (5, .s (.sl 14 0 (((nd x) + 0) + 1) (((nd x) + 0) + 1))), (6, vI i), (7, vW ((dg32 x i) * 2 ^ r % 18446744073709551616))] [(14, (.pl (Vn (nd x + 0 + 1) (x % 2 ^ (32 * i) * 2 ^ r)), 81)), (900, (.abs (numA x), 0))] ⟨tp, tp, txn sl25, tln on81, tE fun _ => wr_u64 rfl (Nat.lt_trans (dg32_lt _ _) (by decide)), tp, trip_bin .rem 3 3 (.tmp 26) (.const (.int .i64 ((32 : Nat) : Int))) (.int .i64 ((r : Nat) : Int)) (.int .i64 ((32 : Nat) : Int)) (.int .i64 ((r : Nat) : Int)) rfl rfl rfl (by kernel_rfl) rfl rfl (fun γ => by kernel_rfl) (fun γ => by kernel_rfl) (fun _ _ => rfl) (fun w => (b_rem_i64 _ _ (by decide)).trans (congrArg (fun n : Nat => Result.ok (Value.int .i64 (n : Int)) w) (Nat.mod_eq_of_lt hr))) (fun γ => rfl), t_shl_u64, tp, trivial⟩ ?_
  clear hE; intro γ ac wc hE
  refine sq_t hE [Rw 29 (.s (.sl 14 0 (((nd x) + 0) + 1) (((nd x) + 0) + 1))) [(5, .s (.sl 14 0 (((nd x) + 0) + 1) (((nd x) + 0) + 1)))], Rw 30 (vI i) [(6, vI i)], Rw 31 (vI r) [(1, vI r)], Rw 32 (vI 0) [(31, vI r)], Rw 33 (vI (i + 0)) [(30, vI i), (32, vI 0)], Rw 34 (.s (.sl 14 0 (((nd x) + 0) + 1) (((nd x) + 0) + 1))) [(5, .s (.sl 14 0 (((nd x) + 0) + 1) (((nd x) + 0) + 1)))], Rw 35 (vI i) [(6, vI i)], Rw 36 (vI r) [(1, vI r)], Rw 37 (vI 0) [(36, vI r)], Rw 38 (vI (i + 0)) [(35, vI i), (37, vI 0)], Rw 39 (vP 14 (i + 0)) [(34, .s (.sl 14 0 (((nd x) + 0) + 1) (((nd x) + 0) + 1))), (38, vI (i + 0))], Rw 40 (.s (inN .u32 (dg32 (x % 2 ^ (32 * i) * 2 ^ r) (i + 0)))) [(39, vP 14 (i + 0))] [(14, (.pl (Vn (nd x + 0 + 1) (x % 2 ^ (32 * i) * 2 ^ r)), 81))], Rw 41 (vW ((dg32 x i) * 2 ^ r % 18446744073709551616)) [(7, vW ((dg32 x i) * 2 ^ r % 18446744073709551616))], Rw 42 (vW (dg32 x i * 2 ^ r % 18446744073709551616 % 4294967296)) [(41, vW ((dg32 x i) * 2 ^ r % 18446744073709551616))], Rw 43 (.s (inN .u32 (dg32 x i * 2 ^ r % 18446744073709551616 % 4294967296))) [(42, vW (dg32 x i * 2 ^ r % 18446744073709551616 % 4294967296))], Rw 44 (.s (inN .u32 ((dg32 (x % 2 ^ (32 * i) * 2 ^ r) (i + 0)) ||| (dg32 x i * 2 ^ r % 18446744073709551616 % 4294967296)))) [(40, .s (inN .u32 (dg32 (x % 2 ^ (32 * i) * 2 ^ r) (i + 0)))), (43, .s (inN .u32 (dg32 x i * 2 ^ r % 18446744073709551616 % 4294967296)))], Rw 45 (vP 14 (i + 0)) [(29, .s (.sl 14 0 (((nd x) + 0) + 1) (((nd x) + 0) + 1))), (33, vI (i + 0))], Rz [(45, vP 14 (i + 0)), (44, .s (inN .u32 ((dg32 (x % 2 ^ (32 * i) * 2 ^ r) (i + 0)) ||| (dg32 x i * 2 ^ r % 18446744073709551616 % 4294967296))))] [(14, (.pl (Vn (nd x + 0 + 1) (x % 2 ^ (32 * i) * 2 ^ r)), 81))] [(14, (.pl (Vn (nd x + 0 + 1) (set32 (x % 2 ^ (32 * i) * 2 ^ r) (i + 0) ((dg32 (x % 2 ^ (32 * i) * 2 ^ r) (i + 0)) ||| (dg32 x i * 2 ^ r % 18446744073709551616 % 4294967296)))), 81))]] [(0, vM 900), (1, vI r), (4, .s (.v (.slice none 0 0))), (5, .s (.sl 14 0 (((nd x) + 0) + 1) (((nd x) + 0) + 1))), (6, vI i), (7, vW ((dg32 x i) * 2 ^ r % 18446744073709551616))] [(14, (.pl (Vn (nd x + 0 + 1) (set32 (x % 2 ^ (32 * i) * 2 ^ r) (i + 0) ((dg32 (x % 2 ^ (32 * i) * 2 ^ r) (i + 0)) ||| (dg32 x i * 2 ^ r % 18446744073709551616 % 4294967296)))), 81)), (900, (.abs (numA x), 0))] ⟨tp, tp, tp, trip_bin .quo 3 3 (.tmp 31) (.const (.int .i64 ((32 : Nat) : Int))) (.int .i64 ((r : Nat) : Int)) (.int .i64 ((32 : Nat) : Int)) (.int .i64 ((0 : Nat) : Int)) rfl rfl rfl (by kernel_rfl) rfl rfl (fun γ => by kernel_rfl) (fun γ => by kernel_rfl) (fun _ _ => rfl) (fun w => (b_quo_i64 _ _ (by omega) (by decide)).trans (congrArg (fun n : Nat => Result.ok (Value.int .i64 (n : Int)) w) (Nat.div_eq_of_lt hr))) (fun γ => rfl), tE fun _ => wi_add, tp, tp, tp, trip_bin .quo 3 3 (.tmp 36) (.const (.int .i64 ((32 : Nat) : Int))) (.int .i64 ((r : Nat) : Int)) (.int .i64 ((32 : Nat) : Int)) (.int .i64 ((0 : Nat) : Int)) rfl rfl rfl (by kernel_rfl) rfl rfl (fun γ => by kernel_rfl) (fun γ => by kernel_rfl) (fun _ _ => rfl) (fun w => (b_quo_i64 _ _ (by omega) (by decide)).trans (congrArg (fun n : Nat => Result.ok (Value.int .i64 (n : Int)) w) (Nat.div_eq_of_lt hr))) (fun γ => rfl), tE fun _ => wi_add, txs sl25, tlv on81, tp, trip_bin .and 22 22 (.tmp 41) (.const (.int .u64 ((4294967295 : Nat) : Int))) (.int .u64 (((dg32 x i) * 2 ^ r % 18446744073709551616 : Nat) : Int)) (.int .u64 ((4294967295 : Nat) : Int)) (.int .u64 ((dg32 x i * 2 ^ r % 18446744073709551616 % 4294967296 : Nat) : Int)) rfl rfl rfl (by kernel_rfl) rfl rfl (fun γ => by kernel_rfl) (fun γ => by kernel_rfl) (fun _ _ => rfl) (fun w => (b_and_u64 _ _ (Nat.mod_lt _ (by decide)) (by decide)).trans (congrArg (fun n : Nat => Result.ok (Value.int .u64 (n : Int)) w) (and32' _))) (fun γ => rfl), tE fun _ => wr_u32 rfl (Nat.mod_lt _ (by decide)), t_or_u32 (ha := (dg32_lt _ _)) (hb := (Nat.mod_lt _ (by decide))), txs sl25, tsv sz81 (hd32 := (Nat.or_lt_two_pow (n := 32) (dg32_lt _ _) (Nat.mod_lt _ (by decide)))), trivial⟩ ?_
  clear hE; intro γ ac wc hE
  refine rg_t hE [Rw 46 (.s (.sl 14 0 (((nd x) + 0) + 1) (((nd x) + 0) + 1))) [(5, .s (.sl 14 0 (((nd x) + 0) + 1) (((nd x) + 0) + 1)))], Rw 47 (vI i) [(6, vI i)], Rw 48 (vI r) [(1, vI r)], Rw 49 (vI 0) [(48, vI r)], Rw 50 (vI (i + 0)) [(47, vI i), (49, vI 0)], Rw 51 (vI ((i + 0) + 1)) [(50, vI (i + 0))], Rw 52 (vW ((dg32 x i) * 2 ^ r % 18446744073709551616)) [(7, vW ((dg32 x i) * 2 ^ r % 18446744073709551616))], Rw 53 (vW (((dg32 x i) * 2 ^ r % 18446744073709551616) / 2 ^ 32)) [(52, vW ((dg32 x i) * 2 ^ r % 18446744073709551616))], Rw 54 (.s (inN .u32 (((dg32 x i) * 2 ^ r % 18446744073709551616) / 2 ^ 32))) [(53, vW (((dg32 x i) * 2 ^ r % 18446744073709551616) / 2 ^ 32))], Rw 55 (vP 14 ((i + 0) + 1)) [(46, .s (.sl 14 0 (((nd x) + 0) + 1) (((nd x) + 0) + 1))), (51, vI ((i + 0) + 1))], Rz [(55, vP 14 ((i + 0) + 1)), (54, .s (inN .u32 (((dg32 x i) * 2 ^ r % 18446744073709551616) / 2 ^ 32)))] [(14, (.pl (Vn (nd x + 0 + 1) (set32 (x % 2 ^ (32 * i) * 2 ^ r) (i + 0) ((dg32 (x % 2 ^ (32 * i) * 2 ^ r) (i + 0)) ||| (dg32 x i * 2 ^ r % 18446744073709551616 % 4294967296)))), 81))] [(14, (.pl (Vn (nd x + 0 + 1) (set32 (set32 (x % 2 ^ (32 * i) * 2 ^ r) (i + 0) ((dg32 (x % 2 ^ (32 * i) * 2 ^ r) (i + 0)) ||| (dg32 x i * 2 ^ r % 18446744073709551616 % 4294967296))) ((i + 0) + 1) (((dg32 x i) * 2 ^ r % 18446744073709551616) / 2 ^ 32))), 81))]] [(0, vM 900), (1, vI r), (4, .s (.v (.slice none 0 0))), (5, .s (.sl 14 0 (((nd x) + 0) + 1) (((nd x) + 0) + 1))), (6, vI i), (7, vW ((dg32 x i) * 2 ^ r % 18446744073709551616))] [(14, (.pl (Vn (nd x + 0 + 1) (set32 (set32 (x % 2 ^ (32 * i) * 2 ^ r) (i + 0) ((dg32 (x % 2 ^ (32 * i) * 2 ^ r) (i + 0)) ||| (dg32 x i * 2 ^ r % 18446744073709551616 % 4294967296))) ((i + 0) + 1) (((dg32 x i) * 2 ^ r % 18446744073709551616) / 2 ^ 32))), 81)), (900, (.abs (numA x), 0))] ⟨tp, tp, tp, trip_bin .quo 3 3 (.tmp 48) (.const (.int .i64 ((32 : Nat) : Int))) (.int .i64 ((r : Nat) : Int)) (.int .i64 ((32 : Nat) : Int)) (.int .i64 ((0 : Nat) : Int)) rfl rfl rfl (by kernel_rfl) rfl rfl (fun γ => by kernel_rfl) (fun γ => by kernel_rfl) (fun _ _ => rfl) (fun w => (b_quo_i64 _ _ (by omega) (by decide)).trans (congrArg (fun n : Nat => Result.ok (Value.int .i64 (n : Int)) w) (Nat.div_eq_of_lt hr))) (fun γ => rfl), tE fun _ => wi_add, tE fun _ => wi_add, tp, t_shr_u64, tE fun _ => wr_u32 rfl hq, txs sl25, tsv sz81 (hd32 := hq), trivial⟩ ?_
  clear hE; intro γ ac wc hE
  refine blk_normal ?_
  refine then_normal ?_
  refine rg_t hE [Rw 19 (vI i) [(6, vI i)], Rw 20 (vI (i + 1)) [(19, vI i)], Rw 6 (vI (i + 1)) [(20, vI (i + 1))]] [(0, vM 900), (1, vI r), (4, .s (.v (.slice none 0 0))), (5, .s (.sl 14 0 (((nd x) + 0) + 1) (((nd x) + 0) + 1))), (6, vI (i + 1)), (7, vW ((dg32 x i) * 2 ^ r % 18446744073709551616))] [(14, (.pl (Vn (nd x + 0 + 1) (set32 (set32 (x % 2 ^ (32 * i) * 2 ^ r) (i + 0) ((dg32 (x % 2 ^ (32 * i) * 2 ^ r) (i + 0)) ||| (dg32 x i * 2 ^ r % 18446744073709551616 % 4294967296))) ((i + 0) + 1) (((dg32 x i) * 2 ^ r % 18446744073709551616) / 2 ^ 32))), 81)), (900, (.abs (numA x), 0))] ⟨tp, tE fun _ => wi_add, tp, trivial⟩ ?_
  clear hE; intro γ ac wc hE
  refine then_normal ⟨i + 1, by omega, by omega, _, hE.sub (by kernel_rfl) (by rw [← shl32_step hr]; kernel_rfl)⟩
 ·
  have hb1p := of_decide_eq_false hb1
  refine wp_exit ?_
  refine then_exit ?_
  refine then_exit ?_
  refine blk_hit ?_
  refine then_normal ?_
  refine sq_t hE [Rw 56 (.s (.sl 14 0 (((nd x) + 0) + 1) (((nd x) + 0) + 1))) [(5, .s (.sl 14 0 (((nd x) + 0) + 1) (((nd x) + 0) + 1)))], Rw 57 (vM 57) [(56, .s (.sl 14 0 (((nd x) + 0) + 1) (((nd x) + 0) + 1)))] [(14, (.pl (Vn (nd x + 0 + 1) (x % 2 ^ (32 * i) * 2 ^ r)), 81))] [(57, (.abs (numA (x * 2 ^ r)), 0))] [(14, (.gone, 0))], Rw 4 (vM 57) [(57, vM 57)]] [(0, vM 900), (1, vI r), (4, vM 57), (5, .s (.sl 14 0 (((nd x) + 0) + 1) (((nd x) + 0) + 1))), (6, vI i)] [(57, (.abs (numA (x * 2 ^ r)), 0)), (900, (.abs (numA x), 0))] ⟨tp, ttrim (hz := (by rw [show i = nd x by omega, Nat.mod_eq_of_lt (nd_lt x)])) (hlt := (shl_ltk (nd_lt x) hr)), tp, trivial⟩ ?_
  clear hE; intro γ ac wc hE
  refine wp_ret ?_
  exact (end1 hE rfl (.tmp 4 (vM 57) rfl) (nret hE [(57, x * 2 ^ r)])).1
theorem r1_Shr {k n x r : Nat} (hn : n ≤ 1000) (hx : x < 2 ^ (32 * n)) (hr : r < 100000) (w0 : World) (h1 : Raw w0 k n x) : Calls Try.prog 99 #[dec k, .int .i64 (r : Int)] w0 (NRet w0 [k] [x / 2 ^ r] fun f => dec (f 0)) := by
 refine enter_n [(900, k, n, x)] [(0, vM 900), (1, vI r)] Try.func99 rfl rfl ⟨h1, trivial⟩ ?_
 intro γ ac hE
 replace hE : Env _ _ _ w0 (lk [(0, vM 900), (1, vI r)]) (lk [(900, (.abs (rawA n x), 0))]) γ ac w0 := hE
 refine sq_t hE [Rw 4 (.s (.v (.slice none 0 0)))] [(0, vM 900), (1, vI r), (4, .s (.v (.slice none 0 0)))] [(900, (.abs (rawA n x), 0))] ⟨tp, trivial⟩ ?_
 clear hE; intro γ ac wc hE
 refine wp_seq ?_
 refine sq_t hE [Rw 8 (vI r) [(1, vI r)], Rw 9 (vI (r / 32)) [(8, vI r)], Rw 10 (vM 900) [(0, vM 900)], Rw 11 (vI n) [(10, vM 900)] [(900, (.abs (rawA n x), 0))], Rw 12 (vB (decide (n ≤ r / 32))) [(9, vI (r / 32)), (11, vI n)]] [(0, vM 900), (1, vI r), (4, .s (.v (.slice none 0 0))), (12, vB (decide (n ≤ r / 32)))] [(900, (.abs (rawA n x), 0))] ⟨tp, t_quo_i64, tp, tnl sl25, tE fun _ => d_geq _ _, trivial⟩ ?_
 clear hE; intro γ ac wc hE
 refine cond_sx hE rfl (fun hb1 => ?_) (fun hb1 => ?_)
 ·
  have hb1p := of_decide_eq_true hb1
  refine sq_t hE [Rw 4 (.s (.v (.slice none 0 0)))] [(0, vM 900), (1, vI r), (4, .s (.v (.slice none 0 0)))] [(900, (.abs (rawA n x), 0))] ⟨tp, trivial⟩ ?_
  clear hE; intro γ ac wc hE
  refine wp_ret ?_
  refine then_ret ?_
  exact (end1 hE rfl (.tmp 4 (.s (.v (.slice none 0 0))) rfl) (by rw [shr_nil hx (by assumption)]; exact nret_nil hE)).1
 ·
  have hb1p := of_decide_eq_false hb1
  refine wp_skip ?_
  refine then_normal ?_
  refine sq_t hE [Rw 13 (vM 900) [(0, vM 900)], Rw 14 (vI n) [(13, vM 900)] [(900, (.abs (rawA n x), 0))], Rw 15 (vI r) [(1, vI r)], Rw 16 (vI (r / 32)) [(15, vI r)], Rw 17 (vI (n - (r / 32))) [(14, vI n), (16, vI (r / 32))], Rw 18 (.s (.sl 18 0 (n - (r / 32)) (n - (r / 32)))) [(17, vI (n - (r / 32)))] [] [(18, (.pl (Vn (n - (r / 32)) 0), 81))], Rw 5 (.s (.sl 18 0 (n - (r / 32)) (n - (r / 32)))) [(18, .s (.sl 18 0 (n - (r / 32)) (n - (r / 32))))]] [(0, vM 900), (1, vI r), (4, .s (.v (.slice none 0 0))), (5, .s (.sl 18 0 (n - (r / 32)) (n - (r / 32))))] [(18, (.pl (Vn (n - (r / 32)) 0), 81)), (900, (.abs (rawA n x), 0))] ⟨tp, tnl sl25, tp, t_quo_i64, tE fun _ => wi_sub, tmk mk25, tp, trivial⟩ ?_
  clear hE; intro γ ac wc hE
  refine wp_seq ?_
  refine sq_t hE [Rw 6 (vI 0)] [(0, vM 900), (1, vI r), (4, .s (.v (.slice none 0 0))), (5, .s (.sl 18 0 (n - (r / 32)) (n - (r / 32)))), (6, vI 0)] [(18, (.pl (Vn (n - (r / 32)) 0), 81)), (900, (.abs (rawA n x), 0))] ⟨tp, trivial⟩ ?_
  clear hE; intro γ ac wc hE
  refine wp_block ?_
  refine loop_sx (σ := Nat) (fun i => n - r / 32 - i) (fun i => i ≤ n - r / 32)
      (fun i => [(0, vM 900), (1, vI r), (4, .s (.v (.slice none 0 0))), (5, .s (.sl 18 0 (n - (r / 32)) (n - (r / 32)))), (6, vI i)])
      (fun i => [(18, (.pl (Vn (n - r / 32) (mix32 (x / 2 ^ r) 0 i)), 81)), (900, (.abs (rawA n x), 0))])
      (0) (by omega) (hE.sub (by kernel_rfl) (by rw [← Vn_mix0]; kernel_rfl)) ?_
  clear hE; intro i γ ac wc hG hE
  refine wp_seq ?_
  refine sq_t hE [Rw 19 (vI i) [(6, vI i)], Rw 20 (.s (.sl 18 0 (n - (r / 32)) (n - (r / 32)))) [(5, .s (.sl 18 0 (n - (r / 32)) (n - (r / 32))))], Rw 21 (vI (n - (r / 32))) [(20, .s (.sl 18 0 (n - (r / 32)) (n - (r / 32))))], Rw 22 (vB (decide (i < n - (r / 32)))) [(19, vI i), (21, vI (n - (r / 32)))]] [(0, vM 900), (1, vI r), (4, .s (.v (.slice none 0 0))), (5, .s (.sl 18 0 (n - (r / 32)) (n - (r / 32)))), (6, vI i), (22, vB (decide (i < n - (r / 32))))] [(18, (.pl (Vn (n - r / 32) (mix32 (x / 2 ^ r) 0 i)), 81)), (900, (.abs (rawA n x), 0))] ⟨tp, tp, tp, tE fun _ => d_lss _ _, trivial⟩ ?_
  clear hE; intro γ ac wc hE
  refine cond_sx hE rfl (fun hb2 => ?_) (fun hb2 => ?_)
  ·
   have hb2p := of_decide_eq_true hb2
   refine wp_skip ?_
   refine then_normal ?_
   refine wp_seq ?_
   refine wp_block ?_
   refine sq_t hE [Rw 25 (vM 900) [(0, vM 900)], Rw 26 (vI i) [(6, vI i)], Rw 27 (vI r) [(1, vI r)], Rw 28 (vI (r / 32)) [(27, vI r)], Rw 29 (vI (i + (r / 32))) [(26, vI i), (28, vI (r / 32))], Rw 30 (vW (dg32 x (i + (r / 32)))) [(25, vM 900), (29, vI (i + (r / 32)))] [(900, (.abs (rawA n x), 0))], Rw 31 (vM 900) [(0, vM 900)], Rw 32 (vI i) [(6, vI i)], Rw 33 (vI r) [(1, vI r)], Rw 34 (vI (r / 32)) [(33, vI r)], Rw 35 (vI (i + (r / 32))) [(32, vI i), (34, vI (r / 32))], Rw 36 (vI ((i + (r / 32)) + 1)) [(35, vI (i + (r / 32)))], Rw 37 (vW (dg32 x ((i + (r / 32)) + 1))) [(31, vM 900), (36, vI ((i + (r / 32)) + 1))] [(900, (.abs (rawA n x), 0))], Rw 38 (vW ((dg32 x ((i + (r / 32)) + 1)) * 2 ^ 32 % 18446744073709551616)) [(37, vW (dg32 x ((i + (r / 32)) + 1)))], Rw 39 (vW ((dg32 x (i + (r / 32))) ||| ((dg32 x ((i + (r / 32)) + 1)) * 2 ^ 32 % 18446744073709551616))) [(30, vW (dg32 x (i + (r / 32)))), (38, vW ((dg32 x ((i + (r / 32)) + 1)) * 2 ^ 32 % 18446744073709551616))], Rw 7 (vW ((dg32 x (i + (r / 32))) ||| ((dg32 x ((i + (r / 32)) + 1)) * 2 ^ 32 % 18446744073709551616))) [(39, vW ((dg32 x (i + (r / 32))) ||| ((dg32 x ((i + (r / 32)) + 1)) * 2 ^ 32 % 18446744073709551616)))]] [(0, vM 900), (1, vI r), (4, .s (.v (.slice none 0 0))), (5, .s (.sl 18 0 (n - (r / 32)) (n - (r / 32)))), (6, vI i), (7, vW ((dg32 x (i + (r / 32))) ||| ((dg32 x ((i + (r / 32)) + 1)) * 2 ^ 32 % 18446744073709551616)))] [(18, (.pl (Vn (n - r / 32) (mix32 (x / 2 ^ r) 0 i)), 81)), (900, (.abs (rawA n x), 0))] ⟨tp, tp, tp, t_quo_i64, tE fun _ => wi_add, tt fun γ w hk hf hks => r1_digit (i := i + (r / 32)) hx w (hks _ (.head _)), tp, tp, tp, t_quo_i64, tE fun _ => wi_add, tE fun _ => wi_add, tt fun γ w hk hf hks => r1_digit (i := (i + (r / 32)) + 1) hx w (hks _ (.head _)), t_shl_u64, t_or_u64 (ha := (Nat.lt_trans (dg32_lt _ _) (by decide))) (hb := (Nat.mod_lt _ (by decide))), tp, trivial⟩ ?_
   clear hE; intro γ ac wc hE
   refine rg_t hE [Rw 40 (.s (.sl 18 0 (n - (r / 32)) (n - (r / 32)))) [(5, .s (.sl 18 0 (n - (r / 32)) (n - (r / 32))))], Rw 41 (vI i) [(6, vI i)], Rw 42 (vW ((dg32 x (i + (r / 32))) ||| ((dg32 x ((i + (r / 32)) + 1)) * 2 ^ 32 % 18446744073709551616))) [(7, vW ((dg32 x (i + (r / 32))) ||| ((dg32 x ((i + (r / 32)) + 1)) * 2 ^ 32 % 18446744073709551616)))], Rw 43 (vI r) [(1, vI r)], Rw 44 (vI (r % 32)) [(43, vI r)], Rw 45 (vW (((dg32 x (i + (r / 32))) ||| ((dg32 x ((i + (r / 32)) + 1)) * 2 ^ 32 % 18446744073709551616)) / 2 ^ (r % 32))) [(42, vW ((dg32 x (i + (r / 32))) ||| ((dg32 x ((i + (r / 32)) + 1)) * 2 ^ 32 % 18446744073709551616))), (44, vI (r % 32))], Rw 46 (vW (dg32 (x / 2 ^ r) i)) [(45, vW (((dg32 x (i + (r / 32))) ||| ((dg32 x ((i + (r / 32)) + 1)) * 2 ^ 32 % 18446744073709551616)) / 2 ^ (r % 32)))], Rw 47 (.s (inN .u32 (dg32 (x / 2 ^ r) i))) [(46, vW (dg32 (x / 2 ^ r) i))], Rw 48 (vP 18 i) [(40, .s (.sl 18 0 (n - (r / 32)) (n - (r / 32)))), (41, vI i)], Rz [(48, vP 18 i), (47, .s (inN .u32 (dg32 (x / 2 ^ r) i)))] [(18, (.pl (Vn (n - r / 32) (mix32 (x / 2 ^ r) 0 i)), 81))] [(18, (.pl (Vn (n - r / 32) (set32 (mix32 (x / 2 ^ r) 0 i) i (dg32 (x / 2 ^ r) i))), 81))]] [(0, vM 900), (1, vI r), (4, .s (.v (.slice none 0 0))), (5, .s (.sl 18 0 (n - (r / 32)) (n - (r / 32)))), (6, vI i)] [(18, (.pl (Vn (n - r / 32) (set32 (mix32 (x / 2 ^ r) 0 i) i (dg32 (x / 2 ^ r) i))), 81)), (900, (.abs (rawA n x), 0))] ⟨tp, tp, tp, tp, t_rem_i64, t_shr_u64, trip_bin .and 22 22 (.tmp 45) (.const (.int .u64 ((4294967295 : Nat) : Int))) (.int .u64 ((((dg32 x (i + (r / 32))) ||| ((dg32 x ((i + (r / 32)) + 1)) * 2 ^ 32 % 18446744073709551616)) / 2 ^ (r % 32) : Nat) : Int)) (.int .u64 ((4294967295 : Nat) : Int)) (.int .u64 ((dg32 (x / 2 ^ r) i : Nat) : Int)) rfl rfl rfl (by kernel_rfl) rfl rfl (fun γ => by kernel_rfl) (fun γ => by kernel_rfl) (fun _ _ => rfl) (fun w => (b_and_u64 _ _ (Nat.lt_of_le_of_lt (Nat.div_le_self _ _) (Nat.or_lt_two_pow (n := 64) (Nat.lt_trans (dg32_lt _ _) (by decide)) (Nat.mod_lt _ (by decide)))) (by decide)).trans (congrArg (fun n : Nat => Result.ok (Value.int .u64 (n : Int)) w) ((and32' _).trans ((shr32_word x (r / 32) (r % 32) i (Nat.mod_lt _ (by decide))).trans (by rw [show 32 * (r / 32) + r % 32 = r by omega]))))) (fun γ => rfl), tE fun _ => wr_u32 rfl (dg32_lt _ _), txs sl25, tsv sz81 (hd32 := (dg32_lt _ _)), trivial⟩ ?_
   clear hE; intro γ ac wc hE
   refine blk_normal ?_
   refine then_normal ?_
   refine rg_t hE [Rw 23 (vI i) [(6, vI i)], Rw 24 (vI (i + 1)) [(23, vI i)], Rw 6 (vI (i + 1)) [(24, vI (i + 1))]] [(0, vM 900), (1, vI r), (4, .s (.v (.slice none 0 0))), (5, .s (.sl 18 0 (n - (r / 32)) (n - (r / 32)))), (6, vI (i + 1))] [(18, (.pl (Vn (n - r / 32) (set32 (mix32 (x / 2 ^ r) 0 i) i (dg32 (x / 2 ^ r) i))), 81)), (900, (.abs (rawA n x), 0))] ⟨tp, tE fun _ => wi_add, tp, trivial⟩ ?_
   clear hE; intro γ ac wc hE
   refine then_normal ⟨i + 1, by omega, by omega, _, hE.sub (by kernel_rfl) (by rw [← Vn_mixs (d := dg32 (x / 2 ^ r) i) rfl]; kernel_rfl)⟩
  ·
   have hb2p := of_decide_eq_false hb2
   refine wp_exit ?_
   refine then_exit ?_
   refine then_exit ?_
   refine blk_hit ?_
   refine then_normal ?_
   refine sq_t hE [Rw 49 (.s (.sl 18 0 (n - (r / 32)) (n - (r / 32)))) [(5, .s (.sl 18 0 (n - (r / 32)) (n - (r / 32))))], Rw 50 (vM 50) [(49, .s (.sl 18 0 (n - (r / 32)) (n - (r / 32))))] [(18, (.pl (Vn (n - r / 32) (mix32 (x / 2 ^ r) 0 i)), 81))] [(50, (.abs (numA (x / 2 ^ r)), 0))] [(18, (.gone, 0))], Rw 4 (vM 50) [(50, vM 50)]] [(0, vM 900), (1, vI r), (4, vM 50), (5, .s (.sl 18 0 (n - (r / 32)) (n - (r / 32)))), (6, vI i)] [(50, (.abs (numA (x / 2 ^ r)), 0)), (900, (.abs (rawA n x), 0))] ⟨tp, ttrim (hz := (Vn_mixn (by omega))) (hlt := (shr_ltk hx (by assumption))), tp, trivial⟩ ?_
   clear hE; intro γ ac wc hE
   refine wp_ret ?_
   exact (end1 hE rfl (.tmp 4 (vM 50) rfl) (nret hE [(50, x / 2 ^ r)])).1
end Go.Proofs.Ytddfimfgcfgpbaa
