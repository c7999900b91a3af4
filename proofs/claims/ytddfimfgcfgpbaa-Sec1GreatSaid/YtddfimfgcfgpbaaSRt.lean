/-
  Numbers of the references: short division.
-/
import Derived.Test.YtddfimfgcfgpbaaSTf
import Derived.Test.YtddfimfgcfgpbaaSRs
import Derived.Test.YtddfimfgcfgpbaaSXd
namespace Go.Proofs.Ytddfimfgcfgpbaa
open Sx
open Go.RowKit (Below)
set_option exponentiation.threshold 2000
theorem dg0 {x : Nat} (h : x < 4294967296) : dg32 x 0 = x := by unfold dg32; rw [Nat.mul_zero, Nat.pow_zero, Nat.div_one, Nat.mod_eq_of_lt h]
theorem short_step {x y n : Nat} (h0 : 0 < n) (hy : 0 < y) : set32 (x / 2 ^ (32 * n) / y * 2 ^ (32 * n)) (n - 1) ((x / 2 ^ (32 * n) % y * 4294967296 + dg32 x (n - 1)) / y) = x / 2 ^ (32 * (n - 1)) / y * 2 ^ (32 * (n - 1)) ∧ (x / 2 ^ (32 * n) % y * 4294967296 + dg32 x (n - 1)) % y = x / 2 ^ (32 * (n - 1)) % y := by
  obtain ⟨m, rfl⟩ : ∃ m, n = m + 1 := ⟨n - 1, by omega⟩
  rw [Nat.add_sub_cancel]
  have h1 := hi32 x m
  have h2 := Nat.div_add_mod (x / 2 ^ (32 * (m + 1))) y
  have hs := set32_val (x / 2 ^ (32 * (m + 1)) / y * 2 ^ (32 * (m + 1))) m ((x / 2 ^ (32 * (m + 1)) % y * 4294967296 + dg32 x m) / y)
  have hz : dg32 (x / 2 ^ (32 * (m + 1)) / y * 2 ^ (32 * (m + 1))) m = 0 := by
    unfold dg32
    rw [pv_succ, Nat.mul_comm 4294967296, ← Nat.mul_assoc, Nat.mul_right_comm, Nat.mul_div_cancel _ (pv_pos m), Nat.mul_mod_left]
  rw [hz, Nat.zero_mul, Nat.add_zero] at hs
  have e : x / 2 ^ (32 * m) = (x / 2 ^ (32 * (m + 1)) % y * 4294967296 + dg32 x m) + y * (x / 2 ^ (32 * (m + 1)) / y * 4294967296) := by
    rw [h1]
    generalize x / 2 ^ (32 * (m + 1)) = q at *
    conv => lhs; rw [← h2]
    rw [Nat.add_mul, Nat.mul_assoc]
    omega
  constructor
  · rw [hs, e, Nat.add_mul_div_left _ _ hy, Nat.add_mul, pv_succ, ← Nat.mul_assoc, Nat.add_comm]
  · rw [e, Nat.add_mul_mod_self_left]
theorem short_lt {r y d : Nat} (hr : r < y) (hd : d < 4294967296) : (r * 4294967296 + d) / y < 4294967296 := by
  rw [Nat.div_lt_iff_lt_mul (by omega)]
  have : (r + 1) * 4294967296 ≤ y * 4294967296 := Nat.mul_le_mul_right _ hr
  rw [Nat.mul_comm 4294967296]
  omega
theorem quo_ltk {x y n : Nat} (h : x < 2 ^ (32 * n)) : x / y < 2 ^ (32 * n) := Nat.lt_of_le_of_lt (Nat.div_le_self _ _) h
theorem mod_lt1 {x y : Nat} (h0 : 0 < y) (hy : y < 4294967296) : x % y < 2 ^ (32 * 1) := Nat.lt_trans (Nat.mod_lt _ h0) hy
theorem div_shift {y : Nat} (h : 2 ≤ nd y) : bl y ≤ 32 * nd y ∧ 32 * nd y < bl y + 32 ∧ 0 < y := by
  have h1 := bl_le (nd_lt y)
  have h0 : 0 < y := Nat.pos_of_ne_zero fun e => by subst e; rw [nd_zero] at h; omega
  refine ⟨h1, Nat.lt_of_not_le fun hc => ?_, h0⟩
  have h2 := lt_bl y
  have h3 := nd_le (n := nd y - 1) (Nat.lt_of_lt_of_le h2 (Nat.pow_le_pow_right (by decide) (by omega)))
  omega
theorem nd_shift {y s : Nat} (h : 2 ≤ nd y) (hs : s = 32 * nd y - bl y) : nd (y * 2 ^ s) = nd y ∧ 2 ^ (32 * nd y) ≤ 2 * (y * 2 ^ s) := by
  obtain ⟨h1, h2, h0⟩ := div_shift h
  have h3 := lt_bl y
  have h4 := bl_ge h0
  have hb := bl_pos h0
  have e1 : y * 2 ^ s < 2 ^ (32 * nd y) := by
    have : y * 2 ^ s < 2 ^ bl y * 2 ^ s := Nat.mul_lt_mul_of_pos_right h3 (Nat.pow_pos (by decide))
    rw [← Nat.pow_add, show bl y + s = 32 * nd y by omega] at this; exact this
  have e2 : 2 ^ (32 * nd y) ≤ 2 * (y * 2 ^ s) := by
    have : 2 ^ (bl y - 1) * 2 ^ s ≤ y * 2 ^ s := Nat.mul_le_mul_right _ h4
    rw [← Nat.pow_add] at this
    have e : 2 ^ (32 * nd y) = 2 * 2 ^ (bl y - 1 + s) := by rw [← Nat.pow_succ']; congr 1; omega
    omega
  refine ⟨Nat.le_antisymm (nd_le e1) ?_, e2⟩
  refine Nat.le_of_not_lt fun hc => ?_
  have h5 := pw32 (nd_lt (y * 2 ^ s)) (show nd (y * 2 ^ s) ≤ nd y - 1 by omega)
  have h6 : 2 ^ (32 * nd y) = 4294967296 * 2 ^ (32 * (nd y - 1)) := by rw [← pv_succ, show nd y - 1 + 1 = nd y by omega]
  omega
theorem nd_mono {x y : Nat} (h : x ≤ y) : nd x ≤ nd y := nd_le (Nat.lt_of_le_of_lt h (nd_lt y))
theorem nd_pos' {x : Nat} (h : 0 < nd x) : 0 < x := Nat.pos_of_ne_zero fun e => by subst e; exact absurd h (Nat.lt_irrefl 0)
theorem div_init {x y s : Nat} (h : 2 ≤ nd y) (hs : s = 32 * nd y - bl y) (hxy : y ≤ x) : x * 2 ^ s < y * 2 ^ s * 2 ^ (32 * (nd x + 1 - nd (y * 2 ^ s))) ∧ nd (x * 2 ^ s) ≤ nd x + 1 ∧ 0 < nd (x * 2 ^ s) ∧ nd (y * 2 ^ s) ≤ nd x := by
  obtain ⟨h1, h2, h0⟩ := div_shift h
  obtain ⟨h3, h4⟩ := nd_shift h hs
  have h5 := nd_mono hxy
  have hs2 : s < 32 := by omega
  have hx := nd_lt x
  have e1 : x * 2 ^ s < 2 ^ (32 * nd x) * 2 ^ s := Nat.mul_lt_mul_of_pos_right hx (Nat.pow_pos (by decide))
  have e2 : 2 ^ (32 * nd x) * 2 ^ s ≤ 2 ^ (32 * nd x) * 2147483648 := Nat.mul_le_mul_left _ (Nat.pow_le_pow_right (n := 2) (by decide) (show s ≤ 31 by omega))
  refine ⟨?_, ?_, ?_, by rw [h3]; exact h5⟩
  · rw [h3]
    have e3 : 2 ^ (32 * nd y) * 2 ^ (32 * (nd x + 1 - nd y)) = 2 ^ (32 * nd x) * 4294967296 := by
      rw [← Nat.pow_add, show (4294967296 : Nat) = 2 ^ 32 from rfl, ← Nat.pow_add]; congr 1; omega
    have e4 : 2 ^ (32 * nd y) * 2 ^ (32 * (nd x + 1 - nd y)) ≤ 2 * (y * 2 ^ s) * 2 ^ (32 * (nd x + 1 - nd y)) := Nat.mul_le_mul_right _ h4
    rw [Nat.mul_assoc 2] at e4
    omega
  · refine nd_le (Nat.lt_of_lt_of_le e1 (Nat.le_trans e2 ?_))
    rw [Nat.mul_comm, pv_succ]
    exact Nat.mul_le_mul_right _ (by decide)
  · refine nd_pos (Nat.mul_pos (Nat.lt_of_lt_of_le h0 hxy) (Nat.pow_pos (by decide)))
theorem div_round {S V Q U n : Nat} (h0 : 0 < n) (hV : 0 < V) (hS : S = Q * V + U) (hQ : Q % 2 ^ (32 * n) = 0) (hU : U < V * 2 ^ (32 * n)) :
    S = set32 Q (n - 1) (U / 2 ^ (32 * (n - 1)) / V) * V + (U - U / 2 ^ (32 * (n - 1)) / V * V * 2 ^ (32 * (n - 1))) ∧ set32 Q (n - 1) (U / 2 ^ (32 * (n - 1)) / V) % 2 ^ (32 * (n - 1)) = 0 ∧ U - U / 2 ^ (32 * (n - 1)) / V * V * 2 ^ (32 * (n - 1)) < V * 2 ^ (32 * (n - 1)) ∧ U / 2 ^ (32 * (n - 1)) / V < 4294967296 := by
  obtain ⟨m, rfl⟩ : ∃ m, n = m + 1 := ⟨n - 1, by omega⟩
  rw [Nat.add_sub_cancel]
  have hp := pv_pos m
  have hQ2 := Nat.div_add_mod Q (2 ^ (32 * (m + 1)))
  rw [hQ, Nat.add_zero] at hQ2
  have hz : dg32 Q m = 0 := by
    rw [← hQ2, pv_succ]
    unfold dg32
    rw [Nat.mul_right_comm, Nat.mul_div_cancel _ hp, Nat.mul_mod_right]
  have hs := set32_val Q m (U / 2 ^ (32 * m) / V)
  rw [hz, Nat.zero_mul, Nat.add_zero] at hs
  have hq : U / 2 ^ (32 * m) / V * V * 2 ^ (32 * m) ≤ U := Nat.le_trans (Nat.mul_le_mul_right _ (Nat.div_mul_le_self _ _)) (Nat.div_mul_le_self _ _)
  refine ⟨?_, ?_, ?_, ?_⟩
  · rw [hs, hS, Nat.add_mul]
    have e : U / 2 ^ (32 * m) / V * 2 ^ (32 * m) * V = U / 2 ^ (32 * m) / V * V * 2 ^ (32 * m) := Nat.mul_right_comm _ _ _
    rw [e]
    omega
  · rw [hs, ← hQ2, pv_succ, Nat.mul_comm 4294967296, Nat.mul_assoc, Nat.mul_comm (U / 2 ^ (32 * m) / V), Nat.mul_add_mod, Nat.mul_mod_right]
  · have h1 : U < (U / 2 ^ (32 * m) / V * V + V) * 2 ^ (32 * m) := (Nat.div_lt_iff_lt_mul hp).1 (Nat.lt_div_mul_add hV)
    rw [Nat.add_mul] at h1
    omega
  · rw [Nat.div_lt_iff_lt_mul hV, Nat.div_lt_iff_lt_mul hp]
    rw [pv_succ, ← Nat.mul_assoc, Nat.mul_comm V] at hU
    exact hU
theorem div_last {x y s Q U : Nat} (hy : 0 < y) (hS : x * 2 ^ s = Q * (y * 2 ^ s) + U) (hU : U < y * 2 ^ s) : Q = x / y ∧ U / 2 ^ s = x % y := by
  have hp : 0 < 2 ^ s := Nat.pow_pos (by decide)
  have h1 : Q = x / y := by
    rw [← Nat.mul_div_mul_right x y hp, hS, Nat.mul_comm Q, Nat.mul_add_div (Nat.mul_pos hy hp), Nat.div_eq_of_lt hU, Nat.add_zero]
  refine ⟨h1, ?_⟩
  have h2 : U = x % y * 2 ^ s := by
    rw [← Nat.mul_mod_mul_right, hS, Nat.mul_comm Q, Nat.mul_add_mod, Nat.mod_eq_of_lt hU]
  rw [h2, Nat.mul_div_cancel _ hp]
theorem quo_ltn {x y s Q U n : Nat} (hV : 0 < y * 2 ^ s) (hS : x * 2 ^ s = Q * (y * 2 ^ s) + U) (hI : x * 2 ^ s < y * 2 ^ s * 2 ^ (32 * n)) : Q < 2 ^ (32 * n) := by
  refine Nat.lt_of_not_le fun hc => ?_
  have h1 : 2 ^ (32 * n) * (y * 2 ^ s) ≤ Q * (y * 2 ^ s) := Nat.mul_le_mul_right _ hc
  rw [Nat.mul_comm] at h1
  omega
theorem r1_short {k x y : Nat} (hx : nd x ≤ 1000) (hy0 : 0 < y) (hy : y < 4294967296) (w0 : World) (h1 : Num w0 k x) : Calls Try.prog 119 #[dec k, .int .u64 (y : Int)] w0 (NRet w0 [k] [x / y, x % y] fun f => .tuple #[dec (f 0), dec (f 1)]) := by
 refine enter_n [(900, k, (nd x), x)] [(0, vM 900), (1, vW y)] Try.func119 rfl rfl ⟨h1, trivial⟩ ?_
 intro γ ac hE
 replace hE : Env _ _ _ w0 (lk [(0, vM 900), (1, vW y)]) (lk [(900, (.abs (numA x), 0))]) γ ac w0 := hE
 refine sq_t hE [Rw 4 (.s (.v (.slice none 0 0))), Rw 5 (.s (.v (.slice none 0 0)))] [(0, vM 900), (1, vW y), (4, .s (.v (.slice none 0 0))), (5, .s (.v (.slice none 0 0)))] [(900, (.abs (numA x), 0))] ⟨tp, tp, trivial⟩ ?_
 clear hE; intro γ ac wc hE
 refine sq_t hE [Rw 10 (vM 900) [(0, vM 900)], Rw 11 (vI (nd x)) [(10, vM 900)] [(900, (.abs (numA x), 0))], Rw 12 (.s (.sl 12 0 (nd x) (nd x))) [(11, vI (nd x))] [] [(12, (.pl (Vn (nd x) 0), 81))], Rw 6 (.s (.sl 12 0 (nd x) (nd x))) [(12, .s (.sl 12 0 (nd x) (nd x)))]] [(0, vM 900), (1, vW y), (4, .s (.v (.slice none 0 0))), (5, .s (.v (.slice none 0 0))), (6, .s (.sl 12 0 (nd x) (nd x)))] [(12, (.pl (Vn (nd x) 0), 81)), (900, (.abs (numA x), 0))] ⟨tp, tnl sl25, tmk mk25, tp, trivial⟩ ?_
 clear hE; intro γ ac wc hE
 refine sq_t hE [Rw 7 (vW 0)] [(0, vM 900), (1, vW y), (4, .s (.v (.slice none 0 0))), (5, .s (.v (.slice none 0 0))), (6, .s (.sl 12 0 (nd x) (nd x))), (7, vW 0)] [(12, (.pl (Vn (nd x) 0), 81)), (900, (.abs (numA x), 0))] ⟨tp, trivial⟩ ?_
 clear hE; intro γ ac wc hE
 refine wp_seq ?_
 refine sq_t hE [Rw 13 (vM 900) [(0, vM 900)], Rw 14 (vI (nd x)) [(13, vM 900)] [(900, (.abs (numA x), 0))], Rw 15 (.s (inI .i64 (((nd x : Nat) : Int) - ((1 : Nat) : Int)))) [(14, vI (nd x))], Rw 8 (.s (inI .i64 (((nd x : Nat) : Int) - ((1 : Nat) : Int)))) [(15, .s (inI .i64 (((nd x : Nat) : Int) - ((1 : Nat) : Int))))]] [(0, vM 900), (1, vW y), (4, .s (.v (.slice none 0 0))), (5, .s (.v (.slice none 0 0))), (6, .s (.sl 12 0 (nd x) (nd x))), (7, vW 0), (8, .s (inI .i64 (((nd x : Nat) : Int) - ((1 : Nat) : Int))))] [(12, (.pl (Vn (nd x) 0), 81)), (900, (.abs (numA x), 0))] ⟨tp, tnl sl25, tE (x := .int .i64 (IntKind.i64.wrap (((nd x : Nat) : Int) - ((1 : Nat) : Int)))) fun _ => wri_i64 (by omega) (by omega), tp, trivial⟩ ?_
 clear hE; intro γ ac wc hE
 refine cut_sx hE (σ := Unit) (fun _u => True)
   (fun _u => [(0, vM 900), (1, vW y), (4, .s (.v (.slice none 0 0))), (5, .s (.v (.slice none 0 0))), (6, .s (.sl 12 0 (nd x) (nd x))), (7, vW (x % y))])
   (fun _u => [(12, (.pl (Vn (nd x) (x / y)), 81)), (900, (.abs (numA x), 0))]) ?_ ?_
 ·
  refine wp_block ?_
  refine loop_sx (σ := Nat) (fun n => n) (fun n => n ≤ nd x)
      (fun n => [(0, vM 900), (1, vW y), (4, .s (.v (.slice none 0 0))), (5, .s (.v (.slice none 0 0))), (6, .s (.sl 12 0 (nd x) (nd x))), (7, vW (x / 2 ^ (32 * n) % y)), (8, .s (inI .i64 (((n : Nat) : Int) - 1)))])
      (fun n => [(12, (.pl (Vn (nd x) (x / 2 ^ (32 * n) / y * 2 ^ (32 * n))), 81)), (900, (.abs (numA x), 0))])
      (nd x) (by omega) (hE.sub (by rw [Nat.div_eq_of_lt (nd_lt x), Nat.zero_mod]; kernel_rfl) (by rw [Nat.div_eq_of_lt (nd_lt x), Nat.zero_div, Nat.zero_mul]; kernel_rfl)) ?_
  clear hE; intro n γ ac wc hG hE
  refine wp_seq ?_
  refine sq_t hE [Rw 16 (.s (inI .i64 (((n : Nat) : Int) - 1))) [(8, .s (inI .i64 (((n : Nat) : Int) - 1)))], Rw 17 (vB (decide (0 < n))) [(16, .s (inI .i64 (((n : Nat) : Int) - 1)))]] [(0, vM 900), (1, vW y), (4, .s (.v (.slice none 0 0))), (5, .s (.v (.slice none 0 0))), (6, .s (.sl 12 0 (nd x) (nd x))), (7, vW (x / 2 ^ (32 * n) % y)), (8, .s (inI .i64 (((n : Nat) : Int) - 1))), (17, vB (decide (0 < n)))] [(12, (.pl (Vn (nd x) (x / 2 ^ (32 * n) / y * 2 ^ (32 * n))), 81)), (900, (.abs (numA x), 0))] ⟨tp, tE (x := .bool (decide ((((n : Nat) : Int) - 1) ≥ ((0 : Nat) : Int)))) fun _ => (congrArg Value.bool (decide_eq_decide.2 (by omega))), trivial⟩ ?_
  clear hE; intro γ ac wc hE
  refine cond_sx hE rfl (fun hb1 => ?_) (fun hb1 => ?_)
  ·
   have hb1p := of_decide_eq_true hb1
   have hi : ((n : Nat) : Int) - 1 = ((n - 1 : Nat) : Int) := by omega
   rw [hi] at hE
   refine wp_skip ?_
   refine then_normal ?_
   refine wp_seq ?_
   refine wp_block ?_
   have hr := Nat.mod_lt (x / 2 ^ (32 * n)) hy0
   have hd := dg32_lt x (n - 1)
   refine sq_t hE [Rw 20 (vW (x / 2 ^ (32 * n) % y)) [(7, vW (x / 2 ^ (32 * n) % y))], Rw 21 (vW (x / 2 ^ (32 * n) % y * 4294967296)) [(20, vW (x / 2 ^ (32 * n) % y))], Rw 22 (vM 900) [(0, vM 900)], Rw 23 (vI (n - 1)) [(8, vI (n - 1))], Rw 24 (.s (.nptr 900 (n - 1))) [(22, vM 900), (23, vI (n - 1))] [(900, (.abs (numA x), 0))], Rw 25 (.s (inN .u32 (dg32 x (n - 1)))) [(24, .s (.nptr 900 (n - 1)))] [(900, (.abs (numA x), 0))], Rw 26 (vW (dg32 x (n - 1))) [(25, .s (inN .u32 (dg32 x (n - 1))))], Rw 27 (vW (x / 2 ^ (32 * n) % y * 4294967296 + dg32 x (n - 1))) [(21, vW (x / 2 ^ (32 * n) % y * 4294967296)), (26, vW (dg32 x (n - 1)))], Rw 9 (vW (x / 2 ^ (32 * n) % y * 4294967296 + dg32 x (n - 1))) [(27, vW (x / 2 ^ (32 * n) % y * 4294967296 + dg32 x (n - 1)))]] [(0, vM 900), (1, vW y), (4, .s (.v (.slice none 0 0))), (5, .s (.v (.slice none 0 0))), (6, .s (.sl 12 0 (nd x) (nd x))), (7, vW (x / 2 ^ (32 * n) % y)), (8, vI (n - 1)), (9, vW (x / 2 ^ (32 * n) % y * 4294967296 + dg32 x (n - 1)))] [(12, (.pl (Vn (nd x) (x / 2 ^ (32 * n) / y * 2 ^ (32 * n))), 81)), (900, (.abs (numA x), 0))] ⟨tp, trip_bin .shl 22 30 (.tmp 20) (.const (.int .u64 ((32 : Nat) : Int))) (.int .u64 ((x / 2 ^ (32 * n) % y : Nat) : Int)) (.int .u64 ((32 : Nat) : Int)) (.int .u64 ((x / 2 ^ (32 * n) % y * 4294967296 : Nat) : Int)) rfl rfl rfl (by kernel_rfl) rfl rfl (fun γ => by kernel_rfl) (fun γ => by kernel_rfl) (fun _ _ => rfl) (fun w => (b_shl_u64 _ _ _ (by decide)).trans (congrArg (fun n : Nat => Result.ok (Value.int .u64 (n : Int)) w) (Nat.mod_eq_of_lt (by omega)))) (fun γ => rfl), tp, tp, txn sl25, tln on81, tE fun _ => wr_u64 rfl (Nat.lt_trans (dg32_lt _ _) (by decide)), trip_bin .or 22 22 (.tmp 21) (.tmp 26) (.int .u64 ((x / 2 ^ (32 * n) % y * 4294967296 : Nat) : Int)) (.int .u64 ((dg32 x (n - 1) : Nat) : Int)) (.int .u64 ((x / 2 ^ (32 * n) % y * 4294967296 + dg32 x (n - 1) : Nat) : Int)) rfl rfl rfl (by kernel_rfl) rfl rfl (fun γ => by kernel_rfl) (fun γ => by kernel_rfl) (fun _ _ => rfl) (fun w => (b_or_u64 _ _ (by omega) (by omega)).trans (congrArg (fun n : Nat => Result.ok (Value.int .u64 (n : Int)) w) (or32 hd))) (fun γ => rfl), tp, trivial⟩ ?_
   clear hE; intro γ ac wc hE
   refine sq_t hE [Rw 28 (.s (.sl 12 0 (nd x) (nd x))) [(6, .s (.sl 12 0 (nd x) (nd x)))], Rw 29 (vI (n - 1)) [(8, vI (n - 1))], Rw 30 (vW (x / 2 ^ (32 * n) % y * 4294967296 + dg32 x (n - 1))) [(9, vW (x / 2 ^ (32 * n) % y * 4294967296 + dg32 x (n - 1)))], Rw 31 (vW y) [(1, vW y)], Rw 32 (vW ((x / 2 ^ (32 * n) % y * 4294967296 + dg32 x (n - 1)) / y)) [(30, vW (x / 2 ^ (32 * n) % y * 4294967296 + dg32 x (n - 1))), (31, vW y)], Rw 33 (.s (inN .u32 ((x / 2 ^ (32 * n) % y * 4294967296 + dg32 x (n - 1)) / y))) [(32, vW ((x / 2 ^ (32 * n) % y * 4294967296 + dg32 x (n - 1)) / y))], Rw 34 (vP 12 (n - 1)) [(28, .s (.sl 12 0 (nd x) (nd x))), (29, vI (n - 1))], Rz [(34, vP 12 (n - 1)), (33, .s (inN .u32 ((x / 2 ^ (32 * n) % y * 4294967296 + dg32 x (n - 1)) / y)))] [(12, (.pl (Vn (nd x) (x / 2 ^ (32 * n) / y * 2 ^ (32 * n))), 81))] [(12, (.pl (Vn (nd x) (set32 (x / 2 ^ (32 * n) / y * 2 ^ (32 * n)) (n - 1) ((x / 2 ^ (32 * n) % y * 4294967296 + dg32 x (n - 1)) / y))), 81))]] [(0, vM 900), (1, vW y), (4, .s (.v (.slice none 0 0))), (5, .s (.v (.slice none 0 0))), (6, .s (.sl 12 0 (nd x) (nd x))), (7, vW (x / 2 ^ (32 * n) % y)), (8, vI (n - 1)), (9, vW (x / 2 ^ (32 * n) % y * 4294967296 + dg32 x (n - 1)))] [(12, (.pl (Vn (nd x) (set32 (x / 2 ^ (32 * n) / y * 2 ^ (32 * n)) (n - 1) ((x / 2 ^ (32 * n) % y * 4294967296 + dg32 x (n - 1)) / y))), 81)), (900, (.abs (numA x), 0))] ⟨tp, tp, tp, tp, t_quo_u64, tE fun _ => wr_u32 rfl (short_lt hr hd), txs sl25, tsv sz81 (hd32 := (short_lt hr hd)), trivial⟩ ?_
   clear hE; intro γ ac wc hE
   refine rg_t hE [Rw 35 (vW (x / 2 ^ (32 * n) % y * 4294967296 + dg32 x (n - 1))) [(9, vW (x / 2 ^ (32 * n) % y * 4294967296 + dg32 x (n - 1)))], Rw 36 (vW y) [(1, vW y)], Rw 37 (vW ((x / 2 ^ (32 * n) % y * 4294967296 + dg32 x (n - 1)) % y)) [(35, vW (x / 2 ^ (32 * n) % y * 4294967296 + dg32 x (n - 1))), (36, vW y)], Rw 7 (vW ((x / 2 ^ (32 * n) % y * 4294967296 + dg32 x (n - 1)) % y)) [(37, vW ((x / 2 ^ (32 * n) % y * 4294967296 + dg32 x (n - 1)) % y))]] [(0, vM 900), (1, vW y), (4, .s (.v (.slice none 0 0))), (5, .s (.v (.slice none 0 0))), (6, .s (.sl 12 0 (nd x) (nd x))), (7, vW ((x / 2 ^ (32 * n) % y * 4294967296 + dg32 x (n - 1)) % y)), (8, vI (n - 1)), (9, vW (x / 2 ^ (32 * n) % y * 4294967296 + dg32 x (n - 1)))] [(12, (.pl (Vn (nd x) (set32 (x / 2 ^ (32 * n) / y * 2 ^ (32 * n)) (n - 1) ((x / 2 ^ (32 * n) % y * 4294967296 + dg32 x (n - 1)) / y))), 81)), (900, (.abs (numA x), 0))] ⟨tp, tp, t_rem_u64, tp, trivial⟩ ?_
   clear hE; intro γ ac wc hE
   refine blk_normal ?_
   refine then_normal ?_
   refine rg_t hE [Rw 18 (vI (n - 1)) [(8, vI (n - 1))], Rw 19 (.s (inI .i64 (((n - 1 : Nat) : Int) - ((1 : Nat) : Int)))) [(18, vI (n - 1))], Rw 8 (.s (inI .i64 (((n - 1 : Nat) : Int) - ((1 : Nat) : Int)))) [(19, .s (inI .i64 (((n - 1 : Nat) : Int) - ((1 : Nat) : Int))))]] [(0, vM 900), (1, vW y), (4, .s (.v (.slice none 0 0))), (5, .s (.v (.slice none 0 0))), (6, .s (.sl 12 0 (nd x) (nd x))), (7, vW ((x / 2 ^ (32 * n) % y * 4294967296 + dg32 x (n - 1)) % y)), (8, .s (inI .i64 (((n - 1 : Nat) : Int) - ((1 : Nat) : Int)))), (9, vW (x / 2 ^ (32 * n) % y * 4294967296 + dg32 x (n - 1)))] [(12, (.pl (Vn (nd x) (set32 (x / 2 ^ (32 * n) / y * 2 ^ (32 * n)) (n - 1) ((x / 2 ^ (32 * n) % y * 4294967296 + dg32 x (n - 1)) / y))), 81)), (900, (.abs (numA x), 0))] ⟨tp, tE (x := .int .i64 (IntKind.i64.wrap (((n - 1 : Nat) : Int) - ((1 : Nat) : Int)))) fun _ => wri_i64 (by omega) (by omega), tp, trivial⟩ ?_
   clear hE; intro γ ac wc hE
   refine then_normal ⟨n - 1, by omega, by omega, _, hE.sub (by rw [← (short_step (by assumption) hy0).2]; kernel_rfl) (by rw [← (short_step (by assumption) hy0).1]; kernel_rfl)⟩
  ·
   have hb1p := of_decide_eq_false hb1
   refine wp_exit ?_
   refine then_exit ?_
   refine then_exit ?_
   refine blk_hit ?_
   have hn0 : n = 0 := by omega
   subst hn0
   refine then_normal ⟨(), trivial, _, hE.sub (by rw [show x % y = x / 2 ^ (32 * 0) % y by rw [Nat.mul_zero, Nat.pow_zero, Nat.div_one]]; kernel_rfl) (by rw [show x / y = x / 2 ^ (32 * 0) / y * 2 ^ (32 * 0) by rw [Nat.mul_zero, Nat.pow_zero, Nat.div_one, Nat.mul_one]]; kernel_rfl)⟩
 clear hE
 intro _u γ ac wc hJ hE
 refine then_normal ?_
 refine sq_t hE [Rw 38 (.s (.sl 12 0 (nd x) (nd x))) [(6, .s (.sl 12 0 (nd x) (nd x)))], Rw 39 (vM 39) [(38, .s (.sl 12 0 (nd x) (nd x)))] [(12, (.pl (Vn (nd x) (x / y)), 81))] [(39, (.abs (numA (x / y)), 0))] [(12, (.gone, 0))], Rw 40 (vW (x % y)) [(7, vW (x % y))], Rw 41 (.s (inN .u32 (dg32 (x % y) 0))) [(40, vW (x % y))], Rw 42 (.s (.sl 42 0 1 1)) [(41, .s (inN .u32 (dg32 (x % y) 0)))] [] [(42, (.pl (Vn 1 (x % y)), 81))], Rw 43 (vM 43) [(42, .s (.sl 42 0 1 1))] [(42, (.pl (Vn 1 (x % y)), 81))] [(43, (.abs (numA (x % y)), 0))] [(42, (.gone, 0))], Rw 4 (vM 39) [(39, vM 39)], Rw 5 (vM 43) [(43, vM 43)]] [(0, vM 900), (1, vW y), (4, vM 39), (5, vM 43), (6, .s (.sl 12 0 (nd x) (nd x))), (7, vW (x % y))] [(39, (.abs (numA (x / y)), 0)), (43, (.abs (numA (x % y)), 0)), (900, (.abs (numA x), 0))] ⟨tp, ttrim (hlt := (quo_ltk (nd_lt x))), tp, tE (x := .int .u32 (IntKind.u32.wrap ((x % y : Nat) : Int))) fun _ => wr_u32 (by rw [dg0 (Nat.lt_trans (Nat.mod_lt _ hy0) hy)]) (dg32_lt _ _), tbv, ttrim (hlt := (mod_lt1 hy0 hy)), tp, tp, trivial⟩ ?_
 clear hE; intro γ ac wc hE
 refine wp_ret ?_
 exact (end2 hE rfl (.tmp 4 (vM 39) rfl) (.tmp 5 (vM 43) rfl) (nret hE [(39, x / y), (43, x % y)])).1
end Go.Proofs.Ytddfimfgcfgpbaa
