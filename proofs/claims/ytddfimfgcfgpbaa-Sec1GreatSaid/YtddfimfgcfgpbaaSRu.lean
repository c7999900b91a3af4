/-
  Numbers of the references: division, arithmetic modulo a number.
-/
import Derived.Test.YtddfimfgcfgpbaaSTf
import Derived.Test.YtddfimfgcfgpbaaSRt
namespace Go.Proofs.Ytddfimfgcfgpbaa
open Sx
open Go.RowKit (Below)
set_option exponentiation.threshold 2000
theorem c3_lss (x y : Nat) : decide (cmp3 x y < ((0 : Nat) : Int)) = decide (x < y) := by
  unfold cmp3
  rw [decide_eq_decide]
  by_cases h : x < y
  · rw [if_pos h]; omega
  · rw [if_neg h]
    by_cases h2 : y < x
    · rw [if_pos h2]; omega
    · rw [if_neg h2]; omega
theorem c3_geq (x y : Nat) : decide (cmp3 x y ≥ ((0 : Nat) : Int)) = decide (y ≤ x) := by
  unfold cmp3
  rw [decide_eq_decide]
  by_cases h : x < y
  · rw [if_pos h]; omega
  · rw [if_neg h]
    by_cases h2 : y < x
    · rw [if_pos h2]; omega
    · rw [if_neg h2]; omega
theorem c3_eq (x y : Nat) : (cmp3 x y == ((0 : Nat) : Int)) = decide (x = y) := by
  unfold cmp3
  by_cases h : x < y
  · rw [if_pos h, decide_eq_false (by omega)]; rfl
  · rw [if_neg h]
    by_cases h2 : y < x
    · rw [if_pos h2, decide_eq_false (by omega)]; rfl
    · rw [if_neg h2, decide_eq_true (by omega)]; rfl
theorem c3_ne (x y : Nat) : (cmp3 x y != ((0 : Nat) : Int)) = !decide (x = y) := by
  rw [← c3_eq]; rfl
theorem c3_leq (x y : Nat) : decide (cmp3 x y ≤ ((0 : Nat) : Int)) = decide (x ≤ y) := by
  unfold cmp3
  rw [decide_eq_decide]
  by_cases h : x < y
  · rw [if_pos h]; omega
  · rw [if_neg h]
    by_cases h2 : y < x
    · rw [if_pos h2]; omega
    · rw [if_neg h2]; omega
theorem nd_mul (x y : Nat) : nd (x * y) ≤ nd x + nd y := nd_le (by
  rw [Nat.mul_add, Nat.pow_add]
  exact Nat.mul_lt_mul_of_lt_of_le (nd_lt x) (Nat.le_of_lt (nd_lt y)) (Nat.pow_pos (by decide)))
theorem nd_add (x y : Nat) : nd (x + y) ≤ max (nd x) (nd y) + 1 := nd_le (add_ltk (Nat.le_max_left _ _) (Nat.le_max_right _ _))
theorem nd_mod {x y : Nat} (h : 0 < y) : nd (x % y) ≤ nd y := nd_mono (Nat.le_of_lt (Nat.mod_lt _ h))
theorem r1_Div {k m x y : Nat} (hx : nd x ≤ 400) (hy : nd y ≤ 400) (hy0 : 0 < y) (w0 : World) (h1 : Num w0 k x) (h2 : Num w0 m y) : Calls Try.prog 87 #[dec k, dec m] w0 (NRet w0 [k, m] [x / y, x % y] fun f => .tuple #[dec (f 0), dec (f 1)]) := by
 refine enter_n [(900, k, (nd x), x), (901, m, (nd y), y)] [(0, vM 900), (1, vM 901)] Try.func87 rfl rfl ⟨h1, h2, trivial⟩ ?_
 intro γ ac hE
 replace hE : Env _ _ _ w0 (lk [(0, vM 900), (1, vM 901)]) (lk [(900, (.abs (numA x), 0)), (901, (.abs (numA y), 0))]) γ ac w0 := hE
 refine sq_t hE [Rw 4 (.s (.v (.slice none 0 0))), Rw 5 (.s (.v (.slice none 0 0)))] [(0, vM 900), (1, vM 901), (4, .s (.v (.slice none 0 0))), (5, .s (.v (.slice none 0 0)))] [(900, (.abs (numA x), 0)), (901, (.abs (numA y), 0))] ⟨tp, tp, trivial⟩ ?_
 clear hE; intro γ ac wc hE
 refine wp_seq ?_
 refine sq_t hE [Rw 12 (vM 900) [(0, vM 900)], Rw 13 (vM 901) [(1, vM 901)], Rn 14 (.s (inI .i64 (cmp3 x y))) [(12, vM 900), (13, vM 901)] [(900, x), (901, y)] [], Rw 15 (vB (decide (x < y))) [(14, .s (inI .i64 (cmp3 x y)))]] [(0, vM 900), (1, vM 901), (4, .s (.v (.slice none 0 0))), (5, .s (.v (.slice none 0 0))), (15, vB (decide (x < y)))] [(900, (.abs (numA x), 0)), (901, (.abs (numA y), 0))] ⟨tp, tp, tnv fun γ w h => r1_Cmp (x := x) (y := y) (by omega) (by omega) w h.1 h.2.1, tE (x := .bool (decide ((cmp3 x y) < ((0 : Nat) : Int)))) fun _ => (congrArg Value.bool (c3_lss x y)), trivial⟩ ?_
 clear hE; intro γ ac wc hE
 refine cond_sx hE rfl (fun hb1 => ?_) (fun hb1 => ?_)
 ·
  have hb1p := of_decide_eq_true hb1
  refine sq_t hE [Rw 16 (vM 900) [(0, vM 900)], Rw 4 (vM 20004) [] [] [(20004, (.abs (numA 0), 0))], Rw 5 (vM 900) [(16, vM 900)]] [(0, vM 900), (1, vM 901), (4, vM 20004), (5, vM 900)] [(900, (.abs (numA x), 0)), (901, (.abs (numA y), 0)), (20004, (.abs (numA 0), 0))] ⟨tp, tnil, tp, trivial⟩ ?_
  clear hE; intro γ ac wc hE
  refine wp_ret ?_
  refine then_ret ?_
  exact (end2 hE rfl (.tmp 4 (vM 20004) rfl) (.tmp 5 (vM 900) rfl) (by rw [Nat.div_eq_of_lt (by assumption), Nat.mod_eq_of_lt (by assumption)]; exact nret hE [(20004, 0), (900, x)])).1
 ·
  have hb1p := of_decide_eq_false hb1
  refine wp_skip ?_
  refine then_normal ?_
  refine wp_seq ?_
  refine sq_t hE [Rw 17 (vM 901) [(1, vM 901)], Rw 18 (vI (nd y)) [(17, vM 901)] [(901, (.abs (numA y), 0))], Rw 19 (vB (decide (nd y = 1))) [(18, vI (nd y))]] [(0, vM 900), (1, vM 901), (4, .s (.v (.slice none 0 0))), (5, .s (.v (.slice none 0 0))), (19, vB (decide (nd y = 1)))] [(900, (.abs (numA x), 0)), (901, (.abs (numA y), 0))] ⟨tp, tnl sl25, tE fun _ => d_eql _ _, trivial⟩ ?_
  clear hE; intro γ ac wc hE
  refine cond_sx hE rfl (fun hb2 => ?_) (fun hb2 => ?_)
  ·
   have hb2p := of_decide_eq_true hb2
   have hy1 : y < 4294967296 := by have h := nd_lt y; rw [show nd y = 1 from by assumption] at h; exact h
   refine sq_t hE [Rw 20 (vM 900) [(0, vM 900)], Rw 21 (vM 901) [(1, vM 901)], Rw 22 (.s (.nptr 901 0)) [(21, vM 901)] [(901, (.abs (numA y), 0))], Rw 23 (.s (inN .u32 (dg32 y 0))) [(22, .s (.nptr 901 0))] [(901, (.abs (numA y), 0))], Rw 24 (vW y) [(23, .s (inN .u32 (dg32 y 0)))], Rn 25 (.two (vM 25) (vM 10025)) [(20, vM 900), (24, vW y)] [(900, x)] [(25, x / y), (10025, x % y)], Rw 26 (vM 25) [(25, .two (vM 25) (vM 10025))], Rw 27 (vM 10025) [(25, .two (vM 25) (vM 10025))], Rw 4 (vM 25) [(26, vM 25)], Rw 5 (vM 10025) [(27, vM 10025)]] [(0, vM 900), (1, vM 901), (4, vM 25), (5, vM 10025)] [(25, (.abs (numA (x / y)), 0)), (900, (.abs (numA x), 0)), (901, (.abs (numA y), 0)), (10025, (.abs (numA (x % y)), 0))] ⟨tp, tp, txn sl25, tln on81, tE (x := .int .u64 (IntKind.u64.wrap ((dg32 y 0 : Nat) : Int))) fun _ => wr_u64 (by rw [dg0 hy1]) (by omega), tnc fun γ w h => r1_short (x := x) (y := y) (by omega) (by omega) (by omega) w h.1, tp, tp, tp, tp, trivial⟩ ?_
   clear hE; intro γ ac wc hE
   refine wp_ret ?_
   refine then_ret ?_
   exact (end2 hE rfl (.tmp 4 (vM 25) rfl) (.tmp 5 (vM 10025) rfl) (nret hE [(25, x / y), (10025, x % y)])).1
  ·
   have hb2p := of_decide_eq_false hb2
   refine wp_skip ?_
   refine then_normal ?_
   have hny := nd_pos hy0
   obtain ⟨hs1, hs2, hs3⟩ := div_shift (y := y) (by omega)
   refine sq_t hE [Rw 28 (vM 901) [(1, vM 901)], Rw 29 (vI (nd y)) [(28, vM 901)] [(901, (.abs (numA y), 0))], Rw 30 (vI (32 * (nd y))) [(29, vI (nd y))], Rw 31 (vM 901) [(1, vM 901)], Rn 32 (vI (bl y)) [(31, vM 901)] [(901, y)] [], Rw 33 (vI ((32 * (nd y)) - (bl y))) [(30, vI (32 * (nd y))), (32, vI (bl y))], Rw 6 (vI ((32 * (nd y)) - (bl y))) [(33, vI ((32 * (nd y)) - (bl y)))]] [(0, vM 900), (1, vM 901), (4, .s (.v (.slice none 0 0))), (5, .s (.v (.slice none 0 0))), (6, vI ((32 * (nd y)) - (bl y)))] [(900, (.abs (numA x), 0)), (901, (.abs (numA y), 0))] ⟨tp, tnl sl25, tE fun _ => wi_mul, tp, tnv fun γ w h => r1_Bits (x := y) (by omega) w h.1, tE fun _ => wi_sub, tp, trivial⟩ ?_
   clear hE; intro γ ac wc hE
   obtain ⟨s, hs⟩ : ∃ z : Nat, z = (32 * (nd y)) - (bl y) := ⟨_, rfl⟩
   rw [← hs] at hE
   obtain ⟨hv1, hv2⟩ := nd_shift (y := y) (by omega) hs
   obtain ⟨hI, hI2, hI3, hI4⟩ := div_init (x := x) (y := y) (by omega) hs (by omega)
   have hV0 : 0 < y * 2 ^ s := Nat.mul_pos hy0 (Nat.pow_pos (by decide))
   refine sq_t hE [Rw 34 (vM 901) [(1, vM 901)], Rw 35 (vI s) [(6, vI s)], Rn 36 (vM 36) [(34, vM 901), (35, vI s)] [(901, y)] [(36, y * 2 ^ s)], Rw 7 (vM 36) [(36, vM 36)]] [(0, vM 900), (1, vM 901), (4, .s (.v (.slice none 0 0))), (5, .s (.v (.slice none 0 0))), (6, vI s), (7, vM 36)] [(36, (.abs (numA (y * 2 ^ s)), 0)), (900, (.abs (numA x), 0)), (901, (.abs (numA y), 0))] ⟨tp, tp, tnc fun γ w h => r1_Shl (x := y) (r := s) (by omega) (by omega) w h.1, tp, trivial⟩ ?_
   clear hE; intro γ ac wc hE
   refine sq_t hE [Rw 37 (vM 900) [(0, vM 900)], Rw 38 (vI (nd x)) [(37, vM 900)] [(900, (.abs (numA x), 0))], Rw 39 (vI ((nd x) + 1)) [(38, vI (nd x))], Rw 40 (.s (.sl 40 0 ((nd x) + 1) ((nd x) + 1))) [(39, vI ((nd x) + 1))] [] [(40, (.pl (Vn ((nd x) + 1) 0), 81))], Rw 8 (.s (.sl 40 0 ((nd x) + 1) ((nd x) + 1))) [(40, .s (.sl 40 0 ((nd x) + 1) ((nd x) + 1)))]] [(0, vM 900), (1, vM 901), (4, .s (.v (.slice none 0 0))), (5, .s (.v (.slice none 0 0))), (6, vI s), (7, vM 36), (8, .s (.sl 40 0 ((nd x) + 1) ((nd x) + 1)))] [(36, (.abs (numA (y * 2 ^ s)), 0)), (40, (.pl (Vn ((nd x) + 1) 0), 81)), (900, (.abs (numA x), 0)), (901, (.abs (numA y), 0))] ⟨tp, tnl sl25, tE fun _ => wi_add, tmk mk25, tp, trivial⟩ ?_
   clear hE; intro γ ac wc hE
   refine sq_t hE [Rw 41 (.s (.sl 40 0 ((nd x) + 1) ((nd x) + 1))) [(8, .s (.sl 40 0 ((nd x) + 1) ((nd x) + 1)))], Rw 42 (vM 900) [(0, vM 900)], Rw 43 (vI s) [(6, vI s)], Rn 44 (vM 44) [(42, vM 900), (43, vI s)] [(900, x)] [(44, x * 2 ^ s)], Rw 45 (vI (nd (x * 2 ^ s))) [(41, .s (.sl 40 0 ((nd x) + 1) ((nd x) + 1))), (44, vM 44)] [(44, (.abs (numA (x * 2 ^ s)), 0)), (40, (.pl (Vn ((nd x) + 1) 0), 81))] [] [(40, (.pl (Vn ((nd x) + 1) (x * 2 ^ s)), 81))]] [(0, vM 900), (1, vM 901), (4, .s (.v (.slice none 0 0))), (5, .s (.v (.slice none 0 0))), (6, vI s), (7, vM 36), (8, .s (.sl 40 0 ((nd x) + 1) ((nd x) + 1)))] [(36, (.abs (numA (y * 2 ^ s)), 0)), (40, (.pl (Vn ((nd x) + 1) (x * 2 ^ s)), 81)), (44, (.abs (numA (x * 2 ^ s)), 0)), (900, (.abs (numA x), 0)), (901, (.abs (numA y), 0))] ⟨tp, tp, tp, tnc fun γ w h => r1_Shl (x := x) (r := s) (by omega) (by omega) w h.1, tcp sl25, trivial⟩ ?_
   clear hE; intro γ ac wc hE
   refine sq_t hE [Rw 46 (vM 36) [(7, vM 36)], Rw 47 (vI (nd (y * 2 ^ s))) [(46, vM 36)] [(36, (.abs (numA (y * 2 ^ s)), 0))], Rw 9 (vI (nd (y * 2 ^ s))) [(47, vI (nd (y * 2 ^ s)))]] [(0, vM 900), (1, vM 901), (4, .s (.v (.slice none 0 0))), (5, .s (.v (.slice none 0 0))), (6, vI s), (7, vM 36), (8, .s (.sl 40 0 ((nd x) + 1) ((nd x) + 1))), (9, vI (nd (y * 2 ^ s)))] [(36, (.abs (numA (y * 2 ^ s)), 0)), (40, (.pl (Vn ((nd x) + 1) (x * 2 ^ s)), 81)), (44, (.abs (numA (x * 2 ^ s)), 0)), (900, (.abs (numA x), 0)), (901, (.abs (numA y), 0))] ⟨tp, tnl sl25, tp, trivial⟩ ?_
   clear hE; intro γ ac wc hE
   refine sq_t hE [Rw 48 (.s (.sl 40 0 ((nd x) + 1) ((nd x) + 1))) [(8, .s (.sl 40 0 ((nd x) + 1) ((nd x) + 1)))], Rw 49 (vI ((nd x) + 1)) [(48, .s (.sl 40 0 ((nd x) + 1) ((nd x) + 1)))], Rw 50 (vI (nd (y * 2 ^ s))) [(9, vI (nd (y * 2 ^ s)))], Rw 51 (vI (((nd x) + 1) - (nd (y * 2 ^ s)))) [(49, vI ((nd x) + 1)), (50, vI (nd (y * 2 ^ s)))], Rw 52 (.s (.sl 52 0 (((nd x) + 1) - (nd (y * 2 ^ s))) (((nd x) + 1) - (nd (y * 2 ^ s))))) [(51, vI (((nd x) + 1) - (nd (y * 2 ^ s))))] [] [(52, (.pl (Vn (((nd x) + 1) - (nd (y * 2 ^ s))) 0), 81))], Rw 10 (.s (.sl 52 0 (((nd x) + 1) - (nd (y * 2 ^ s))) (((nd x) + 1) - (nd (y * 2 ^ s))))) [(52, .s (.sl 52 0 (((nd x) + 1) - (nd (y * 2 ^ s))) (((nd x) + 1) - (nd (y * 2 ^ s)))))]] [(0, vM 900), (1, vM 901), (4, .s (.v (.slice none 0 0))), (5, .s (.v (.slice none 0 0))), (6, vI s), (7, vM 36), (8, .s (.sl 40 0 ((nd x) + 1) ((nd x) + 1))), (9, vI (nd (y * 2 ^ s))), (10, .s (.sl 52 0 (((nd x) + 1) - (nd (y * 2 ^ s))) (((nd x) + 1) - (nd (y * 2 ^ s)))))] [(36, (.abs (numA (y * 2 ^ s)), 0)), (40, (.pl (Vn ((nd x) + 1) (x * 2 ^ s)), 81)), (44, (.abs (numA (x * 2 ^ s)), 0)), (52, (.pl (Vn (((nd x) + 1) - (nd (y * 2 ^ s))) 0), 81)), (900, (.abs (numA x), 0)), (901, (.abs (numA y), 0))] ⟨tp, tp, tp, tE fun _ => wi_sub, tmk mk25, tp, trivial⟩ ?_
   clear hE; intro γ ac wc hE
   refine wp_seq ?_
   refine sq_t hE [Rw 53 (.s (.sl 40 0 ((nd x) + 1) ((nd x) + 1))) [(8, .s (.sl 40 0 ((nd x) + 1) ((nd x) + 1)))], Rw 54 (vI ((nd x) + 1)) [(53, .s (.sl 40 0 ((nd x) + 1) ((nd x) + 1)))], Rw 55 (vI (nd (y * 2 ^ s))) [(9, vI (nd (y * 2 ^ s)))], Rw 56 (vI (((nd x) + 1) - (nd (y * 2 ^ s)))) [(54, vI ((nd x) + 1)), (55, vI (nd (y * 2 ^ s)))], Rw 57 (.s (inI .i64 (((((nd x) + 1) - (nd (y * 2 ^ s)) : Nat) : Int) - ((1 : Nat) : Int)))) [(56, vI (((nd x) + 1) - (nd (y * 2 ^ s))))], Rw 11 (.s (inI .i64 (((((nd x) + 1) - (nd (y * 2 ^ s)) : Nat) : Int) - ((1 : Nat) : Int)))) [(57, .s (inI .i64 (((((nd x) + 1) - (nd (y * 2 ^ s)) : Nat) : Int) - ((1 : Nat) : Int))))]] [(0, vM 900), (1, vM 901), (4, .s (.v (.slice none 0 0))), (5, .s (.v (.slice none 0 0))), (6, vI s), (7, vM 36), (8, .s (.sl 40 0 ((nd x) + 1) ((nd x) + 1))), (9, vI (nd (y * 2 ^ s))), (10, .s (.sl 52 0 (((nd x) + 1) - (nd (y * 2 ^ s))) (((nd x) + 1) - (nd (y * 2 ^ s))))), (11, .s (inI .i64 (((((nd x) + 1) - (nd (y * 2 ^ s)) : Nat) : Int) - ((1 : Nat) : Int))))] [(36, (.abs (numA (y * 2 ^ s)), 0)), (40, (.pl (Vn ((nd x) + 1) (x * 2 ^ s)), 81)), (44, (.abs (numA (x * 2 ^ s)), 0)), (52, (.pl (Vn (((nd x) + 1) - (nd (y * 2 ^ s))) 0), 81)), (900, (.abs (numA x), 0)), (901, (.abs (numA y), 0))] ⟨tp, tp, tp, tE fun _ => wi_sub, tE (x := .int .i64 (IntKind.i64.wrap (((((nd x) + 1) - (nd (y * 2 ^ s)) : Nat) : Int) - ((1 : Nat) : Int)))) fun _ => wri_i64 (by omega) (by omega), tp, trivial⟩ ?_
   clear hE; intro γ ac wc hE
   refine wp_block ?_
   refine loop_sx (σ := Nat × Nat × Nat) (fun (n, Q, U) => n) (fun (n, Q, U) => n ≤ nd x + 1 - nd (y * 2 ^ s) ∧ x * 2 ^ s = Q * (y * 2 ^ s) + U ∧ Q % 2 ^ (32 * n) = 0 ∧ U < y * 2 ^ s * 2 ^ (32 * n))
       (fun (n, Q, U) => [(0, vM 900), (1, vM 901), (4, .s (.v (.slice none 0 0))), (5, .s (.v (.slice none 0 0))), (6, vI s), (7, vM 36), (8, .s (.sl 40 0 ((nd x) + 1) ((nd x) + 1))), (9, vI (nd (y * 2 ^ s))), (10, .s (.sl 52 0 (((nd x) + 1) - (nd (y * 2 ^ s))) (((nd x) + 1) - (nd (y * 2 ^ s))))), (11, .s (inI .i64 (((n : Nat) : Int) - 1)))])
       (fun (n, Q, U) => [(36, (.abs (numA (y * 2 ^ s)), 0)), (40, (.pl (Vn (nd x + 1) U), 81)), (44, (.abs (numA (x * 2 ^ s)), 0)), (52, (.pl (Vn (nd x + 1 - nd (y * 2 ^ s)) Q), 81)), (900, (.abs (numA x), 0)), (901, (.abs (numA y), 0))])
       ((nd x + 1 - nd (y * 2 ^ s), 0, x * 2 ^ s)) (⟨Nat.le_refl _, by rw [Nat.zero_mul, Nat.zero_add], Nat.zero_mod _, hI⟩) (hE.sub (by kernel_rfl) (by kernel_rfl)) ?_
   clear hE; rintro ⟨n, Q, U⟩ γ ac wc hG hE
   replace hG : n ≤ nd x + 1 - nd (y * 2 ^ s) ∧ x * 2 ^ s = Q * (y * 2 ^ s) + U ∧ Q % 2 ^ (32 * n) = 0 ∧ U < y * 2 ^ s * 2 ^ (32 * n) := hG
   replace hE : Env _ _ _ w0 (lk [(0, vM 900), (1, vM 901), (4, .s (.v (.slice none 0 0))), (5, .s (.v (.slice none 0 0))), (6, vI s), (7, vM 36), (8, .s (.sl 40 0 ((nd x) + 1) ((nd x) + 1))), (9, vI (nd (y * 2 ^ s))), (10, .s (.sl 52 0 (((nd x) + 1) - (nd (y * 2 ^ s))) (((nd x) + 1) - (nd (y * 2 ^ s))))), (11, .s (inI .i64 (((n : Nat) : Int) - 1)))]) (lk [(36, (.abs (numA (y * 2 ^ s)), 0)), (40, (.pl (Vn (nd x + 1) U), 81)), (44, (.abs (numA (x * 2 ^ s)), 0)), (52, (.pl (Vn (nd x + 1 - nd (y * 2 ^ s)) Q), 81)), (900, (.abs (numA x), 0)), (901, (.abs (numA y), 0))]) γ ac wc := hE
   obtain ⟨hG1, hS, hG3, hU⟩ := hG
   refine wp_seq ?_
   refine sq_t hE [Rw 58 (.s (inI .i64 (((n : Nat) : Int) - 1))) [(11, .s (inI .i64 (((n : Nat) : Int) - 1)))], Rw 59 (vB (decide (0 < n))) [(58, .s (inI .i64 (((n : Nat) : Int) - 1)))]] [(0, vM 900), (1, vM 901), (4, .s (.v (.slice none 0 0))), (5, .s (.v (.slice none 0 0))), (6, vI s), (7, vM 36), (8, .s (.sl 40 0 ((nd x) + 1) ((nd x) + 1))), (9, vI (nd (y * 2 ^ s))), (10, .s (.sl 52 0 (((nd x) + 1) - (nd (y * 2 ^ s))) (((nd x) + 1) - (nd (y * 2 ^ s))))), (11, .s (inI .i64 (((n : Nat) : Int) - 1))), (59, vB (decide (0 < n)))] [(36, (.abs (numA (y * 2 ^ s)), 0)), (40, (.pl (Vn (nd x + 1) U), 81)), (44, (.abs (numA (x * 2 ^ s)), 0)), (52, (.pl (Vn (nd x + 1 - nd (y * 2 ^ s)) Q), 81)), (900, (.abs (numA x), 0)), (901, (.abs (numA y), 0))] ⟨tp, tE (x := .bool (decide ((((n : Nat) : Int) - 1) ≥ ((0 : Nat) : Int)))) fun _ => (congrArg Value.bool (decide_eq_decide.2 (by omega))), trivial⟩ ?_
   clear hE; intro γ ac wc hE
   refine cond_sx hE rfl (fun hb3 => ?_) (fun hb3 => ?_)
   ·
    have hb3p := of_decide_eq_true hb3
    have hi : ((n : Nat) : Int) - 1 = ((n - 1 : Nat) : Int) := by omega
    rw [hi] at hE
    refine wp_skip ?_
    refine then_normal ?_
    refine wp_seq ?_
    refine wp_block ?_
    have hrd := div_round (by assumption) hV0 hS hG3 hU
    refine rg_t hE [Rw 62 (.s (.sl 52 0 (((nd x) + 1) - (nd (y * 2 ^ s))) (((nd x) + 1) - (nd (y * 2 ^ s))))) [(10, .s (.sl 52 0 (((nd x) + 1) - (nd (y * 2 ^ s))) (((nd x) + 1) - (nd (y * 2 ^ s)))))], Rw 63 (vI (n - 1)) [(11, vI (n - 1))], Rw 64 (.s (.sl 40 0 ((nd x) + 1) ((nd x) + 1))) [(8, .s (.sl 40 0 ((nd x) + 1) ((nd x) + 1)))], Rw 65 (vM 36) [(7, vM 36)], Rw 66 (vI (n - 1)) [(11, vI (n - 1))], Rw 67 (vW (U / 2 ^ (32 * (n - 1)) / (y * 2 ^ s))) [(64, .s (.sl 40 0 ((nd x) + 1) ((nd x) + 1))), (65, vM 36), (66, vI (n - 1))] [(40, (.pl (Vn (nd x + 1) U), 81)), (36, (.abs (numA (y * 2 ^ s)), 0))] [] [(40, (.pl (Vn (nd x + 1) (U - U / 2 ^ (32 * (n - 1)) / (y * 2 ^ s) * (y * 2 ^ s) * 2 ^ (32 * (n - 1)))), 81))], Rw 68 (.s (inN .u32 (U / 2 ^ (32 * (n - 1)) / (y * 2 ^ s)))) [(67, vW (U / 2 ^ (32 * (n - 1)) / (y * 2 ^ s)))], Rw 69 (vP 52 (n - 1)) [(62, .s (.sl 52 0 (((nd x) + 1) - (nd (y * 2 ^ s))) (((nd x) + 1) - (nd (y * 2 ^ s))))), (63, vI (n - 1))], Rz [(69, vP 52 (n - 1)), (68, .s (inN .u32 (U / 2 ^ (32 * (n - 1)) / (y * 2 ^ s))))] [(52, (.pl (Vn (nd x + 1 - nd (y * 2 ^ s)) Q), 81))] [(52, (.pl (Vn (nd x + 1 - nd (y * 2 ^ s)) (set32 Q (n - 1) (U / 2 ^ (32 * (n - 1)) / (y * 2 ^ s)))), 81))]] [(0, vM 900), (1, vM 901), (4, .s (.v (.slice none 0 0))), (5, .s (.v (.slice none 0 0))), (6, vI s), (7, vM 36), (8, .s (.sl 40 0 ((nd x) + 1) ((nd x) + 1))), (9, vI (nd (y * 2 ^ s))), (10, .s (.sl 52 0 (((nd x) + 1) - (nd (y * 2 ^ s))) (((nd x) + 1) - (nd (y * 2 ^ s))))), (11, vI (n - 1))] [(36, (.abs (numA (y * 2 ^ s)), 0)), (40, (.pl (Vn (nd x + 1) (U - U / 2 ^ (32 * (n - 1)) / (y * 2 ^ s) * (y * 2 ^ s) * 2 ^ (32 * (n - 1)))), 81)), (44, (.abs (numA (x * 2 ^ s)), 0)), (52, (.pl (Vn (nd x + 1 - nd (y * 2 ^ s)) (set32 Q (n - 1) (U / 2 ^ (32 * (n - 1)) / (y * 2 ^ s)))), 81)), (900, (.abs (numA x), 0)), (901, (.abs (numA y), 0))] ⟨tp, tp, tp, tp, tp, tca fun γ w _ hks hap => (r1_step (cap := (nd x) + 1) (nu := nd x + 1) (U := U) (V := y * 2 ^ s) (j := n - 1) (by omega) (by rw [hv1]; exact hv2) (by omega) (by omega) (by rw [show n - 1 + 1 = n by omega]; exact hU) w (pl_at' (hks _ (.head _))) (hks _ (.tail _ (.head _))) (hap _ (.head _) _ (.tail _ (.head _)) (show (40 : Nat) ≠ 36 by decide) rfl _ rfl)).mono fun e w' ⟨h1, h2, h3⟩ => ⟨γ, Eff.only 40 _ rfl rfl rfl h2 (by rw [pl_obj]; exact h3), h1⟩, tE fun _ => wr_u32 rfl hrd.2.2.2, txs sl25, tsv sz81 (hd32 := hrd.2.2.2), trivial⟩ ?_
    clear hE; intro γ ac wc hE
    refine blk_normal ?_
    refine then_normal ?_
    refine rg_t hE [Rw 60 (vI (n - 1)) [(11, vI (n - 1))], Rw 61 (.s (inI .i64 (((n - 1 : Nat) : Int) - ((1 : Nat) : Int)))) [(60, vI (n - 1))], Rw 11 (.s (inI .i64 (((n - 1 : Nat) : Int) - ((1 : Nat) : Int)))) [(61, .s (inI .i64 (((n - 1 : Nat) : Int) - ((1 : Nat) : Int))))]] [(0, vM 900), (1, vM 901), (4, .s (.v (.slice none 0 0))), (5, .s (.v (.slice none 0 0))), (6, vI s), (7, vM 36), (8, .s (.sl 40 0 ((nd x) + 1) ((nd x) + 1))), (9, vI (nd (y * 2 ^ s))), (10, .s (.sl 52 0 (((nd x) + 1) - (nd (y * 2 ^ s))) (((nd x) + 1) - (nd (y * 2 ^ s))))), (11, .s (inI .i64 (((n - 1 : Nat) : Int) - ((1 : Nat) : Int))))] [(36, (.abs (numA (y * 2 ^ s)), 0)), (40, (.pl (Vn (nd x + 1) (U - U / 2 ^ (32 * (n - 1)) / (y * 2 ^ s) * (y * 2 ^ s) * 2 ^ (32 * (n - 1)))), 81)), (44, (.abs (numA (x * 2 ^ s)), 0)), (52, (.pl (Vn (nd x + 1 - nd (y * 2 ^ s)) (set32 Q (n - 1) (U / 2 ^ (32 * (n - 1)) / (y * 2 ^ s)))), 81)), (900, (.abs (numA x), 0)), (901, (.abs (numA y), 0))] ⟨tp, tE (x := .int .i64 (IntKind.i64.wrap (((n - 1 : Nat) : Int) - ((1 : Nat) : Int)))) fun _ => wri_i64 (by omega) (by omega), tp, trivial⟩ ?_
    clear hE; intro γ ac wc hE
    refine then_normal ⟨(n - 1, set32 Q (n - 1) (U / 2 ^ (32 * (n - 1)) / (y * 2 ^ s)), U - U / 2 ^ (32 * (n - 1)) / (y * 2 ^ s) * (y * 2 ^ s) * 2 ^ (32 * (n - 1))), (by show n - 1 < n; omega), ⟨by omega, hrd.1, hrd.2.1, hrd.2.2.1⟩, _, hE.sub (by kernel_rfl) (by kernel_rfl)⟩
   ·
    have hb3p := of_decide_eq_false hb3
    refine wp_exit ?_
    refine then_exit ?_
    refine then_exit ?_
    refine blk_hit ?_
    refine then_normal ?_
    have hn0 : n = 0 := by omega
    subst hn0
    have hQ := quo_ltn hV0 hS hI
    rw [Nat.mul_zero, Nat.pow_zero, Nat.mul_one] at hU
    have hl := div_last hy0 hS hU
    have hnU := nd_mono (Nat.le_of_lt hU)
    refine sq_d hE [Rw 70 (.s (.sl 52 0 (((nd x) + 1) - (nd (y * 2 ^ s))) (((nd x) + 1) - (nd (y * 2 ^ s))))) [(10, .s (.sl 52 0 (((nd x) + 1) - (nd (y * 2 ^ s))) (((nd x) + 1) - (nd (y * 2 ^ s)))))], Rw 71 (vM 71) [(70, .s (.sl 52 0 (((nd x) + 1) - (nd (y * 2 ^ s))) (((nd x) + 1) - (nd (y * 2 ^ s)))))] [(52, (.pl (Vn (nd x + 1 - nd (y * 2 ^ s)) Q), 81))] [(71, (.abs (numA Q), 0))] [(52, (.gone, 0))], Rw 72 (.s (.sl 40 0 ((nd x) + 1) ((nd x) + 1))) [(8, .s (.sl 40 0 ((nd x) + 1) ((nd x) + 1)))], Rw 73 (vI (nd (y * 2 ^ s))) [(9, vI (nd (y * 2 ^ s)))], Rw 74 (.s (.sl 40 0 (nd (y * 2 ^ s)) ((nd x) + 1))) [(72, .s (.sl 40 0 ((nd x) + 1) ((nd x) + 1))), (73, vI (nd (y * 2 ^ s)))], Rw 75 (vM 75) [(74, .s (.sl 40 0 (nd (y * 2 ^ s)) ((nd x) + 1)))] [(40, (.pl (Vn (nd x + 1) U), 81))] [(75, (.abs (numA U), 0))] [(40, (.gone, 0))], Rw 76 (vI s) [(6, vI s)], Rn 77 (vM 77) [(75, vM 75), (76, vI s)] [(75, U)] [(77, U / 2 ^ s)], Rw 4 (vM 71) [(71, vM 71)], Rw 5 (vM 77) [(77, vM 77)]] [(0, vM 900), (1, vM 901), (4, vM 71), (5, vM 77), (6, vI s), (7, vM 36), (8, .s (.sl 40 0 ((nd x) + 1) ((nd x) + 1))), (9, vI (nd (y * 2 ^ s))), (10, .s (.sl 52 0 (((nd x) + 1) - (nd (y * 2 ^ s))) (((nd x) + 1) - (nd (y * 2 ^ s)))))] [(36, (.abs (numA (y * 2 ^ s)), 0)), (44, (.abs (numA (x * 2 ^ s)), 0)), (71, (.abs (numA Q), 0)), (75, (.abs (numA U), 0)), (77, (.abs (numA (U / 2 ^ s)), 0)), (900, (.abs (numA x), 0)), (901, (.abs (numA y), 0))] ⟨tp, ttrim (hlt := hQ), tp, tp, tsh sl25, ttrim (hlt := (Nat.lt_trans hU (nd_lt _))), tp, tnc fun γ w h => r1_Shr (x := U) (r := s) (by omega) (nd_lt _) (by omega) w h.1, tp, tp, trivial⟩ ?_
    clear hE; intro γ ac wc hE
    refine wp_ret ?_
    exact (end2 hE rfl (.tmp 4 (vM 71) rfl) (.tmp 5 (vM 77) rfl) (by rw [← hl.1, ← hl.2]; exact nret hE [(71, Q), (77, U / 2 ^ s)])).1
theorem r1_Mod {k m x y : Nat} (hx : nd x ≤ 400) (hy : nd y ≤ 400) (hy0 : 0 < y) (w0 : World) (h1 : Num w0 k x) (h2 : Num w0 m y) : Calls Try.prog 49 #[dec k, dec m] w0 (NRet w0 [k, m] [x % y] fun f => dec (f 0)) := by
 refine enter_n [(900, k, (nd x), x), (901, m, (nd y), y)] [(0, vM 900), (1, vM 901)] Try.func49 rfl rfl ⟨h1, h2, trivial⟩ ?_
 intro γ ac hE
 replace hE : Env _ _ _ w0 (lk [(0, vM 900), (1, vM 901)]) (lk [(900, (.abs (numA x), 0)), (901, (.abs (numA y), 0))]) γ ac w0 := hE
 refine sq_t hE [Rw 4 (.s (.v (.slice none 0 0)))] [(0, vM 900), (1, vM 901), (4, .s (.v (.slice none 0 0)))] [(900, (.abs (numA x), 0)), (901, (.abs (numA y), 0))] ⟨tp, trivial⟩ ?_
 clear hE; intro γ ac wc hE
 refine sq_t hE [Rw 8 (vM 900) [(0, vM 900)], Rw 9 (vM 901) [(1, vM 901)], Rn 10 (.two (vM 10) (vM 10010)) [(8, vM 900), (9, vM 901)] [(900, x), (901, y)] [(10, x / y), (10010, x % y)], Rw 7 (.two (vM 10) (vM 10010)) [(10, .two (vM 10) (vM 10010))], Rw 11 (vM 10) [(7, .two (vM 10) (vM 10010))], Rw 12 (vM 10010) [(7, .two (vM 10) (vM 10010))], Rw 5 (vM 10) [(11, vM 10)], Rw 6 (vM 10010) [(12, vM 10010)]] [(4, .s (.v (.slice none 0 0))), (6, vM 10010)] [(10, (.abs (numA (x / y)), 0)), (900, (.abs (numA x), 0)), (901, (.abs (numA y), 0)), (10010, (.abs (numA (x % y)), 0))] ⟨tp, tp, tnc fun γ w h => r1_Div (x := x) (y := y) (by omega) (by omega) (by omega) w h.1 h.2.1, tp, tp, tp, tp, tp, trivial⟩ ?_
 clear hE; intro γ ac wc hE
 refine sq_t hE [Rw 13 (vM 10010) [(6, vM 10010)], Rw 4 (vM 10010) [(13, vM 10010)]] [(4, vM 10010)] [(10, (.abs (numA (x / y)), 0)), (900, (.abs (numA x), 0)), (901, (.abs (numA y), 0)), (10010, (.abs (numA (x % y)), 0))] ⟨tp, tp, trivial⟩ ?_
 clear hE; intro γ ac wc hE
 refine wp_ret ?_
 exact (end1 hE rfl (.tmp 4 (vM 10010) rfl) (nret hE [(10010, x % y)])).1
theorem r1_MulMod {k m l x y p : Nat} (hx : nd x ≤ 150) (hy : nd y ≤ 150) (hp : nd p ≤ 150) (hp0 : 0 < p) (w0 : World) (h1 : Num w0 k x) (h2 : Num w0 m y) (h3 : Num w0 l p) : Calls Try.prog 57 #[dec k, dec m, dec l] w0 (NRet w0 [k, m, l] [x * y % p] fun f => dec (f 0)) := by
 have hn := nd_mul x y
 refine enter_n [(900, k, (nd x), x), (901, m, (nd y), y), (902, l, (nd p), p)] [(0, vM 900), (1, vM 901), (2, vM 902)] Try.func57 rfl rfl ⟨h1, h2, h3, trivial⟩ ?_
 intro γ ac hE
 replace hE : Env _ _ _ w0 (lk [(0, vM 900), (1, vM 901), (2, vM 902)]) (lk [(900, (.abs (numA x), 0)), (901, (.abs (numA y), 0)), (902, (.abs (numA p), 0))]) γ ac w0 := hE
 refine sq_t hE [Rw 6 (.s (.v (.slice none 0 0)))] [(0, vM 900), (1, vM 901), (2, vM 902), (6, .s (.v (.slice none 0 0)))] [(900, (.abs (numA x), 0)), (901, (.abs (numA y), 0)), (902, (.abs (numA p), 0))] ⟨tp, trivial⟩ ?_
 clear hE; intro γ ac wc hE
 refine sq_t hE [Rw 7 (vM 900) [(0, vM 900)], Rw 8 (vM 901) [(1, vM 901)], Rn 9 (vM 9) [(7, vM 900), (8, vM 901)] [(900, x), (901, y)] [(9, x * y)], Rw 10 (vM 902) [(2, vM 902)], Rn 11 (vM 11) [(9, vM 9), (10, vM 902)] [(9, x * y), (902, p)] [(11, (x * y) % p)], Rw 6 (vM 11) [(11, vM 11)]] [(6, vM 11)] [(9, (.abs (numA (x * y)), 0)), (11, (.abs (numA ((x * y) % p)), 0)), (900, (.abs (numA x), 0)), (901, (.abs (numA y), 0)), (902, (.abs (numA p), 0))] ⟨tp, tp, tnc fun γ w h => r1_Mul (x := x) (y := y) (by omega) (by omega)  w h.1 h.2.1, tp, tnc fun γ w h => r1_Mod (x := x * y) (y := p) (by omega) (by omega) (by omega) w h.1 h.2.1, tp, trivial⟩ ?_
 clear hE; intro γ ac wc hE
 refine wp_ret ?_
 exact (end1 hE rfl (.tmp 6 (vM 11) rfl) (nret hE [(11, x * y % p)])).1
theorem r1_AddMod {k m l x y p : Nat} (hx : nd x ≤ 150) (hy : nd y ≤ 150) (hp : nd p ≤ 150) (hxp : x < p) (hyp : y < p) (w0 : World) (h1 : Num w0 k x) (h2 : Num w0 m y) (h3 : Num w0 l p) : Calls Try.prog 61 #[dec k, dec m, dec l] w0 (NRet w0 [k, m, l] [(x + y) % p] fun f => dec (f 0)) := by
 have hn := nd_add x y
 refine enter_n [(900, k, (nd x), x), (901, m, (nd y), y), (902, l, (nd p), p)] [(0, vM 900), (1, vM 901), (2, vM 902)] Try.func61 rfl rfl ⟨h1, h2, h3, trivial⟩ ?_
 intro γ ac hE
 replace hE : Env _ _ _ w0 (lk [(0, vM 900), (1, vM 901), (2, vM 902)]) (lk [(900, (.abs (numA x), 0)), (901, (.abs (numA y), 0)), (902, (.abs (numA p), 0))]) γ ac w0 := hE
 refine sq_t hE [Rw 6 (.s (.v (.slice none 0 0)))] [(0, vM 900), (1, vM 901), (2, vM 902), (6, .s (.v (.slice none 0 0)))] [(900, (.abs (numA x), 0)), (901, (.abs (numA y), 0)), (902, (.abs (numA p), 0))] ⟨tp, trivial⟩ ?_
 clear hE; intro γ ac wc hE
 refine sq_t hE [Rw 8 (vM 900) [(0, vM 900)], Rw 9 (vM 901) [(1, vM 901)], Rn 10 (vM 10) [(8, vM 900), (9, vM 901)] [(900, x), (901, y)] [(10, x + y)], Rw 7 (vM 10) [(10, vM 10)]] [(2, vM 902), (6, .s (.v (.slice none 0 0))), (7, vM 10)] [(10, (.abs (numA (x + y)), 0)), (900, (.abs (numA x), 0)), (901, (.abs (numA y), 0)), (902, (.abs (numA p), 0))] ⟨tp, tp, tnc fun γ w h => r1_Add (x := x) (y := y) (by omega) (by omega)  w h.1 h.2.1, tp, trivial⟩ ?_
 clear hE; intro γ ac wc hE
 refine wp_seq ?_
 refine sq_t hE [Rw 11 (vM 10) [(7, vM 10)], Rw 12 (vM 902) [(2, vM 902)], Rn 13 (.s (inI .i64 (cmp3 (x + y) p))) [(11, vM 10), (12, vM 902)] [(10, x + y), (902, p)] [], Rw 14 (vB (decide (p ≤ x + y))) [(13, .s (inI .i64 (cmp3 (x + y) p)))]] [(2, vM 902), (6, .s (.v (.slice none 0 0))), (7, vM 10), (14, vB (decide (p ≤ x + y)))] [(10, (.abs (numA (x + y)), 0)), (900, (.abs (numA x), 0)), (901, (.abs (numA y), 0)), (902, (.abs (numA p), 0))] ⟨tp, tp, tnv fun γ w h => r1_Cmp (x := x + y) (y := p) (by omega) (by omega) w h.1 h.2.1, tE (x := .bool (decide ((cmp3 (x + y) p) ≥ ((0 : Nat) : Int)))) fun _ => (congrArg Value.bool (c3_geq (x + y) p)), trivial⟩ ?_
 clear hE; intro γ ac wc hE
 refine cond_sx hE rfl (fun hb1 => ?_) (fun hb1 => ?_)
 ·
  have hb1p := of_decide_eq_true hb1
  refine sq_t hE [Rw 15 (vM 10) [(7, vM 10)], Rw 16 (vM 902) [(2, vM 902)], Rn 17 (vM 17) [(15, vM 10), (16, vM 902)] [(10, x + y), (902, p)] [(17, (x + y) - p)], Rw 6 (vM 17) [(17, vM 17)]] [(2, vM 902), (6, vM 17), (7, vM 10)] [(10, (.abs (numA (x + y)), 0)), (17, (.abs (numA ((x + y) - p)), 0)), (900, (.abs (numA x), 0)), (901, (.abs (numA y), 0)), (902, (.abs (numA p), 0))] ⟨tp, tp, tnc fun γ w h => r1_Sub (x := x + y) (y := p) (by omega) (by omega) (by omega) w h.1 h.2.1, tp, trivial⟩ ?_
  clear hE; intro γ ac wc hE
  refine wp_ret ?_
  refine then_ret ?_
  exact (end1 hE rfl (.tmp 6 (vM 17) rfl) (by rw [show (x + y) % p = x + y - p by rw [Nat.mod_eq_sub_mod (by assumption), Nat.mod_eq_of_lt (by omega)]]; exact nret hE [(17, x + y - p)])).1
 ·
  have hb1p := of_decide_eq_false hb1
  refine wp_skip ?_
  refine then_normal ?_
  refine sq_t hE [Rw 18 (vM 10) [(7, vM 10)], Rw 6 (vM 10) [(18, vM 10)]] [(2, vM 902), (6, vM 10), (7, vM 10)] [(10, (.abs (numA (x + y)), 0)), (900, (.abs (numA x), 0)), (901, (.abs (numA y), 0)), (902, (.abs (numA p), 0))] ⟨tp, tp, trivial⟩ ?_
  clear hE; intro γ ac wc hE
  refine wp_ret ?_
  exact (end1 hE rfl (.tmp 6 (vM 10) rfl) (by rw [Nat.mod_eq_of_lt (by omega)]; exact nret hE [(10, x + y)])).1
theorem r1_SubMod {k m l x y p : Nat} (hx : nd x ≤ 150) (hy : nd y ≤ 150) (hp : nd p ≤ 150) (hxp : x < p) (hyp : y < p) (w0 : World) (h1 : Num w0 k x) (h2 : Num w0 m y) (h3 : Num w0 l p) : Calls Try.prog 93 #[dec k, dec m, dec l] w0 (NRet w0 [k, m, l] [(x + p - y) % p] fun f => dec (f 0)) := by
 have hn := nd_add x p
 refine enter_n [(900, k, (nd x), x), (901, m, (nd y), y), (902, l, (nd p), p)] [(0, vM 900), (1, vM 901), (2, vM 902)] Try.func93 rfl rfl ⟨h1, h2, h3, trivial⟩ ?_
 intro γ ac hE
 replace hE : Env _ _ _ w0 (lk [(0, vM 900), (1, vM 901), (2, vM 902)]) (lk [(900, (.abs (numA x), 0)), (901, (.abs (numA y), 0)), (902, (.abs (numA p), 0))]) γ ac w0 := hE
 refine sq_t hE [Rw 6 (.s (.v (.slice none 0 0)))] [(0, vM 900), (1, vM 901), (2, vM 902), (6, .s (.v (.slice none 0 0)))] [(900, (.abs (numA x), 0)), (901, (.abs (numA y), 0)), (902, (.abs (numA p), 0))] ⟨tp, trivial⟩ ?_
 clear hE; intro γ ac wc hE
 refine wp_seq ?_
 refine sq_t hE [Rw 7 (vM 900) [(0, vM 900)], Rw 8 (vM 901) [(1, vM 901)], Rn 9 (.s (inI .i64 (cmp3 x y))) [(7, vM 900), (8, vM 901)] [(900, x), (901, y)] [], Rw 10 (vB (decide (y ≤ x))) [(9, .s (inI .i64 (cmp3 x y)))]] [(0, vM 900), (1, vM 901), (2, vM 902), (6, .s (.v (.slice none 0 0))), (10, vB (decide (y ≤ x)))] [(900, (.abs (numA x), 0)), (901, (.abs (numA y), 0)), (902, (.abs (numA p), 0))] ⟨tp, tp, tnv fun γ w h => r1_Cmp (x := x) (y := y) (by omega) (by omega) w h.1 h.2.1, tE (x := .bool (decide ((cmp3 x y) ≥ ((0 : Nat) : Int)))) fun _ => (congrArg Value.bool (c3_geq x y)), trivial⟩ ?_
 clear hE; intro γ ac wc hE
 refine cond_sx hE rfl (fun hb1 => ?_) (fun hb1 => ?_)
 ·
  have hb1p := of_decide_eq_true hb1
  refine sq_t hE [Rw 11 (vM 900) [(0, vM 900)], Rw 12 (vM 901) [(1, vM 901)], Rn 13 (vM 13) [(11, vM 900), (12, vM 901)] [(900, x), (901, y)] [(13, x - y)], Rw 6 (vM 13) [(13, vM 13)]] [(0, vM 900), (1, vM 901), (2, vM 902), (6, vM 13)] [(13, (.abs (numA (x - y)), 0)), (900, (.abs (numA x), 0)), (901, (.abs (numA y), 0)), (902, (.abs (numA p), 0))] ⟨tp, tp, tnc fun γ w h => r1_Sub (x := x) (y := y) (by omega) (by omega) (by omega) w h.1 h.2.1, tp, trivial⟩ ?_
  clear hE; intro γ ac wc hE
  refine wp_ret ?_
  refine then_ret ?_
  exact (end1 hE rfl (.tmp 6 (vM 13) rfl) (by rw [show (x + p - y) % p = x - y by rw [show x + p - y = x - y + p by omega, Nat.add_mod_right, Nat.mod_eq_of_lt (by omega)]]; exact nret hE [(13, x - y)])).1
 ·
  have hb1p := of_decide_eq_false hb1
  refine wp_skip ?_
  refine then_normal ?_
  refine sq_t hE [Rw 14 (vM 900) [(0, vM 900)], Rw 15 (vM 902) [(2, vM 902)], Rn 16 (vM 16) [(14, vM 900), (15, vM 902)] [(900, x), (902, p)] [(16, x + p)], Rw 17 (vM 901) [(1, vM 901)], Rn 18 (vM 18) [(16, vM 16), (17, vM 901)] [(16, x + p), (901, y)] [(18, (x + p) - y)], Rw 6 (vM 18) [(18, vM 18)]] [(0, vM 900), (1, vM 901), (6, vM 18)] [(16, (.abs (numA (x + p)), 0)), (18, (.abs (numA ((x + p) - y)), 0)), (900, (.abs (numA x), 0)), (901, (.abs (numA y), 0)), (902, (.abs (numA p), 0))] ⟨tp, tp, tnc fun γ w h => r1_Add (x := x) (y := p) (by omega) (by omega)  w h.1 h.2.1, tp, tnc fun γ w h => r1_Sub (x := x + p) (y := y) (by omega) (by omega) (by omega) w h.1 h.2.1, tp, trivial⟩ ?_
  clear hE; intro γ ac wc hE
  refine wp_ret ?_
  exact (end1 hE rfl (.tmp 6 (vM 18) rfl) (by rw [Nat.mod_eq_of_lt (by omega)]; exact nret hE [(18, x + p - y)])).1
end Go.Proofs.Ytddfimfgcfgpbaa
