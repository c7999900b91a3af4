/-
  Numbers of the references: Cmp.
-/
import Derived.Test.YtddfimfgcfgpbaaSTf
import Derived.Test.YtddfimfgcfgpbaaSRa
namespace Go.Proofs.Ytddfimfgcfgpbaa
open Sx
open Go.RowKit (Below)
set_option exponentiation.threshold 2000
theorem nd_cmp {a b : Nat} (h : nd a < nd b) : a < b := by
  refine Nat.lt_of_not_le fun hc => ?_
  have h1 : b < 2 ^ (32 * nd a) := Nat.lt_of_le_of_lt hc (nd_lt a)
  have := nd_le h1
  omega
theorem cm32_init {a b : Nat} (h : nd a = nd b) : a / 2 ^ (32 * nd a) = b / 2 ^ (32 * nd a) := by
  rw [Nat.div_eq_of_lt (nd_lt a), h, Nat.div_eq_of_lt (nd_lt b)]
theorem cm32_step {a b n : Nat} (h0 : 0 < n) (hG : a / 2 ^ (32 * n) = b / 2 ^ (32 * n)) (h : dg32 a (n - 1) = dg32 b (n - 1)) : a / 2 ^ (32 * (n - 1)) = b / 2 ^ (32 * (n - 1)) := by
  obtain ⟨m, rfl⟩ : ∃ m, n = m + 1 := ⟨n - 1, by omega⟩
  rw [Nat.add_sub_cancel] at h ⊢
  rw [hi32 a, hi32 b, hG, h]
theorem cm32_lt {a b n : Nat} (h0 : 0 < n) (hG : a / 2 ^ (32 * n) = b / 2 ^ (32 * n)) (h : dg32 a (n - 1) < dg32 b (n - 1)) : a < b := by
  obtain ⟨m, rfl⟩ : ∃ m, n = m + 1 := ⟨n - 1, by omega⟩
  rw [Nat.add_sub_cancel] at h
  refine Nat.lt_of_not_le fun hc => ?_
  have h1 := Nat.div_le_div_right (c := 2 ^ (32 * m)) hc
  rw [hi32 a, hi32 b, hG] at h1
  omega
theorem cm32_end {a b n : Nat} (h : ¬ 0 < n) (hG : a / 2 ^ (32 * n) = b / 2 ^ (32 * n)) : a = b := by
  have : n = 0 := by omega
  subst this
  simpa using hG
theorem cmp3_lo {a b : Nat} (h : a < b) : cmp3 a b = -1 := by unfold cmp3; rw [if_pos h]
theorem cmp3_hi {a b : Nat} (h : b < a) : cmp3 a b = 1 := by unfold cmp3; rw [if_neg (by omega), if_pos h]
theorem cmp3_eq {a b : Nat} (h : a = b) : cmp3 a b = 0 := by unfold cmp3; rw [if_neg (by omega), if_neg (by omega)]
theorem r1_Cmp {k m x y : Nat} (hx : nd x ≤ 1000) (hy : nd y ≤ 1000) (w0 : World) (h1 : Num w0 k x) (h2 : Num w0 m y) : Calls Try.prog 48 #[dec k, dec m] w0 fun e w => e = .returned (.int .i64 (cmp3 x y)) ∧ Below w0.heap.size w0 w := by
 refine enter_n [(900, k, (nd x), x), (901, m, (nd y), y)] [(0, vM 900), (1, vM 901)] Try.func48 rfl rfl ⟨h1, h2, trivial⟩ ?_
 intro γ ac hE
 replace hE : Env _ _ _ w0 (lk [(0, vM 900), (1, vM 901)]) (lk [(900, (.abs (numA x), 0)), (901, (.abs (numA y), 0))]) γ ac w0 := hE
 refine sq_t hE [Rw 4 (vI 0)] [(0, vM 900), (1, vM 901), (4, vI 0)] [(900, (.abs (numA x), 0)), (901, (.abs (numA y), 0))] ⟨tp, trivial⟩ ?_
 clear hE; intro γ ac wc hE
 refine wp_seq ?_
 refine sq_t hE [Rw 6 (vM 900) [(0, vM 900)], Rw 7 (vI (nd x)) [(6, vM 900)] [(900, (.abs (numA x), 0))], Rw 8 (vM 901) [(1, vM 901)], Rw 9 (vI (nd y)) [(8, vM 901)] [(901, (.abs (numA y), 0))], Rw 10 (vB (!decide (nd x = nd y))) [(7, vI (nd x)), (9, vI (nd y))]] [(0, vM 900), (1, vM 901), (4, vI 0), (10, vB (!decide (nd x = nd y)))] [(900, (.abs (numA x), 0)), (901, (.abs (numA y), 0))] ⟨tp, tnl sl25, tp, tnl sl25, tE fun _ => d_neq _ _, trivial⟩ ?_
 clear hE; intro γ ac wc hE
 refine cond_sx hE rfl (fun hb1 => ?_) (fun hb1 => ?_)
 ·
  have hb1d : decide (nd x = nd y) = false := by simpa using hb1
  have hb1p := of_decide_eq_false hb1d
  refine wp_seq ?_
  refine sq_t hE [Rw 11 (vM 900) [(0, vM 900)], Rw 12 (vI (nd x)) [(11, vM 900)] [(900, (.abs (numA x), 0))], Rw 13 (vM 901) [(1, vM 901)], Rw 14 (vI (nd y)) [(13, vM 901)] [(901, (.abs (numA y), 0))], Rw 15 (vB (decide (nd x < nd y))) [(12, vI (nd x)), (14, vI (nd y))]] [(0, vM 900), (1, vM 901), (4, vI 0), (15, vB (decide (nd x < nd y)))] [(900, (.abs (numA x), 0)), (901, (.abs (numA y), 0))] ⟨tp, tnl sl25, tp, tnl sl25, tE fun _ => d_lss _ _, trivial⟩ ?_
  clear hE; intro γ ac wc hE
  refine cond_sx hE rfl (fun hb2 => ?_) (fun hb2 => ?_)
  ·
   have hb2p := of_decide_eq_true hb2
   refine sq_t hE [Rw 4 (.s (inI .i64 (-1)))] [(0, vM 900), (1, vM 901), (4, .s (inI .i64 (-1)))] [(900, (.abs (numA x), 0)), (901, (.abs (numA y), 0))] ⟨tp, trivial⟩ ?_
   clear hE; intro γ ac wc hE
   refine wp_ret ?_
   refine then_ret ?_
   refine then_ret ?_
   exact (end1 hE rfl (.tmp 4 (.s (inI .i64 (-1))) rfl) (⟨by rw [cmp3_lo (nd_cmp hb2p)]; rfl, hE.keep.belowN⟩)).1
  ·
   have hb2p := of_decide_eq_false hb2
   refine wp_skip ?_
   refine then_normal ?_
   refine sq_t hE [Rw 4 (vI 1)] [(0, vM 900), (1, vM 901), (4, vI 1)] [(900, (.abs (numA x), 0)), (901, (.abs (numA y), 0))] ⟨tp, trivial⟩ ?_
   clear hE; intro γ ac wc hE
   refine wp_ret ?_
   refine then_ret ?_
   exact (end1 hE rfl (.tmp 4 (vI 1) rfl) (⟨by rw [cmp3_hi (nd_cmp (by omega))]; rfl, hE.keep.belowN⟩)).1
 ·
  have hb1d : decide (nd x = nd y) = true := by simpa using hb1
  have hb1p := of_decide_eq_true hb1d
  refine wp_skip ?_
  refine then_normal ?_
  refine wp_seq ?_
  refine sq_t hE [Rw 16 (vM 900) [(0, vM 900)], Rw 17 (vI (nd x)) [(16, vM 900)] [(900, (.abs (numA x), 0))], Rw 18 (.s (inI .i64 (((nd x : Nat) : Int) - ((1 : Nat) : Int)))) [(17, vI (nd x))], Rw 5 (.s (inI .i64 (((nd x : Nat) : Int) - ((1 : Nat) : Int)))) [(18, .s (inI .i64 (((nd x : Nat) : Int) - ((1 : Nat) : Int))))]] [(0, vM 900), (1, vM 901), (4, vI 0), (5, .s (inI .i64 (((nd x : Nat) : Int) - ((1 : Nat) : Int))))] [(900, (.abs (numA x), 0)), (901, (.abs (numA y), 0))] ⟨tp, tnl sl25, tE (x := .int .i64 (IntKind.i64.wrap (((nd x : Nat) : Int) - ((1 : Nat) : Int)))) fun _ => wri_i64 (by omega) (by omega), tp, trivial⟩ ?_
  clear hE; intro γ ac wc hE
  refine wp_block ?_
  refine loop_sx (σ := Nat) (fun n => n) (fun n => x / 2 ^ (32 * n) = y / 2 ^ (32 * n) ∧ n ≤ nd x)
      (fun n => [(0, vM 900), (1, vM 901), (4, vI 0), (5, .s (inI .i64 (((n : Nat) : Int) - 1)))])
      (fun n => [(900, (.abs (numA x), 0)), (901, (.abs (numA y), 0))])
      (nd x) (⟨cm32_init (by omega), Nat.le_refl _⟩) (hE.sub (by kernel_rfl) (by kernel_rfl)) ?_
  clear hE; intro n γ ac wc hG hE
  refine wp_seq ?_
  refine sq_t hE [Rw 19 (.s (inI .i64 (((n : Nat) : Int) - 1))) [(5, .s (inI .i64 (((n : Nat) : Int) - 1)))], Rw 20 (vB (decide (0 < n))) [(19, .s (inI .i64 (((n : Nat) : Int) - 1)))]] [(0, vM 900), (1, vM 901), (4, vI 0), (5, .s (inI .i64 (((n : Nat) : Int) - 1))), (20, vB (decide (0 < n)))] [(900, (.abs (numA x), 0)), (901, (.abs (numA y), 0))] ⟨tp, tE (x := .bool (decide ((((n : Nat) : Int) - 1) ≥ ((0 : Nat) : Int)))) fun _ => (congrArg Value.bool (decide_eq_decide.2 (by omega))), trivial⟩ ?_
  clear hE; intro γ ac wc hE
  refine cond_sx hE rfl (fun hb3 => ?_) (fun hb3 => ?_)
  ·
   have hb3p := of_decide_eq_true hb3
   have hi : ((n : Nat) : Int) - 1 = ((n - 1 : Nat) : Int) := by omega
   rw [hi] at hE
   refine wp_skip ?_
   refine then_normal ?_
   refine wp_seq ?_
   refine wp_block ?_
   refine sq_d hE [Rw 23 (vM 900) [(0, vM 900)], Rw 24 (vI (n - 1)) [(5, vI (n - 1))], Rw 25 (.s (.nptr 900 (n - 1))) [(23, vM 900), (24, vI (n - 1))] [(900, (.abs (numA x), 0))], Rw 26 (.s (inN .u32 (dg32 x (n - 1)))) [(25, .s (.nptr 900 (n - 1)))] [(900, (.abs (numA x), 0))], Rw 27 (vM 901) [(1, vM 901)], Rw 28 (vI (n - 1)) [(5, vI (n - 1))], Rw 29 (.s (.nptr 901 (n - 1))) [(27, vM 901), (28, vI (n - 1))] [(901, (.abs (numA y), 0))], Rw 30 (.s (inN .u32 (dg32 y (n - 1)))) [(29, .s (.nptr 901 (n - 1)))] [(901, (.abs (numA y), 0))], Rw 31 (vB (!decide (dg32 x (n - 1) = dg32 y (n - 1)))) [(26, .s (inN .u32 (dg32 x (n - 1)))), (30, .s (inN .u32 (dg32 y (n - 1))))]] [(0, vM 900), (1, vM 901), (4, vI 0), (5, vI (n - 1)), (31, vB (!decide (dg32 x (n - 1) = dg32 y (n - 1))))] [(900, (.abs (numA x), 0)), (901, (.abs (numA y), 0))] ⟨tp, tp, txn sl25, tln on81, tp, tp, txn sl25, tln on81, tE fun _ => d_neq _ _, trivial⟩ ?_
   clear hE; intro γ ac wc hE
   refine cond_sx hE rfl (fun hb4 => ?_) (fun hb4 => ?_)
   ·
    have hb4d : decide (dg32 x (n - 1) = dg32 y (n - 1)) = false := by simpa using hb4
    have hb4p := of_decide_eq_false hb4d
    refine wp_seq ?_
    refine sq_d hE [Rw 32 (vM 900) [(0, vM 900)], Rw 33 (vI (n - 1)) [(5, vI (n - 1))], Rw 34 (.s (.nptr 900 (n - 1))) [(32, vM 900), (33, vI (n - 1))] [(900, (.abs (numA x), 0))], Rw 35 (.s (inN .u32 (dg32 x (n - 1)))) [(34, .s (.nptr 900 (n - 1)))] [(900, (.abs (numA x), 0))], Rw 36 (vM 901) [(1, vM 901)], Rw 37 (vI (n - 1)) [(5, vI (n - 1))], Rw 38 (.s (.nptr 901 (n - 1))) [(36, vM 901), (37, vI (n - 1))] [(901, (.abs (numA y), 0))], Rw 39 (.s (inN .u32 (dg32 y (n - 1)))) [(38, .s (.nptr 901 (n - 1)))] [(901, (.abs (numA y), 0))], Rw 40 (vB (decide (dg32 x (n - 1) < dg32 y (n - 1)))) [(35, .s (inN .u32 (dg32 x (n - 1)))), (39, .s (inN .u32 (dg32 y (n - 1))))]] [(0, vM 900), (1, vM 901), (4, vI 0), (5, vI (n - 1)), (40, vB (decide (dg32 x (n - 1) < dg32 y (n - 1))))] [(900, (.abs (numA x), 0)), (901, (.abs (numA y), 0))] ⟨tp, tp, txn sl25, tln on81, tp, tp, txn sl25, tln on81, tE fun _ => d_lss _ _, trivial⟩ ?_
    clear hE; intro γ ac wc hE
    refine cond_sx hE rfl (fun hb5 => ?_) (fun hb5 => ?_)
    ·
     have hb5p := of_decide_eq_true hb5
     refine sq_t hE [Rw 4 (.s (inI .i64 (-1)))] [(0, vM 900), (1, vM 901), (4, .s (inI .i64 (-1))), (5, vI (n - 1))] [(900, (.abs (numA x), 0)), (901, (.abs (numA y), 0))] ⟨tp, trivial⟩ ?_
     clear hE; intro γ ac wc hE
     refine wp_ret ?_
     refine then_ret ?_
     refine blk_ret ?_
     refine then_ret ?_
     refine then_ret ?_
     refine blk_ret ?_
     refine then_ret ?_
     exact (end1 hE rfl (.tmp 4 (.s (inI .i64 (-1))) rfl) (⟨by rw [cmp3_lo (cm32_lt (n := n) (by assumption) hG.1 (by assumption))]; rfl, hE.keep.belowN⟩)).1
    ·
     have hb5p := of_decide_eq_false hb5
     refine wp_skip ?_
     refine then_normal ?_
     refine sq_t hE [Rw 4 (vI 1)] [(0, vM 900), (1, vM 901), (4, vI 1), (5, vI (n - 1))] [(900, (.abs (numA x), 0)), (901, (.abs (numA y), 0))] ⟨tp, trivial⟩ ?_
     clear hE; intro γ ac wc hE
     refine wp_ret ?_
     refine blk_ret ?_
     refine then_ret ?_
     refine then_ret ?_
     refine blk_ret ?_
     refine then_ret ?_
     exact (end1 hE rfl (.tmp 4 (vI 1) rfl) (⟨by rw [cmp3_hi (cm32_lt (n := n) (by assumption) hG.1.symm (by omega))]; rfl, hE.keep.belowN⟩)).1
   ·
    have hb4d : decide (dg32 x (n - 1) = dg32 y (n - 1)) = true := by simpa using hb4
    have hb4p := of_decide_eq_true hb4d
    refine wp_skip ?_
    refine blk_normal ?_
    refine then_normal ?_
    refine rg_t hE [Rw 21 (vI (n - 1)) [(5, vI (n - 1))], Rw 22 (.s (inI .i64 (((n - 1 : Nat) : Int) - ((1 : Nat) : Int)))) [(21, vI (n - 1))], Rw 5 (.s (inI .i64 (((n - 1 : Nat) : Int) - ((1 : Nat) : Int)))) [(22, .s (inI .i64 (((n - 1 : Nat) : Int) - ((1 : Nat) : Int))))]] [(0, vM 900), (1, vM 901), (4, vI 0), (5, .s (inI .i64 (((n - 1 : Nat) : Int) - ((1 : Nat) : Int))))] [(900, (.abs (numA x), 0)), (901, (.abs (numA y), 0))] ⟨tp, tE (x := .int .i64 (IntKind.i64.wrap (((n - 1 : Nat) : Int) - ((1 : Nat) : Int)))) fun _ => wri_i64 (by omega) (by omega), tp, trivial⟩ ?_
    clear hE; intro γ ac wc hE
    refine then_normal ⟨n - 1, by omega, ⟨cm32_step (by assumption) hG.1 (by omega), by omega⟩, _, hE.sub (by kernel_rfl) (by kernel_rfl)⟩
  ·
   have hb3p := of_decide_eq_false hb3
   refine wp_exit ?_
   refine then_exit ?_
   refine then_exit ?_
   refine blk_hit ?_
   refine then_normal ?_
   refine sq_t hE [Rw 4 (vI 0)] [(0, vM 900), (1, vM 901), (4, vI 0), (5, .s (inI .i64 (((n : Nat) : Int) - 1)))] [(900, (.abs (numA x), 0)), (901, (.abs (numA y), 0))] ⟨tp, trivial⟩ ?_
   clear hE; intro γ ac wc hE
   refine wp_ret ?_
   exact (end1 hE rfl (.tmp 4 (vI 0) rfl) (⟨by rw [cmp3_eq (cm32_end (n := n) (by assumption) hG.1)]; rfl, hE.keep.belowN⟩)).1
end Go.Proofs.Ytddfimfgcfgpbaa
