/-
  nat.Add and nat.Sub.
-/
import Derived.Test.YtddfimfgcfgpbaaSTf
import Derived.Test.YtddfimfgcfgpbaaSWp
namespace Go.Proofs.Ytddfimfgcfgpbaa
open Sx
open Go.RowKit (Below)
set_option exponentiation.threshold 2000
theorem nat_Add (a b : Nat) (ha : a < 2 ^ 576) (hb : b < 2 ^ 576) (w0 : World) : Calls Try.prog 131 #[nv a, nv b] w0 fun e w => e = .returned (.tuple #[nv (a + b), .bool (decide (2 ^ 576 ≤ a + b))]) ∧ Below w0.heap.size w0 w := by
 refine enter_sx [(0, .agg (U9 a)), (1, .agg (U9 b))] 31 Try.func131 rfl rfl (Nat.le_of_ble_eq_true (by kernel_rfl)) (fun γ => by kernel_rfl) ?_
 intro γ ac hE
 refine sq_t hE [Rw 2 (vP 2 0) [(0, .agg (U9 a))] [] [(2, (.sc (U9 a), 37))], Rw 3 (vP 3 0) [(1, .agg (U9 b))] [] [(3, (.sc (U9 b), 37))], Rw 4 (vP 4 0) [] [] [(4, (.sc (U9 0), 37))], Rw 5 (vB false)] [(2, vP 2 0), (3, vP 3 0), (4, vP 4 0), (5, vB false)] [(2, (.sc (U9 a), 37)), (3, (.sc (U9 b), 37)), (4, (.sc (U9 0), 37))] ⟨tb, tb, ta zt37, tp, trivial⟩ ?_
 clear hE; intro γ ac wc hE
 refine sq_t hE [Rw 6 (vW 0)] [(2, vP 2 0), (3, vP 3 0), (4, vP 4 0), (5, vB false), (6, vW 0)] [(2, (.sc (U9 a), 37)), (3, (.sc (U9 b), 37)), (4, (.sc (U9 0), 37))] ⟨tp, trivial⟩ ?_
 clear hE; intro γ ac wc hE
 refine wp_seq ?_
 refine sq_t hE [Rw 8 (vI 0)] [(2, vP 2 0), (3, vP 3 0), (4, vP 4 0), (5, vB false), (6, vW 0), (8, vI 0)] [(2, (.sc (U9 a), 37)), (3, (.sc (U9 b), 37)), (4, (.sc (U9 0), 37))] ⟨tp, trivial⟩ ?_
 clear hE; intro γ ac wc hE
 refine wp_block ?_
 refine loop_sx (σ := Nat) (fun i => 9 - i) (fun i => i ≤ 9)
     (fun i => [(2, vP 2 0), (3, vP 3 0), (4, vP 4 0), (5, vB false), (6, vW (cy a b i)), (8, vI i)])
     (fun i => [(2, (.sc (U9 (mixw (a + b) a i)), 37)), (3, (.sc (U9 b), 37)), (4, (.sc (U9 0), 37))])
     (0) (by omega) (hE.sub (by rw [cy_zero]; kernel_rfl) (by rw [← U9_mix0]; kernel_rfl)) ?_
 clear hE; intro i γ ac wc hG hE
 refine sq_t hE [Rw 9 (vB (decide (i < 9))) [(8, vI i)]] [(2, vP 2 0), (3, vP 3 0), (4, vP 4 0), (5, vB false), (6, vW (cy a b i)), (8, vI i), (9, vB (decide (i < 9)))] [(2, (.sc (U9 (mixw (a + b) a i)), 37)), (3, (.sc (U9 b), 37)), (4, (.sc (U9 0), 37))] ⟨tE fun _ => d_lss _ _, trivial⟩ ?_
 clear hE; intro γ ac wc hE
 refine wp_seq ?_
 refine cond_sx hE rfl (fun hb1 => ?_) (fun hb1 => ?_)
 ·
  have hb1p := of_decide_eq_true hb1
  refine wp_skip ?_
  refine then_normal ?_
  refine wp_seq ?_
  refine wp_block ?_
  refine sq_t hE [Rw 10 (vI i) [(8, vI i)], Rw 7 (vI i) [(10, vI i)]] [(2, vP 2 0), (3, vP 3 0), (4, vP 4 0), (5, vB false), (6, vW (cy a b i)), (7, vI i), (8, vI i)] [(2, (.sc (U9 (mixw (a + b) a i)), 37)), (3, (.sc (U9 b), 37)), (4, (.sc (U9 0), 37))] ⟨tp, tp, trivial⟩ ?_
  clear hE; intro γ ac wc hE
  refine rg_d hE [Rw 12 (vI i) [(7, vI i)], Rw 13 (vI i) [(7, vI i)], Rw 14 (vP 2 0) [(2, vP 2 0)], Rw 15 (vP 2 i) [(14, vP 2 0), (13, vI i)], Rw 16 (vW (dg (mixw (a + b) a i) i)) [(15, vP 2 i)] [(2, (.sc (U9 (mixw (a + b) a i)), 37))], Rw 17 (vI i) [(7, vI i)], Rw 18 (vP 3 0) [(3, vP 3 0)], Rw 19 (vP 3 i) [(18, vP 3 0), (17, vI i)], Rw 20 (vW (dg b i)) [(19, vP 3 i)] [(3, (.sc (U9 b), 37))], Rw 21 (vW (cy a b i)) [(6, vW (cy a b i))], Rw 22 (.two (vW ((dg (mixw (a + b) a i) i + dg b i + cy a b i) % 18446744073709551616)) (vW ((dg (mixw (a + b) a i) i + dg b i + cy a b i) / 18446744073709551616))) [(16, vW (dg (mixw (a + b) a i) i)), (20, vW (dg b i)), (21, vW (cy a b i))], Rw 11 (.two (vW ((dg (mixw (a + b) a i) i + dg b i + cy a b i) % 18446744073709551616)) (vW ((dg (mixw (a + b) a i) i + dg b i + cy a b i) / 18446744073709551616))) [(22, .two (vW ((dg (mixw (a + b) a i) i + dg b i + cy a b i) % 18446744073709551616)) (vW ((dg (mixw (a + b) a i) i + dg b i + cy a b i) / 18446744073709551616)))], Rw 23 (vW ((dg (mixw (a + b) a i) i + dg b i + cy a b i) % 18446744073709551616)) [(11, .two (vW ((dg (mixw (a + b) a i) i + dg b i + cy a b i) % 18446744073709551616)) (vW ((dg (mixw (a + b) a i) i + dg b i + cy a b i) / 18446744073709551616)))], Rw 24 (vW ((dg (mixw (a + b) a i) i + dg b i + cy a b i) / 18446744073709551616)) [(11, .two (vW ((dg (mixw (a + b) a i) i + dg b i + cy a b i) % 18446744073709551616)) (vW ((dg (mixw (a + b) a i) i + dg b i + cy a b i) / 18446744073709551616)))], Rw 25 (vP 2 0) [(2, vP 2 0)], Rw 26 (vP 2 i) [(25, vP 2 0), (12, vI i)], Rz [(26, vP 2 i), (23, vW ((dg (mixw (a + b) a i) i + dg b i + cy a b i) % 18446744073709551616))] [(2, (.sc (U9 (mixw (a + b) a i)), 37))] [(2, (.sc (U9 (setw (mixw (a + b) a i) i ((dg (mixw (a + b) a i) i + dg b i + cy a b i) % 18446744073709551616))), 37))], Rw 6 (vW ((dg (mixw (a + b) a i) i + dg b i + cy a b i) / 18446744073709551616)) [(24, vW ((dg (mixw (a + b) a i) i + dg b i + cy a b i) / 18446744073709551616))]] [(2, vP 2 0), (3, vP 3 0), (4, vP 4 0), (5, vB false), (6, vW ((dg (mixw (a + b) a i) i + dg b i + cy a b i) / 18446744073709551616)), (8, vI i)] [(2, (.sc (U9 (setw (mixw (a + b) a i) i ((dg (mixw (a + b) a i) i + dg b i + cy a b i) % 18446744073709551616))), 37)), (3, (.sc (U9 b), 37)), (4, (.sc (U9 0), 37))] ⟨tp, tp, tp, txa0 ar35, tlU on22, tp, tp, txa0 ar35, tlU on22, tp, t_add64 (h := (cy_le a b i)), tp, tp, tp, tp, txa0 ar35, tsU sz22 (hdd := (Nat.mod_lt _ (by decide))), tp, trivial⟩ ?_
  clear hE; intro γ ac wc hE
  refine blk_normal ?_
  refine then_normal ?_
  refine rg_t hE [Rw 27 (vI (i + 1)) [(8, vI i)], Rw 8 (vI (i + 1)) [(27, vI (i + 1))]] [(2, vP 2 0), (3, vP 3 0), (4, vP 4 0), (5, vB false), (6, vW ((dg (mixw (a + b) a i) i + dg b i + cy a b i) / 18446744073709551616)), (8, vI (i + 1))] [(2, (.sc (U9 (setw (mixw (a + b) a i) i ((dg (mixw (a + b) a i) i + dg b i + cy a b i) % 18446744073709551616))), 37)), (3, (.sc (U9 b), 37)), (4, (.sc (U9 0), 37))] ⟨tE fun _ => wi_add, tp, trivial⟩ ?_
  clear hE; intro γ ac wc hE
  refine then_normal ⟨i + 1, by omega, by omega, γ, hE.sub (by rw [show cy a b (i + 1) = (dg (mixw (a + b) a i) i + dg b i + cy a b i) / 18446744073709551616 from (by rw [dg_mixi]; exact (add_word a b i).2)]; kernel_rfl) (by rw [← setw_mixw (s := a + b) (x := a) (i := i) (d := ((dg (mixw (a + b) a i) i + dg b i + cy a b i) % 18446744073709551616)) (by rw [dg_mixi]; exact (add_word a b i).1.symm)]; kernel_rfl)⟩
 ·
  have hb1p := of_decide_eq_false hb1
  refine wp_exit ?_
  refine then_exit ?_
  refine then_exit ?_
  refine blk_hit ?_
  refine then_normal ?_
  refine sq_t hE [Rw 28 (.agg (U9 (mixw (a + b) a i))) [(2, vP 2 0)] [(2, (.sc (U9 (mixw (a + b) a i)), 37))], Rw 29 (vW (cy a b i)) [(6, vW (cy a b i))], Rw 30 (vB (decide (cy a b i = 1))) [(29, vW (cy a b i))], Rz [(4, vP 4 0), (28, .agg (U9 (mixw (a + b) a i)))] [(4, (.sc (U9 0), 37))] [(4, (.sc (U9 (mixw (a + b) a i)), 37))], Rw 5 (vB (decide (cy a b i = 1))) [(30, vB (decide (cy a b i = 1)))]] [(2, vP 2 0), (3, vP 3 0), (4, vP 4 0), (5, vB (decide (cy a b i = 1))), (6, vW (cy a b i)), (8, vI i)] [(2, (.sc (U9 (mixw (a + b) a i)), 37)), (3, (.sc (U9 b), 37)), (4, (.sc (U9 (mixw (a + b) a i)), 37))] ⟨tl ag37, tp, tE fun _ => d_eql _ _, ts sz37, tp, trivial⟩ ?_
  clear hE; intro γ ac wc hE
  refine wp_ret ?_
  have hi : i = 9 := by omega
  exact (end2 hE rfl (.cells 4 4 0 37 37 (U9 (mixw (a + b) a i)) (U9 (mixw (a + b) a i)) rfl rfl ag37 (by kernel_rfl)) (.tmp 5 (vB (decide (cy a b i = 1))) rfl) (⟨by rw [show U9 (mixw (a + b) a i) = U9 (a + b) by rw [hi]; exact U9_mix9 _ _, show decide (cy a b i = 1) = decide (2 ^ 576 ≤ a + b) by rw [hi]; exact decide_eq_decide.2 (cy9 ha hb)]; rfl, hE.keep.below⟩)).1
theorem nat_Sub (a b : Nat) (ha : a < 2 ^ 576) (hb : b < 2 ^ 576) (w0 : World) : Calls Try.prog 103 #[nv a, nv b] w0 fun e w => e = .returned (.tuple #[nv (sb a b), .bool (decide (a < b))]) ∧ Below w0.heap.size w0 w := by
 refine enter_sx [(0, .agg (U9 a)), (1, .agg (U9 b))] 31 Try.func103 rfl rfl (Nat.le_of_ble_eq_true (by kernel_rfl)) (fun γ => by kernel_rfl) ?_
 intro γ ac hE
 refine sq_t hE [Rw 2 (vP 2 0) [(0, .agg (U9 a))] [] [(2, (.sc (U9 a), 37))], Rw 3 (vP 3 0) [(1, .agg (U9 b))] [] [(3, (.sc (U9 b), 37))], Rw 4 (vP 4 0) [] [] [(4, (.sc (U9 0), 37))], Rw 5 (vB false)] [(2, vP 2 0), (3, vP 3 0), (4, vP 4 0), (5, vB false)] [(2, (.sc (U9 a), 37)), (3, (.sc (U9 b), 37)), (4, (.sc (U9 0), 37))] ⟨tb, tb, ta zt37, tp, trivial⟩ ?_
 clear hE; intro γ ac wc hE
 refine sq_t hE [Rw 6 (vW 0)] [(2, vP 2 0), (3, vP 3 0), (4, vP 4 0), (5, vB false), (6, vW 0)] [(2, (.sc (U9 a), 37)), (3, (.sc (U9 b), 37)), (4, (.sc (U9 0), 37))] ⟨tp, trivial⟩ ?_
 clear hE; intro γ ac wc hE
 refine wp_seq ?_
 refine sq_t hE [Rw 8 (vI 0)] [(2, vP 2 0), (3, vP 3 0), (4, vP 4 0), (5, vB false), (6, vW 0), (8, vI 0)] [(2, (.sc (U9 a), 37)), (3, (.sc (U9 b), 37)), (4, (.sc (U9 0), 37))] ⟨tp, trivial⟩ ?_
 clear hE; intro γ ac wc hE
 refine wp_block ?_
 refine loop_sx (σ := Nat) (fun i => 9 - i) (fun i => i ≤ 9)
     (fun i => [(2, vP 2 0), (3, vP 3 0), (4, vP 4 0), (5, vB false), (6, vW (bw a b i)), (8, vI i)])
     (fun i => [(2, (.sc (U9 (mixw (sb a b) a i)), 37)), (3, (.sc (U9 b), 37)), (4, (.sc (U9 0), 37))])
     (0) (by omega) (hE.sub (by rw [bw_zero]; kernel_rfl) (by rw [← U9_mix0]; kernel_rfl)) ?_
 clear hE; intro i γ ac wc hG hE
 refine sq_t hE [Rw 9 (vB (decide (i < 9))) [(8, vI i)]] [(2, vP 2 0), (3, vP 3 0), (4, vP 4 0), (5, vB false), (6, vW (bw a b i)), (8, vI i), (9, vB (decide (i < 9)))] [(2, (.sc (U9 (mixw (sb a b) a i)), 37)), (3, (.sc (U9 b), 37)), (4, (.sc (U9 0), 37))] ⟨tE fun _ => d_lss _ _, trivial⟩ ?_
 clear hE; intro γ ac wc hE
 refine wp_seq ?_
 refine cond_sx hE rfl (fun hb1 => ?_) (fun hb1 => ?_)
 ·
  have hb1p := of_decide_eq_true hb1
  refine wp_skip ?_
  refine then_normal ?_
  refine wp_seq ?_
  refine wp_block ?_
  refine sq_t hE [Rw 10 (vI i) [(8, vI i)], Rw 7 (vI i) [(10, vI i)]] [(2, vP 2 0), (3, vP 3 0), (4, vP 4 0), (5, vB false), (6, vW (bw a b i)), (7, vI i), (8, vI i)] [(2, (.sc (U9 (mixw (sb a b) a i)), 37)), (3, (.sc (U9 b), 37)), (4, (.sc (U9 0), 37))] ⟨tp, tp, trivial⟩ ?_
  clear hE; intro γ ac wc hE
  refine rg_d hE [Rw 12 (vI i) [(7, vI i)], Rw 13 (vI i) [(7, vI i)], Rw 14 (vP 2 0) [(2, vP 2 0)], Rw 15 (vP 2 i) [(14, vP 2 0), (13, vI i)], Rw 16 (vW (dg (mixw (sb a b) a i) i)) [(15, vP 2 i)] [(2, (.sc (U9 (mixw (sb a b) a i)), 37))], Rw 17 (vI i) [(7, vI i)], Rw 18 (vP 3 0) [(3, vP 3 0)], Rw 19 (vP 3 i) [(18, vP 3 0), (17, vI i)], Rw 20 (vW (dg b i)) [(19, vP 3 i)] [(3, (.sc (U9 b), 37))], Rw 21 (vW (bw a b i)) [(6, vW (bw a b i))], Rw 22 (.two (vW ((dg (mixw (sb a b) a i) i + 18446744073709551616 - (dg b i) - (bw a b i)) % 18446744073709551616)) (vW (if dg (mixw (sb a b) a i) i < dg b i + bw a b i then 1 else 0))) [(16, vW (dg (mixw (sb a b) a i) i)), (20, vW (dg b i)), (21, vW (bw a b i))], Rw 11 (.two (vW ((dg (mixw (sb a b) a i) i + 18446744073709551616 - (dg b i) - (bw a b i)) % 18446744073709551616)) (vW (if dg (mixw (sb a b) a i) i < dg b i + bw a b i then 1 else 0))) [(22, .two (vW ((dg (mixw (sb a b) a i) i + 18446744073709551616 - (dg b i) - (bw a b i)) % 18446744073709551616)) (vW (if dg (mixw (sb a b) a i) i < dg b i + bw a b i then 1 else 0)))], Rw 23 (vW ((dg (mixw (sb a b) a i) i + 18446744073709551616 - (dg b i) - (bw a b i)) % 18446744073709551616)) [(11, .two (vW ((dg (mixw (sb a b) a i) i + 18446744073709551616 - (dg b i) - (bw a b i)) % 18446744073709551616)) (vW (if dg (mixw (sb a b) a i) i < dg b i + bw a b i then 1 else 0)))], Rw 24 (vW (if dg (mixw (sb a b) a i) i < dg b i + bw a b i then 1 else 0)) [(11, .two (vW ((dg (mixw (sb a b) a i) i + 18446744073709551616 - (dg b i) - (bw a b i)) % 18446744073709551616)) (vW (if dg (mixw (sb a b) a i) i < dg b i + bw a b i then 1 else 0)))], Rw 25 (vP 2 0) [(2, vP 2 0)], Rw 26 (vP 2 i) [(25, vP 2 0), (12, vI i)], Rz [(26, vP 2 i), (23, vW ((dg (mixw (sb a b) a i) i + 18446744073709551616 - (dg b i) - (bw a b i)) % 18446744073709551616))] [(2, (.sc (U9 (mixw (sb a b) a i)), 37))] [(2, (.sc (U9 (setw (mixw (sb a b) a i) i ((dg (mixw (sb a b) a i) i + 18446744073709551616 - (dg b i) - (bw a b i)) % 18446744073709551616))), 37))], Rw 6 (vW (if dg (mixw (sb a b) a i) i < dg b i + bw a b i then 1 else 0)) [(24, vW (if dg (mixw (sb a b) a i) i < dg b i + bw a b i then 1 else 0))]] [(2, vP 2 0), (3, vP 3 0), (4, vP 4 0), (5, vB false), (6, vW (if dg (mixw (sb a b) a i) i < dg b i + bw a b i then 1 else 0)), (8, vI i)] [(2, (.sc (U9 (setw (mixw (sb a b) a i) i ((dg (mixw (sb a b) a i) i + 18446744073709551616 - (dg b i) - (bw a b i)) % 18446744073709551616))), 37)), (3, (.sc (U9 b), 37)), (4, (.sc (U9 0), 37))] ⟨tp, tp, tp, txa0 ar35, tlU on22, tp, tp, txa0 ar35, tlU on22, tp, t_sub64 (h := (bw_le a b i)), tp, tp, tp, tp, txa0 ar35, tsU sz22 (hdd := (Nat.mod_lt _ (by decide))), tp, trivial⟩ ?_
  clear hE; intro γ ac wc hE
  refine blk_normal ?_
  refine then_normal ?_
  refine rg_t hE [Rw 27 (vI (i + 1)) [(8, vI i)], Rw 8 (vI (i + 1)) [(27, vI (i + 1))]] [(2, vP 2 0), (3, vP 3 0), (4, vP 4 0), (5, vB false), (6, vW (if dg (mixw (sb a b) a i) i < dg b i + bw a b i then 1 else 0)), (8, vI (i + 1))] [(2, (.sc (U9 (setw (mixw (sb a b) a i) i ((dg (mixw (sb a b) a i) i + 18446744073709551616 - (dg b i) - (bw a b i)) % 18446744073709551616))), 37)), (3, (.sc (U9 b), 37)), (4, (.sc (U9 0), 37))] ⟨tE fun _ => wi_add, tp, trivial⟩ ?_
  clear hE; intro γ ac wc hE
  refine then_normal ⟨i + 1, by omega, by omega, γ, hE.sub (by rw [show bw a b (i + 1) = (if dg (mixw (sb a b) a i) i < dg b i + bw a b i then 1 else 0) from (by rw [dg_mixi]; exact (sub_word a b i hb (by omega)).2.symm)]; kernel_rfl) (by rw [← setw_mixw (s := sb a b) (x := a) (i := i) (d := ((dg (mixw (sb a b) a i) i + 18446744073709551616 - (dg b i) - (bw a b i)) % 18446744073709551616)) (by rw [dg_mixi]; exact (sub_word a b i hb (by omega)).1)]; kernel_rfl)⟩
 ·
  have hb1p := of_decide_eq_false hb1
  refine wp_exit ?_
  refine then_exit ?_
  refine then_exit ?_
  refine blk_hit ?_
  refine then_normal ?_
  refine sq_t hE [Rw 28 (.agg (U9 (mixw (sb a b) a i))) [(2, vP 2 0)] [(2, (.sc (U9 (mixw (sb a b) a i)), 37))], Rw 29 (vW (bw a b i)) [(6, vW (bw a b i))], Rw 30 (vB (decide (bw a b i = 1))) [(29, vW (bw a b i))], Rz [(4, vP 4 0), (28, .agg (U9 (mixw (sb a b) a i)))] [(4, (.sc (U9 0), 37))] [(4, (.sc (U9 (mixw (sb a b) a i)), 37))], Rw 5 (vB (decide (bw a b i = 1))) [(30, vB (decide (bw a b i = 1)))]] [(2, vP 2 0), (3, vP 3 0), (4, vP 4 0), (5, vB (decide (bw a b i = 1))), (6, vW (bw a b i)), (8, vI i)] [(2, (.sc (U9 (mixw (sb a b) a i)), 37)), (3, (.sc (U9 b), 37)), (4, (.sc (U9 (mixw (sb a b) a i)), 37))] ⟨tl ag37, tp, tE fun _ => d_eql _ _, ts sz37, tp, trivial⟩ ?_
  clear hE; intro γ ac wc hE
  refine wp_ret ?_
  have hi : i = 9 := by omega
  exact (end2 hE rfl (.cells 4 4 0 37 37 (U9 (mixw (sb a b) a i)) (U9 (mixw (sb a b) a i)) rfl rfl ag37 (by kernel_rfl)) (.tmp 5 (vB (decide (bw a b i = 1))) rfl) (⟨by rw [show U9 (mixw (sb a b) a i) = U9 (sb a b) by rw [hi]; exact U9_mix9 _ _, show decide (bw a b i = 1) = decide (a < b) by rw [hi]; exact decide_eq_decide.2 (bw9 ha hb)]; rfl, hE.keep.below⟩)).1
end Go.Proofs.Ytddfimfgcfgpbaa
