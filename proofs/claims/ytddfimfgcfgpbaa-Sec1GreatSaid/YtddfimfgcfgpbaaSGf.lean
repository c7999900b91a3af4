/-
  A root on a small curve.
-/
import Derived.Test.YtddfimfgcfgpbaaSTf
import Derived.Test.YtddfimfgcfgpbaaSGe
namespace Go.Proofs.Ytddfimfgcfgpbaa
open Sx
open Go.RowKit (Below)
set_option exponentiation.threshold 2000
theorem fld_root251 (gf gd : Nat) (w0 : World) (hff : w0.heap[gf]? = some (fldO 251 gd)) (hdd : w0.heap[gd]? = some (dvB 251)) : Calls Try.prog 135 #[.pointer (some ⟨gf, 0, none⟩), nv 28] w0 fun e w => e = .returned (nv 84) ∧ Below w0.heap.size w0 w := by
 refine enter_sx [(0, vX gf 0), (1, .agg (U9 28))] 118 Try.func135 rfl rfl (Nat.le_of_ble_eq_true (by kernel_rfl)) (fun γ => by kernel_rfl) ?_
 intro γ ac hE
 refine sq_t hE [Rw 3 (vP 3 0) [(1, .agg (U9 28))] [] [(3, (.sc (U9 28), 37))], Rw 4 (vP 4 0) [] [] [(4, (.sc (U9 0), 37))]] [(0, vX gf 0), (3, vP 3 0), (4, vP 4 0)] [(3, (.sc (U9 28), 37)), (4, (.sc (U9 0), 37))] ⟨tb, ta zt37, trivial⟩ ?_
 clear hE; intro γ ac wc hE
 refine sq_d hE [Rw 19 (vX gf 0) [(0, vX gf 0)], Rw 20 (vX gf 0) [(19, vX gf 0)], Rw 21 (vX gf 0) [(20, vX gf 0)], Rw 22 (.agg (U9 251)) [(21, vX gf 0)], Rw 23 (.agg (U9 1)), Rw 24 (.two (.agg (U9 250)) (vB false)) [(22, .agg (U9 251)), (23, .agg (U9 1))], Rw 18 (.two (.agg (U9 250)) (vB false)) [(24, .two (.agg (U9 250)) (vB false))], Rw 25 (.agg (U9 250)) [(18, .two (.agg (U9 250)) (vB false))], Rw 26 (vB false) [(18, .two (.agg (U9 250)) (vB false))], Rw 5 (vP 5 0) [] [] [(5, (.sc (U9 0), 37))], Rz [(5, vP 5 0), (25, .agg (U9 250))] [(5, (.sc (U9 0), 37))] [(5, (.sc (U9 250), 37))], Rw 6 (vB false) [(26, vB false)]] [(0, vX gf 0), (3, vP 3 0), (4, vP 4 0), (5, vP 5 0)] [(3, (.sc (U9 28), 37)), (4, (.sc (U9 0), 37)), (5, (.sc (U9 250), 37))] ⟨tp, tp, tp, tlx (fun w hk => hk.get hff) ag37, tq fun w => fld_one w, tq fun w => nat_Sub 251 1 (by decide) (by decide) w, tp, tp, tp, ta zt37, ts sz37, tp, trivial⟩ ?_
 clear hE; intro γ ac wc hE
 refine sq_t hE [Rw 27 (.agg (U9 250)) [(5, vP 5 0)] [(5, (.sc (U9 250), 37))], Rw 7 (vP 7 0) [] [] [(7, (.sc (U9 0), 37))], Rz [(7, vP 7 0), (27, .agg (U9 250))] [(7, (.sc (U9 0), 37))] [(7, (.sc (U9 250), 37))], Rw 8 (vI 0)] [(0, vX gf 0), (3, vP 3 0), (4, vP 4 0), (5, vP 5 0), (7, vP 7 0), (8, vI 0)] [(3, (.sc (U9 28), 37)), (4, (.sc (U9 0), 37)), (5, (.sc (U9 250), 37)), (7, (.sc (U9 250), 37))] ⟨tl ag37, ta zt37, ts sz37, tp, trivial⟩ ?_
 clear hE; intro γ ac wc hE
 refine wp_seq ?_
 refine wp_block ?_
 refine loop_sx (σ := Nat × Nat) (fun (m, j) => m) (fun (m, j) => (m = 250 ∧ j = 0) ∨ (m = 125 ∧ j = 1))
     (fun (m, j) => [(0, vX gf 0), (3, vP 3 0), (4, vP 4 0), (5, vP 5 0), (7, vP 7 0), (8, vI j)])
     (fun (m, j) => [(3, (.sc (U9 28), 37)), (4, (.sc (U9 0), 37)), (5, (.sc (U9 250), 37)), (7, (.sc (U9 m), 37))])
     ((250, 0)) ((.inl ⟨rfl, rfl⟩)) (hE.sub (by kernel_rfl) (by kernel_rfl)) ?_
 clear hE; rintro ⟨m, j⟩ γ ac wc hG hE
 replace hG : (m = 250 ∧ j = 0) ∨ (m = 125 ∧ j = 1) := hG
 replace hE : Env _ _ _ w0 (lk [(0, vX gf 0), (3, vP 3 0), (4, vP 4 0), (5, vP 5 0), (7, vP 7 0), (8, vI j)]) (lk [(3, (.sc (U9 28), 37)), (4, (.sc (U9 0), 37)), (5, (.sc (U9 250), 37)), (7, (.sc (U9 m), 37))]) γ ac wc := hE
 refine wp_seq ?_
 refine sq_t hE [Rw 28 (.agg (U9 m)) [(7, vP 7 0)] [(7, (.sc (U9 m), 37))], Rw 29 (vI (m / 2 ^ 0 % 2)) [(28, .agg (U9 m))], Rw 30 (vB (decide (m / 2 ^ 0 % 2 = 0))) [(29, vI (m / 2 ^ 0 % 2))]] [(0, vX gf 0), (3, vP 3 0), (4, vP 4 0), (5, vP 5 0), (7, vP 7 0), (8, vI j), (30, vB (decide (m / 2 ^ 0 % 2 = 0)))] [(3, (.sc (U9 28), 37)), (4, (.sc (U9 0), 37)), (5, (.sc (U9 250), 37)), (7, (.sc (U9 m), 37))] ⟨tl ag37, tq fun w => nat_Bit m 0 (by omega) (by omega) w, tE fun _ => d_eql _ _, trivial⟩ ?_
 clear hE; intro γ ac wc hE
 refine cond_sx hE rfl (fun hb1 => ?_) (fun hb1 => ?_)
 ·
  have hb1p := of_decide_eq_true hb1
  have hm : m = 250 := hG.elim (fun h => h.1) (fun h => absurd hb1p (by simp [h.1]))
  refine wp_skip ?_
  refine then_normal ?_
  refine wp_block ?_
  refine rg_t hE [Rw 31 (.agg (U9 m)) [(7, vP 7 0)] [(7, (.sc (U9 m), 37))], Rw 32 (.agg (U9 (m / 2))) [(31, .agg (U9 m))], Rw 33 (vI j) [(8, vI j)], Rw 34 (vI (j + 1)) [(33, vI j)], Rz [(7, vP 7 0), (32, .agg (U9 (m / 2)))] [(7, (.sc (U9 m), 37))] [(7, (.sc (U9 (m / 2)), 37))], Rw 8 (vI (j + 1)) [(34, vI (j + 1))]] [(0, vX gf 0), (3, vP 3 0), (4, vP 4 0), (5, vP 5 0), (7, vP 7 0), (8, vI (j + 1))] [(3, (.sc (U9 28), 37)), (4, (.sc (U9 0), 37)), (5, (.sc (U9 250), 37)), (7, (.sc (U9 (m / 2)), 37))] ⟨tl ag37, tq fun w => fld_half m (by omega) w, tp, tE fun _ => wi_add, ts sz37, tp, trivial⟩ ?_
  clear hE; intro γ ac wc hE
  refine blk_normal ?_
  refine then_normal ⟨(m / 2, j + 1), (by show m / 2 < m; omega), (.inr (by show m / 2 = 125 ∧ j + 1 = 1; omega)), _, hE.sub (by kernel_rfl) (by kernel_rfl)⟩
 ·
  have hb1p := of_decide_eq_false hb1
  have hmj : m = 125 ∧ j = 1 := hG.elim (fun h => absurd (show m / 2 ^ 0 % 2 = 0 by simp [h.1]) hb1p) id
  obtain ⟨rfl, rfl⟩ := hmj
  refine wp_exit ?_
  refine then_exit ?_
  refine then_exit ?_
  refine blk_hit ?_
  refine then_normal ?_
  refine sq_t hE [Rw 35 (.agg (U9 2)), Rw 9 (vP 9 0) [] [] [(9, (.sc (U9 0), 37))], Rz [(9, vP 9 0), (35, .agg (U9 2))] [(9, (.sc (U9 0), 37))] [(9, (.sc (U9 2), 37))]] [(0, vX gf 0), (3, vP 3 0), (4, vP 4 0), (5, vP 5 0), (7, vP 7 0), (8, vI 1), (9, vP 9 0)] [(3, (.sc (U9 28), 37)), (4, (.sc (U9 0), 37)), (5, (.sc (U9 250), 37)), (7, (.sc (U9 125), 37)), (9, (.sc (U9 2), 37))] ⟨tq fun w => nat_Small 2 (by omega) w, ta zt37, ts sz37, trivial⟩ ?_
  clear hE; intro γ ac wc hE
  refine wp_seq ?_
  refine wp_block ?_
  refine loop_sx (σ := Unit) (fun _u => 0) (fun _u => True)
      (fun _u => [(0, vX gf 0), (3, vP 3 0), (4, vP 4 0), (5, vP 5 0), (7, vP 7 0), (8, vI 1), (9, vP 9 0)])
      (fun _u => [(3, (.sc (U9 28), 37)), (4, (.sc (U9 0), 37)), (5, (.sc (U9 250), 37)), (7, (.sc (U9 125), 37)), (9, (.sc (U9 2), 37))])
      (()) (trivial) (hE.sub (by kernel_rfl) (by kernel_rfl)) ?_
  clear hE; intro _u γ ac wc hG hE
  refine wp_seq ?_
  refine sq_d hE [Rw 36 (vX gf 0) [(0, vX gf 0)], Rw 37 (vX gf 0) [(36, vX gf 0)], Rw 38 (vX gf 9) [(37, vX gf 0)], Rw 39 (.agg [(.v (.pointer (some ⟨gd, 0, none⟩)))]) [(38, vX gf 9)], Rw 40 (.agg (U9 2)) [(9, vP 9 0)] [(9, (.sc (U9 2), 37))], Rw 41 (.agg (U9 250)) [(5, vP 5 0)] [(5, (.sc (U9 250), 37))], Rw 42 (.agg (U9 125)) [(41, .agg (U9 250))], Rw 43 (.agg (U9 250)) [(39, .agg [(.v (.pointer (some ⟨gd, 0, none⟩)))]), (40, .agg (U9 2)), (42, .agg (U9 125))], Rw 44 (.agg (U9 250)) [(5, vP 5 0)] [(5, (.sc (U9 250), 37))], Rw 45 (vB false) [(43, .agg (U9 250)), (44, .agg (U9 250))]] [(0, vX gf 0), (3, vP 3 0), (4, vP 4 0), (5, vP 5 0), (7, vP 7 0), (8, vI 1), (9, vP 9 0), (45, vB false)] [(3, (.sc (U9 28), 37)), (4, (.sc (U9 0), 37)), (5, (.sc (U9 250), 37)), (7, (.sc (U9 125), 37)), (9, (.sc (U9 2), 37))] ⟨tp, tp, tp, tlx (fun w hk => hk.get hff) ag151, tl ag37, tl ag37, tq fun w => fld_half 250 (by decide) w, tt fun γ w hk hf hks => div_Pow gd 251 (251 * 2 ^ dvS 251) (nw 251) (dvS 251) 2 125 (dvOk (by decide) (by decide)) (by decide) (by decide) (by decide) w (hk.get hdd), tl ag37, te_natn 250 250 (by decide) (by decide), trivial⟩ ?_
  clear hE; intro γ ac wc hE
  refine cond_sx hE rfl (fun h => by cases h) (fun _ => ?_)
  refine wp_exit ?_
  refine then_exit ?_
  refine then_exit ?_
  refine blk_hit ?_
  refine then_normal ?_
  refine sq_d hE [Rw 51 (.agg (U9 125)) [(7, vP 7 0)] [(7, (.sc (U9 125), 37))], Rw 52 (.agg (U9 1)), Rw 53 (.two (.agg (U9 126)) (vB false)) [(51, .agg (U9 125)), (52, .agg (U9 1))], Rw 50 (.two (.agg (U9 126)) (vB false)) [(53, .two (.agg (U9 126)) (vB false))], Rw 54 (.agg (U9 126)) [(50, .two (.agg (U9 126)) (vB false))], Rw 55 (vB false) [(50, .two (.agg (U9 126)) (vB false))], Rw 10 (vP 10 0) [] [] [(10, (.sc (U9 0), 37))], Rz [(10, vP 10 0), (54, .agg (U9 126))] [(10, (.sc (U9 0), 37))] [(10, (.sc (U9 126), 37))], Rw 11 (vB false) [(55, vB false)]] [(0, vX gf 0), (3, vP 3 0), (4, vP 4 0), (5, vP 5 0), (7, vP 7 0), (8, vI 1), (9, vP 9 0), (10, vP 10 0)] [(3, (.sc (U9 28), 37)), (4, (.sc (U9 0), 37)), (5, (.sc (U9 250), 37)), (7, (.sc (U9 125), 37)), (9, (.sc (U9 2), 37)), (10, (.sc (U9 126), 37))] ⟨tl ag37, tq fun w => fld_one w, tq fun w => nat_Add 125 1 (by decide) (by decide) w, tp, tp, tp, ta zt37, ts sz37, tp, trivial⟩ ?_
  clear hE; intro γ ac wc hE
  refine sq_d hE [Rw 56 (vX gf 0) [(0, vX gf 0)], Rw 57 (vX gf 0) [(56, vX gf 0)], Rw 58 (vX gf 9) [(57, vX gf 0)], Rw 59 (.agg [(.v (.pointer (some ⟨gd, 0, none⟩)))]) [(58, vX gf 9)], Rw 60 (.agg (U9 2)) [(9, vP 9 0)] [(9, (.sc (U9 2), 37))], Rw 61 (.agg (U9 125)) [(7, vP 7 0)] [(7, (.sc (U9 125), 37))], Rw 62 (.agg (U9 250)) [(59, .agg [(.v (.pointer (some ⟨gd, 0, none⟩)))]), (60, .agg (U9 2)), (61, .agg (U9 125))], Rw 63 (vX gf 0) [(0, vX gf 0)], Rw 64 (vX gf 0) [(63, vX gf 0)], Rw 65 (vX gf 9) [(64, vX gf 0)], Rw 66 (.agg [(.v (.pointer (some ⟨gd, 0, none⟩)))]) [(65, vX gf 9)], Rw 67 (.agg (U9 28)) [(3, vP 3 0)] [(3, (.sc (U9 28), 37))], Rw 68 (.agg (U9 126)) [(10, vP 10 0)] [(10, (.sc (U9 126), 37))], Rw 69 (.agg (U9 63)) [(68, .agg (U9 126))], Rw 70 (.agg (U9 84)) [(66, .agg [(.v (.pointer (some ⟨gd, 0, none⟩)))]), (67, .agg (U9 28)), (69, .agg (U9 63))], Rw 71 (vX gf 0) [(0, vX gf 0)], Rw 72 (vX gf 0) [(71, vX gf 0)], Rw 73 (vX gf 9) [(72, vX gf 0)], Rw 74 (.agg [(.v (.pointer (some ⟨gd, 0, none⟩)))]) [(73, vX gf 9)], Rw 75 (.agg (U9 28)) [(3, vP 3 0)] [(3, (.sc (U9 28), 37))], Rw 76 (.agg (U9 125)) [(7, vP 7 0)] [(7, (.sc (U9 125), 37))], Rw 77 (.agg (U9 1)) [(74, .agg [(.v (.pointer (some ⟨gd, 0, none⟩)))]), (75, .agg (U9 28)), (76, .agg (U9 125))], Rw 12 (vP 12 0) [] [] [(12, (.sc (U9 0), 37))], Rw 13 (vP 13 0) [] [] [(13, (.sc (U9 0), 37))], Rw 14 (vP 14 0) [] [] [(14, (.sc (U9 0), 37))], Rz [(12, vP 12 0), (62, .agg (U9 250))] [(12, (.sc (U9 0), 37))] [(12, (.sc (U9 250), 37))], Rz [(13, vP 13 0), (70, .agg (U9 84))] [(13, (.sc (U9 0), 37))] [(13, (.sc (U9 84), 37))], Rz [(14, vP 14 0), (77, .agg (U9 1))] [(14, (.sc (U9 0), 37))] [(14, (.sc (U9 1), 37))]] [(0, vX gf 0), (4, vP 4 0), (5, vP 5 0), (7, vP 7 0), (8, vI 1), (9, vP 9 0), (10, vP 10 0), (12, vP 12 0), (13, vP 13 0), (14, vP 14 0)] [(3, (.sc (U9 28), 37)), (4, (.sc (U9 0), 37)), (5, (.sc (U9 250), 37)), (7, (.sc (U9 125), 37)), (9, (.sc (U9 2), 37)), (10, (.sc (U9 126), 37)), (12, (.sc (U9 250), 37)), (13, (.sc (U9 84), 37)), (14, (.sc (U9 1), 37))] ⟨tp, tp, tp, tlx (fun w hk => hk.get hff) ag151, tl ag37, tl ag37, tt fun γ w hk hf hks => div_Pow gd 251 (251 * 2 ^ dvS 251) (nw 251) (dvS 251) 2 125 (dvOk (by decide) (by decide)) (by decide) (by decide) (by decide) w (hk.get hdd), tp, tp, tp, tlx (fun w hk => hk.get hff) ag151, tl ag37, tl ag37, tq fun w => fld_half 126 (by decide) w, tt fun γ w hk hf hks => div_Pow gd 251 (251 * 2 ^ dvS 251) (nw 251) (dvS 251) 28 63 (dvOk (by decide) (by decide)) (by decide) (by decide) (by decide) w (hk.get hdd), tp, tp, tp, tlx (fun w hk => hk.get hff) ag151, tl ag37, tl ag37, tt fun γ w hk hf hks => div_Pow gd 251 (251 * 2 ^ dvS 251) (nw 251) (dvS 251) 28 125 (dvOk (by decide) (by decide)) (by decide) (by decide) (by decide) w (hk.get hdd), ta zt37, ta zt37, ta zt37, ts sz37, ts sz37, ts sz37, trivial⟩ ?_
  clear hE; intro γ ac wc hE
  refine wp_seq ?_
  refine wp_block ?_
  refine loop_sx (σ := Unit) (fun _u => 0) (fun _u => True)
      (fun _u => [(0, vX gf 0), (4, vP 4 0), (5, vP 5 0), (7, vP 7 0), (8, vI 1), (9, vP 9 0), (10, vP 10 0), (12, vP 12 0), (13, vP 13 0), (14, vP 14 0)])
      (fun _u => [(3, (.sc (U9 28), 37)), (4, (.sc (U9 0), 37)), (5, (.sc (U9 250), 37)), (7, (.sc (U9 125), 37)), (9, (.sc (U9 2), 37)), (10, (.sc (U9 126), 37)), (12, (.sc (U9 250), 37)), (13, (.sc (U9 84), 37)), (14, (.sc (U9 1), 37))])
      (()) (trivial) (hE.sub (by kernel_rfl) (by kernel_rfl)) ?_
  clear hE; intro _u γ ac wc hG hE
  refine wp_seq ?_
  refine sq_d hE [Rw 78 (.agg (U9 1)) [(14, vP 14 0)] [(14, (.sc (U9 1), 37))], Rw 79 (.agg (U9 1)), Rw 80 (vB false) [(78, .agg (U9 1)), (79, .agg (U9 1))]] [(0, vX gf 0), (4, vP 4 0), (5, vP 5 0), (7, vP 7 0), (8, vI 1), (9, vP 9 0), (10, vP 10 0), (12, vP 12 0), (13, vP 13 0), (14, vP 14 0), (80, vB false)] [(3, (.sc (U9 28), 37)), (4, (.sc (U9 0), 37)), (5, (.sc (U9 250), 37)), (7, (.sc (U9 125), 37)), (9, (.sc (U9 2), 37)), (10, (.sc (U9 126), 37)), (12, (.sc (U9 250), 37)), (13, (.sc (U9 84), 37)), (14, (.sc (U9 1), 37))] ⟨tl ag37, tq fun w => fld_one w, te_natn 1 1 (by decide) (by decide), trivial⟩ ?_
  clear hE; intro γ ac wc hE
  refine cond_sx hE rfl (fun h => by cases h) (fun _ => ?_)
  refine wp_exit ?_
  refine then_exit ?_
  refine then_exit ?_
  refine blk_hit ?_
  refine then_normal ?_
  refine sq_t hE [Rw 117 (.agg (U9 84)) [(13, vP 13 0)] [(13, (.sc (U9 84), 37))], Rz [(4, vP 4 0), (117, .agg (U9 84))] [(4, (.sc (U9 0), 37))] [(4, (.sc (U9 84), 37))]] [(0, vX gf 0), (4, vP 4 0), (5, vP 5 0), (7, vP 7 0), (8, vI 1), (9, vP 9 0), (10, vP 10 0), (12, vP 12 0), (13, vP 13 0), (14, vP 14 0)] [(3, (.sc (U9 28), 37)), (4, (.sc (U9 84), 37)), (5, (.sc (U9 250), 37)), (7, (.sc (U9 125), 37)), (9, (.sc (U9 2), 37)), (10, (.sc (U9 126), 37)), (12, (.sc (U9 250), 37)), (13, (.sc (U9 84), 37)), (14, (.sc (U9 1), 37))] ⟨tl ag37, ts sz37, trivial⟩ ?_
  clear hE; intro γ ac wc hE
  refine wp_ret ?_
  exact (end1 hE rfl (.cells 4 4 0 37 37 (U9 84) (U9 84) rfl rfl ag37 (by kernel_rfl)) (⟨rfl, hE.keep.below⟩)).1
theorem fld_Sqrt251 (gf gd : Nat) (w0 : World) (hff : w0.heap[gf]? = some (fldO 251 gd)) (hdd : w0.heap[gd]? = some (dvB 251)) : Calls Try.prog 108 #[.pointer (some ⟨gf, 0, none⟩), nv 28] w0 fun e w => e = .returned (.tuple #[nv 84, .bool true]) ∧ Below w0.heap.size w0 w := by
 refine enter_sx [(0, vX gf 0), (1, .agg (U9 28))] 44 Try.func108 rfl rfl (Nat.le_of_ble_eq_true (by kernel_rfl)) (fun γ => by kernel_rfl) ?_
 intro γ ac hE
 refine sq_t hE [Rw 3 (vP 3 0) [(1, .agg (U9 28))] [] [(3, (.sc (U9 28), 37))], Rw 4 (vP 4 0) [] [] [(4, (.sc (U9 0), 37))], Rw 5 (vB false)] [(0, vX gf 0), (3, vP 3 0), (4, vP 4 0), (5, vB false)] [(3, (.sc (U9 28), 37)), (4, (.sc (U9 0), 37))] ⟨tb, ta zt37, tp, trivial⟩ ?_
 clear hE; intro γ ac wc hE
 refine wp_seq ?_
 refine sq_t hE [Rw 9 (.agg (U9 28)) [(3, vP 3 0)] [(3, (.sc (U9 28), 37))], Rw 10 (.agg (U9 0)), Rw 11 (vB false) [(9, .agg (U9 28)), (10, .agg (U9 0))]] [(0, vX gf 0), (3, vP 3 0), (4, vP 4 0), (5, vB false), (11, vB false)] [(3, (.sc (U9 28), 37)), (4, (.sc (U9 0), 37))] ⟨tl ag37, tp, te_nat 28 0 (by decide) (by decide), trivial⟩ ?_
 clear hE; intro γ ac wc hE
 refine cond_sx hE rfl (fun h => by cases h) (fun _ => ?_)
 refine wp_skip ?_
 refine then_normal ?_
 refine sq_d hE [Rw 14 (vX gf 0) [(0, vX gf 0)], Rw 15 (vX gf 0) [(14, vX gf 0)], Rw 16 (vX gf 0) [(15, vX gf 0)], Rw 17 (.agg (U9 251)) [(16, vX gf 0)], Rw 18 (.agg (U9 1)), Rw 19 (.two (.agg (U9 250)) (vB false)) [(17, .agg (U9 251)), (18, .agg (U9 1))], Rw 13 (.two (.agg (U9 250)) (vB false)) [(19, .two (.agg (U9 250)) (vB false))], Rw 20 (.agg (U9 250)) [(13, .two (.agg (U9 250)) (vB false))], Rw 21 (vB false) [(13, .two (.agg (U9 250)) (vB false))], Rw 6 (vP 6 0) [] [] [(6, (.sc (U9 0), 37))], Rz [(6, vP 6 0), (20, .agg (U9 250))] [(6, (.sc (U9 0), 37))] [(6, (.sc (U9 250), 37))], Rw 7 (vB false) [(21, vB false)]] [(0, vX gf 0), (3, vP 3 0), (4, vP 4 0), (5, vB false), (6, vP 6 0)] [(3, (.sc (U9 28), 37)), (4, (.sc (U9 0), 37)), (6, (.sc (U9 250), 37))] ⟨tp, tp, tp, tlx (fun w hk => hk.get hff) ag37, tq fun w => fld_one w, tq fun w => nat_Sub 251 1 (by decide) (by decide) w, tp, tp, tp, ta zt37, ts sz37, tp, trivial⟩ ?_
 clear hE; intro γ ac wc hE
 refine wp_seq ?_
 refine sq_d hE [Rw 22 (vX gf 0) [(0, vX gf 0)], Rw 23 (vX gf 0) [(22, vX gf 0)], Rw 24 (vX gf 9) [(23, vX gf 0)], Rw 25 (.agg [(.v (.pointer (some ⟨gd, 0, none⟩)))]) [(24, vX gf 9)], Rw 26 (.agg (U9 28)) [(3, vP 3 0)] [(3, (.sc (U9 28), 37))], Rw 27 (.agg (U9 250)) [(6, vP 6 0)] [(6, (.sc (U9 250), 37))], Rw 28 (.agg (U9 125)) [(27, .agg (U9 250))], Rw 29 (.agg (U9 1)) [(25, .agg [(.v (.pointer (some ⟨gd, 0, none⟩)))]), (26, .agg (U9 28)), (28, .agg (U9 125))], Rw 30 (.agg (U9 1)), Rw 31 (vB false) [(29, .agg (U9 1)), (30, .agg (U9 1))]] [(0, vX gf 0), (3, vP 3 0), (4, vP 4 0), (5, vB false), (6, vP 6 0), (31, vB false)] [(3, (.sc (U9 28), 37)), (4, (.sc (U9 0), 37)), (6, (.sc (U9 250), 37))] ⟨tp, tp, tp, tlx (fun w hk => hk.get hff) ag151, tl ag37, tl ag37, tq fun w => fld_half 250 (by decide) w, tt fun γ w hk hf hks => div_Pow gd 251 (251 * 2 ^ dvS 251) (nw 251) (dvS 251) 28 125 (dvOk (by decide) (by decide)) (by decide) (by decide) (by decide) w (hk.get hdd), tq fun w => fld_one w, te_natn 1 1 (by decide) (by decide), trivial⟩ ?_
 clear hE; intro γ ac wc hE
 refine cond_sx hE rfl (fun h => by cases h) (fun _ => ?_)
 refine wp_skip ?_
 refine then_normal ?_
 refine sq_t hE [Rw 33 (vX gf 0) [(0, vX gf 0)], Rw 34 (.agg (U9 28)) [(3, vP 3 0)] [(3, (.sc (U9 28), 37))], Rw 35 (.agg (U9 84)) [(33, vX gf 0), (34, .agg (U9 28))], Rw 8 (vP 8 0) [] [] [(8, (.sc (U9 0), 37))], Rz [(8, vP 8 0), (35, .agg (U9 84))] [(8, (.sc (U9 0), 37))] [(8, (.sc (U9 84), 37))]] [(0, vX gf 0), (3, vP 3 0), (4, vP 4 0), (5, vB false), (6, vP 6 0), (8, vP 8 0)] [(3, (.sc (U9 28), 37)), (4, (.sc (U9 0), 37)), (6, (.sc (U9 250), 37)), (8, (.sc (U9 84), 37))] ⟨tp, tl ag37, tt fun γ w hk hf hks => fld_root251 gf gd w (hk.get hff) (hk.get hdd), ta zt37, ts sz37, trivial⟩ ?_
 clear hE; intro γ ac wc hE
 refine wp_seq ?_
 refine sq_t hE [Rw 36 (.agg (U9 84)) [(8, vP 8 0)] [(8, (.sc (U9 84), 37))], Rw 37 (vI 0) [(36, .agg (U9 84))], Rw 38 (vB false) [(37, vI 0)]] [(0, vX gf 0), (3, vP 3 0), (4, vP 4 0), (5, vB false), (6, vP 6 0), (8, vP 8 0), (38, vB false)] [(3, (.sc (U9 28), 37)), (4, (.sc (U9 0), 37)), (6, (.sc (U9 250), 37)), (8, (.sc (U9 84), 37))] ⟨tl ag37, tq fun w => nat_Bit 84 0 (by decide) (by omega) w, tp, trivial⟩ ?_
 clear hE; intro γ ac wc hE
 refine cond_sx hE rfl (fun h => by cases h) (fun _ => ?_)
 refine wp_skip ?_
 refine then_normal ?_
 refine sq_t hE [Rw 43 (.agg (U9 84)) [(8, vP 8 0)] [(8, (.sc (U9 84), 37))], Rz [(4, vP 4 0), (43, .agg (U9 84))] [(4, (.sc (U9 0), 37))] [(4, (.sc (U9 84), 37))], Rw 5 (vB true)] [(0, vX gf 0), (3, vP 3 0), (4, vP 4 0), (5, vB true), (6, vP 6 0), (8, vP 8 0)] [(3, (.sc (U9 28), 37)), (4, (.sc (U9 84), 37)), (6, (.sc (U9 250), 37)), (8, (.sc (U9 84), 37))] ⟨tl ag37, ts sz37, tp, trivial⟩ ?_
 clear hE; intro γ ac wc hE
 refine wp_ret ?_
 exact (end2 hE rfl (.cells 4 4 0 37 37 (U9 84) (U9 84) rfl rfl ag37 (by kernel_rfl)) (.tmp 5 (vB true) rfl) (⟨rfl, hE.keep.below⟩)).1
end Go.Proofs.Ytddfimfgcfgpbaa
