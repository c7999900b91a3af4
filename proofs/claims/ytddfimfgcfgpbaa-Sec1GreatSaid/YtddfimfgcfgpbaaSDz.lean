/-
  Quotients, rests, products, powers and inverses modulo a number.
-/
import Derived.Test.YtddfimfgcfgpbaaSTf
import Derived.Test.YtddfimfgcfgpbaaSDy
import Derived.Test.YtddfimfgcfgpbaaSWp
import Derived.Test.YtddfimfgcfgpbaaSXe
namespace Go.Proofs.Ytddfimfgcfgpbaa
open Sx
open Go.RowKit (Below)
set_option exponentiation.threshold 2000
theorem dvO_obj (γ : Nat → Nat) (M n s : Nat) : Ct.obj γ (.sc (U9 M ++ [inN .i64 n, inN .i64 s]), 204) = dvO M n s := by kernel_rfl
theorem U9_obj (γ : Nat → Nat) (x T : Nat) : Ct.obj γ (.sc (U9 x), T) = .cells ((U9 x).map (Sc.den fun _ => 0)).toArray T (0, 0) := by kernel_rfl
theorem Un_obj (γ : Nat → Nat) (n x T : Nat) : Ct.obj γ (.sc (Un n x), T) = .cells ((Un n x).map (Sc.den fun _ => 0)).toArray T (0, 0) := by rw [Ct.obj, Cn.cs, Un_den γ]
theorem ret_ptr {e : Ending} (γ : Nat → Nat) (k g : Nat) (h : e = .returned (.pointer (some ⟨g, 0, none⟩))) : e = .returned (SV.den (nm γ k g) (.s (.ptr k 0))) := by rw [h, SV.den, Sc.den, nm_self]
theorem ret_mod {e : Ending} (γ : Nat → Nat) (k g : Nat) (h : e = .returned (.agg #[.pointer (some ⟨g, 0, none⟩)])) : e = .returned (SV.den (nm γ k g) (.agg [.ptr k 0])) := by
  rw [h]; simp [SV.den, Sc.den, nm_self]
theorem pow_start (a e m : Nat) : 1 * 1 % m = a ^ (e / 2 ^ bl e) % m := by rw [Nat.div_eq_of_lt (lt_bl e)]; rfl
theorem pow_bit {a e m j : Nat} (hj : 0 < j) : a ^ (e / 2 ^ (j - 1)) = a ^ (e / 2 ^ j) * a ^ (e / 2 ^ j) * a ^ (e / 2 ^ (j - 1) % 2) ∧ (e / 2 ^ (j - 1) % 2 < 2) ∧ m = m := by
  refine ⟨?_, Nat.mod_lt _ (by decide), rfl⟩
  have h : e / 2 ^ j = e / 2 ^ (j - 1) / 2 := by
    rw [Nat.div_div_eq_div_mul, ← Nat.pow_succ]; congr 2; omega
  rw [h, ← Nat.pow_add, ← Nat.pow_add]
  congr 1
  omega
theorem pow_s0 {a e m j : Nat} (hj : 0 < j) (h : ¬ (e / 2 ^ (j - 1) % 2 = 1)) : a ^ (e / 2 ^ j) % m * (a ^ (e / 2 ^ j) % m) % m = a ^ (e / 2 ^ (j - 1)) % m := by
  have hb := pow_bit (a := a) (e := e) (m := m) hj
  rw [hb.1, show e / 2 ^ (j - 1) % 2 = 0 by omega, Nat.pow_zero, Nat.mul_one, ← Nat.mul_mod]
theorem pow_s1 {a e m j : Nat} (hj : 0 < j) (h : e / 2 ^ (j - 1) % 2 = 1) : a ^ (e / 2 ^ j) % m * (a ^ (e / 2 ^ j) % m) % m * a % m = a ^ (e / 2 ^ (j - 1)) % m := by
  have hb := pow_bit (a := a) (e := e) (m := m) hj
  rw [hb.1, h, Nat.pow_one, ← Nat.mul_mod, Nat.mod_mul_mod]
theorem mul_1152 {a b : Nat} (ha : a < 2 ^ 576) (hb : b < 2 ^ 576) : a * b < 2 ^ (64 * 18) := by
  rw [show 64 * 18 = 576 + 576 from rfl, Nat.pow_add]
  exact Nat.lt_of_le_of_lt (Nat.mul_le_mul_right _ (Nat.le_of_lt ha)) (Nat.mul_lt_mul_of_pos_left hb (Nat.pow_pos (by decide)))
theorem div_By (m : Nat) (h0 : 0 < m) (hm : m < 2 ^ 576) (w0 : World) : Calls Try.prog 127 #[nv m] w0 fun e w => ∃ gd, e = .returned (.agg #[.pointer (some ⟨gd, 0, none⟩)]) ∧ w0.heap.size ≤ gd ∧ w.heap[gd]? = some (dvO (m * 2 ^ dvS m) (nw m) (dvS m)) ∧ Below w0.heap.size w0 w := by
 refine enter_sx [(0, .agg (U9 m))] 5 Try.func127 rfl rfl (Nat.le_of_ble_eq_true (by kernel_rfl)) (fun γ => by kernel_rfl) ?_
 intro γ ac hE
 refine sq_t hE [Rw 1 (vP 1 0) [(0, .agg (U9 m))] [] [(1, (.sc (U9 m), 37))], Rw 2 (vP 2 0) [] [] [(2, (.sc [(.v (.pointer none))], 151))]] [(1, vP 1 0), (2, vP 2 0)] [(1, (.sc (U9 m), 37)), (2, (.sc [(.v (.pointer none))], 151))] ⟨tb, ta zt151, trivial⟩ ?_
 clear hE; intro γ ac wc hE
 refine sq_t hE [Rw 3 (vP 3 0) [(1, vP 1 0)] [(1, (.sc (U9 m), 37))] [(3, (.sc (U9 (m * 2 ^ dvS m) ++ [(iN (nw m)), (iN (dvS m))]), 204))], Rw 4 (.agg [(.ptr 3 0)]) [(3, vP 3 0)], Rz [(2, vP 2 0), (4, .agg [(.ptr 3 0)])] [(2, (.sc [(.v (.pointer none))], 151))] [(2, (.sc [(.ptr 3 0)], 151))]] [(2, vP 2 0)] [(1, (.sc (U9 m), 37)), (2, (.sc [(.ptr 3 0)], 151)), (3, (.sc (U9 (m * 2 ^ dvS m) ++ [(iN (nw m)), (iN (dvS m))]), 204))] ⟨tc fun γ w hk hf hks => (div_of _ m (by omega) (by omega) w ((Ct.sc_at (hks _ (.head _))).trans (congrArg some (U9_obj γ _ _)))).mono (fun e w' ⟨g, h1, h2, h3, h4⟩ => ⟨nm γ 3 g, Eff.fresh1 3 _ rfl rfl h2 h4 (h3.trans (congrArg some (dvO_obj (nm γ 3 g) _ _ _).symm)), ret_ptr γ 3 g h1⟩), tp, ts sz151, trivial⟩ ?_
 clear hE; intro γ ac wc hE
 refine wp_ret ?_
 have hh := Ct.sc_at (hE.heap 3 _ rfl)
 have hO := hE.new (k := 3) rfl
 exact (end1 hE rfl (.cells 2 2 0 151 151 [(.ptr 3 0)] [(.ptr 3 0)] rfl rfl ag151 (by kernel_rfl)) (⟨γ 3, rfl, hO, hh.trans (congrArg some (dvO_obj γ _ _ _)), hE.keep.below⟩)).1
theorem div_Mul (gd m M n s a b : Nat) (D : DvOk m M n s) (ha : a < 2 ^ 576) (hb : b < 2 ^ 576) (w0 : World) (hd : w0.heap[gd]? = some (dvO M n s)) : Calls Try.prog 136 #[.agg #[.pointer (some ⟨gd, 0, none⟩)], nv a, nv b] w0 fun e w => e = .returned (nv (a * b % m)) ∧ Below w0.heap.size w0 w := by
 have hgd := lt_heap hd
 refine enter_sx [(0, .agg [(.v (.pointer (some ⟨gd, 0, none⟩)))]), (1, .agg (U9 a)), (2, .agg (U9 b))] 25 Try.func136 rfl rfl (Nat.le_of_ble_eq_true (by kernel_rfl)) (fun γ => by kernel_rfl) ?_
 intro γ ac hE
 refine sq_t hE [Rw 3 (vP 3 0) [(0, .agg [(.v (.pointer (some ⟨gd, 0, none⟩)))])] [] [(3, (.sc [(.v (.pointer (some ⟨gd, 0, none⟩)))], 151))], Rw 4 (vP 4 0) [(1, .agg (U9 a))] [] [(4, (.sc (U9 a), 37))], Rw 5 (vP 5 0) [(2, .agg (U9 b))] [] [(5, (.sc (U9 b), 37))], Rw 6 (vP 6 0) [] [] [(6, (.sc (U9 0), 37))]] [(3, vP 3 0), (4, vP 4 0), (5, vP 5 0), (6, vP 6 0)] [(3, (.sc [(.v (.pointer (some ⟨gd, 0, none⟩)))], 151)), (4, (.sc (U9 a), 37)), (5, (.sc (U9 b), 37)), (6, (.sc (U9 0), 37))] ⟨tb, tb, tb, ta zt37, trivial⟩ ?_
 clear hE; intro γ ac wc hE
 refine sq_t hE [Rw 10 (.agg (U9 a)) [(4, vP 4 0)] [(4, (.sc (U9 a), 37))], Rw 11 (.agg (U9 b)) [(5, vP 5 0)] [(5, (.sc (U9 b), 37))], Rw 12 (.agg (Un 18 (a * b))) [(10, .agg (U9 a)), (11, .agg (U9 b))], Rw 7 (vP 7 0) [] [] [(7, (.sc (Un 18 0), 194))], Rz [(7, vP 7 0), (12, .agg (Un 18 (a * b)))] [(7, (.sc (Un 18 0), 194))] [(7, (.sc (Un 18 (a * b)), 194))]] [(3, vP 3 0), (6, vP 6 0), (7, vP 7 0)] [(3, (.sc [(.v (.pointer (some ⟨gd, 0, none⟩)))], 151)), (4, (.sc (U9 a), 37)), (5, (.sc (U9 b), 37)), (6, (.sc (U9 0), 37)), (7, (.sc (Un 18 (a * b)), 194))] ⟨tl ag37, tl ag37, tq fun w => nat_Mul a b (by omega) (by omega) w, ta zt194, ts sz194, trivial⟩ ?_
 clear hE; intro γ ac wc hE
 refine sq_d hE [Rw 14 (vP 3 0) [(3, vP 3 0)], Rw 15 (vX gd 0) [(14, vP 3 0)] [(3, (.sc [(.v (.pointer (some ⟨gd, 0, none⟩)))], 151))], Rw 16 (vP 7 0) [(7, vP 7 0)], Rw 17 (vP 7 0) [(7, vP 7 0)], Rw 18 (.s (.sl 7 0 18 18)) [(17, vP 7 0)], Rw 19 (vI (nwk (a * b) 18)) [(18, .s (.sl 7 0 18 18))] [(7, (.sc (Un 18 (a * b)), 194))], Rw 20 (.s (.sl 7 0 (nwk (a * b) 18) 18)) [(16, vP 7 0), (19, vI (nwk (a * b) 18))], Rw 21 (.two (.agg (Un 18 ((a * b) / m))) (.agg (U9 ((a * b) % m)))) [(15, vX gd 0), (20, .s (.sl 7 0 (nwk (a * b) 18) 18))] [(7, (.sc (Un 18 (a * b)), 194))], Rw 13 (.two (.agg (Un 18 ((a * b) / m))) (.agg (U9 ((a * b) % m)))) [(21, .two (.agg (Un 18 ((a * b) / m))) (.agg (U9 ((a * b) % m))))], Rw 22 (.agg (Un 18 ((a * b) / m))) [(13, .two (.agg (Un 18 ((a * b) / m))) (.agg (U9 ((a * b) % m))))], Rw 23 (.agg (U9 ((a * b) % m))) [(13, .two (.agg (Un 18 ((a * b) / m))) (.agg (U9 ((a * b) % m))))], Rw 8 (vP 8 0) [] [] [(8, (.sc (Un 18 0), 194))], Rw 9 (vP 9 0) [] [] [(9, (.sc (U9 0), 37))], Rz [(8, vP 8 0), (22, .agg (Un 18 ((a * b) / m)))] [(8, (.sc (Un 18 0), 194))] [(8, (.sc (Un 18 ((a * b) / m)), 194))], Rz [(9, vP 9 0), (23, .agg (U9 ((a * b) % m)))] [(9, (.sc (U9 0), 37))] [(9, (.sc (U9 ((a * b) % m)), 37))]] [(6, vP 6 0), (7, vP 7 0), (9, vP 9 0)] [(3, (.sc [(.v (.pointer (some ⟨gd, 0, none⟩)))], 151)), (4, (.sc (U9 a), 37)), (5, (.sc (U9 b), 37)), (6, (.sc (U9 0), 37)), (7, (.sc (Un 18 (a * b)), 194)), (8, (.sc (Un 18 ((a * b) / m)), 194)), (9, (.sc (U9 ((a * b) % m)), 37))] ⟨tp, tl1 on149, tp, tp, tp, tt fun γ w hk hf hks => div_length (γ 7) (a * b) 18 18 194 (Un 18 (a * b)) (by decide) (fun i h => Un_get h) w ((Ct.sc_at (hks _ (.head _))).trans (congrArg some (Un_obj γ _ _ _))), trip_slhi 16 19 7 0 (nwk (a * b) 18) 18 192 rfl rfl rfl rfl rfl rfl rfl ar192 (nwk_le _ _) (by decide) rfl, tt fun γ w hk hf hks => div_divide gd (γ 7) (a * b) m M n s (nwk (a * b) 18) 18 194 (Un 18 (a * b)) D (nwk_le _ _) (nwk_lt (mul_1152 ha hb)) (fun i h => Un_get (Nat.lt_of_lt_of_le h (nwk_le _ _))) w (hk.get hd) ((Ct.sc_at (hks _ (.head _))).trans (congrArg some (Un_obj γ _ _ _))), tp, tp, tp, ta zt194, ta zt37, ts sz194, ts sz37, trivial⟩ ?_
 clear hE; intro γ ac wc hE
 refine sq_t hE [Rw 24 (.agg (U9 ((a * b) % m))) [(9, vP 9 0)] [(9, (.sc (U9 ((a * b) % m)), 37))], Rz [(6, vP 6 0), (24, .agg (U9 ((a * b) % m)))] [(6, (.sc (U9 0), 37))] [(6, (.sc (U9 ((a * b) % m)), 37))]] [(6, vP 6 0), (7, vP 7 0), (9, vP 9 0)] [(3, (.sc [(.v (.pointer (some ⟨gd, 0, none⟩)))], 151)), (4, (.sc (U9 a), 37)), (5, (.sc (U9 b), 37)), (6, (.sc (U9 ((a * b) % m)), 37)), (7, (.sc (Un 18 (a * b)), 194)), (8, (.sc (Un 18 ((a * b) / m)), 194)), (9, (.sc (U9 ((a * b) % m)), 37))] ⟨tl ag37, ts sz37, trivial⟩ ?_
 clear hE; intro γ ac wc hE
 refine wp_ret ?_
 exact (end1 hE rfl (.cells 6 6 0 37 37 (U9 ((a * b) % m)) (U9 ((a * b) % m)) rfl rfl ag37 (by kernel_rfl)) (⟨rfl, hE.keep.below⟩)).1
theorem div_Pow (gd m M n s a e : Nat) (D : DvOk m M n s) (hm : m < 2 ^ 576) (ha : a < 2 ^ 576) (he : e < 2 ^ 576) (w0 : World) (hd : w0.heap[gd]? = some (dvO M n s)) : Calls Try.prog 133 #[.agg #[.pointer (some ⟨gd, 0, none⟩)], nv a, nv e] w0 fun e' w => e' = .returned (nv (a ^ e % m)) ∧ Below w0.heap.size w0 w := by
 have hgd := lt_heap hd
 have hble : bl e ≤ 576 := bl_le he
 refine enter_sx [(0, .agg [(.v (.pointer (some ⟨gd, 0, none⟩)))]), (1, .agg (U9 a)), (2, .agg (U9 e))] 33 Try.func133 rfl rfl (Nat.le_of_ble_eq_true (by kernel_rfl)) (fun γ => by kernel_rfl) ?_
 intro γ ac hE
 refine sq_t hE [Rw 3 (vP 3 0) [(0, .agg [(.v (.pointer (some ⟨gd, 0, none⟩)))])] [] [(3, (.sc [(.v (.pointer (some ⟨gd, 0, none⟩)))], 151))], Rw 4 (vP 4 0) [(1, .agg (U9 a))] [] [(4, (.sc (U9 a), 37))], Rw 5 (vP 5 0) [(2, .agg (U9 e))] [] [(5, (.sc (U9 e), 37))], Rw 6 (vP 6 0) [] [] [(6, (.sc (U9 0), 37))]] [(3, vP 3 0), (4, vP 4 0), (5, vP 5 0), (6, vP 6 0)] [(3, (.sc [(.v (.pointer (some ⟨gd, 0, none⟩)))], 151)), (4, (.sc (U9 a), 37)), (5, (.sc (U9 e), 37)), (6, (.sc (U9 0), 37))] ⟨tb, tb, tb, ta zt37, trivial⟩ ?_
 clear hE; intro γ ac wc hE
 refine sq_d hE [Rw 9 (.agg [(.v (.pointer (some ⟨gd, 0, none⟩)))]) [(3, vP 3 0)] [(3, (.sc [(.v (.pointer (some ⟨gd, 0, none⟩)))], 151))], Rw 10 (.agg (U9 1)), Rw 11 (.agg (U9 1)), Rw 12 (.agg (U9 (1 * 1 % m))) [(9, .agg [(.v (.pointer (some ⟨gd, 0, none⟩)))]), (10, .agg (U9 1)), (11, .agg (U9 1))], Rw 7 (vP 7 0) [] [] [(7, (.sc (U9 0), 37))], Rz [(7, vP 7 0), (12, .agg (U9 (1 * 1 % m)))] [(7, (.sc (U9 0), 37))] [(7, (.sc (U9 (1 * 1 % m)), 37))]] [(3, vP 3 0), (4, vP 4 0), (5, vP 5 0), (6, vP 6 0), (7, vP 7 0)] [(3, (.sc [(.v (.pointer (some ⟨gd, 0, none⟩)))], 151)), (4, (.sc (U9 a), 37)), (5, (.sc (U9 e), 37)), (6, (.sc (U9 0), 37)), (7, (.sc (U9 (1 * 1 % m)), 37))] ⟨tl ag151, tq fun w => nat_Small 1 (by omega) w, tq fun w => nat_Small 1 (by omega) w, tt fun γ w hk hf hks => div_Mul gd m M n s 1 1 D (by decide) (by decide) w (hk.get hd), ta zt37, ts sz37, trivial⟩ ?_
 clear hE; intro γ ac wc hE
 refine wp_seq ?_
 refine sq_t hE [Rw 13 (.agg (U9 e)) [(5, vP 5 0)] [(5, (.sc (U9 e), 37))], Rw 14 (vI (bl e)) [(13, .agg (U9 e))], Rw 15 (.s (inI .i64 (((bl e : Nat) : Int) - ((1 : Nat) : Int)))) [(14, vI (bl e))], Rw 8 (.s (inI .i64 (((bl e : Nat) : Int) - ((1 : Nat) : Int)))) [(15, .s (inI .i64 (((bl e : Nat) : Int) - ((1 : Nat) : Int))))]] [(3, vP 3 0), (4, vP 4 0), (5, vP 5 0), (6, vP 6 0), (7, vP 7 0), (8, .s (inI .i64 (((bl e : Nat) : Int) - ((1 : Nat) : Int))))] [(3, (.sc [(.v (.pointer (some ⟨gd, 0, none⟩)))], 151)), (4, (.sc (U9 a), 37)), (5, (.sc (U9 e), 37)), (6, (.sc (U9 0), 37)), (7, (.sc (U9 (1 * 1 % m)), 37))] ⟨tl ag37, tq fun w => nat_Bits e (by omega) w, tE (x := .int .i64 (IntKind.i64.wrap (((bl e : Nat) : Int) - ((1 : Nat) : Int)))) fun _ => wri_i64 (by omega) (by omega), tp, trivial⟩ ?_
 clear hE; intro γ ac wc hE
 refine wp_block ?_
 refine loop_sx (σ := Nat) (fun j => j) (fun j => j ≤ bl e)
     (fun j => [(3, vP 3 0), (4, vP 4 0), (5, vP 5 0), (6, vP 6 0), (7, vP 7 0), (8, .s (inI .i64 (((j : Nat) : Int) - 1)))])
     (fun j => [(3, (.sc [(.v (.pointer (some ⟨gd, 0, none⟩)))], 151)), (4, (.sc (U9 a), 37)), (5, (.sc (U9 e), 37)), (6, (.sc (U9 0), 37)), (7, (.sc (U9 (a ^ (e / 2 ^ j) % m)), 37))])
     (bl e) (by omega) (hE.sub (by kernel_rfl) (by rw [← pow_start]; kernel_rfl)) ?_
 clear hE; intro j γ ac wc hG hE
 refine wp_seq ?_
 refine sq_t hE [Rw 16 (.s (inI .i64 (((j : Nat) : Int) - 1))) [(8, .s (inI .i64 (((j : Nat) : Int) - 1)))], Rw 17 (vB (decide (0 < j))) [(16, .s (inI .i64 (((j : Nat) : Int) - 1)))]] [(3, vP 3 0), (4, vP 4 0), (5, vP 5 0), (6, vP 6 0), (7, vP 7 0), (8, .s (inI .i64 (((j : Nat) : Int) - 1))), (17, vB (decide (0 < j)))] [(3, (.sc [(.v (.pointer (some ⟨gd, 0, none⟩)))], 151)), (4, (.sc (U9 a), 37)), (5, (.sc (U9 e), 37)), (6, (.sc (U9 0), 37)), (7, (.sc (U9 (a ^ (e / 2 ^ j) % m)), 37))] ⟨tp, tE (x := .bool (decide ((((j : Nat) : Int) - 1) ≥ ((0 : Nat) : Int)))) fun _ => (congrArg Value.bool (decide_eq_decide.2 (by omega))), trivial⟩ ?_
 clear hE; intro γ ac wc hE
 refine cond_sx hE rfl (fun hb1 => ?_) (fun hb1 => ?_)
 ·
  have hb1p := of_decide_eq_true hb1
  have hi : ((j : Nat) : Int) - 1 = ((j - 1 : Nat) : Int) := by omega
  rw [hi] at hE
  have hp1 : a ^ (e / 2 ^ j) % m < 2 ^ 576 := Nat.lt_trans (Nat.mod_lt _ D.pos) hm
  have hp2 : a ^ (e / 2 ^ j) % m * (a ^ (e / 2 ^ j) % m) % m < 2 ^ 576 := Nat.lt_trans (Nat.mod_lt _ D.pos) hm
  refine wp_skip ?_
  refine then_normal ?_
  refine wp_seq ?_
  refine wp_block ?_
  refine sq_t hE [Rw 20 (.agg [(.v (.pointer (some ⟨gd, 0, none⟩)))]) [(3, vP 3 0)] [(3, (.sc [(.v (.pointer (some ⟨gd, 0, none⟩)))], 151))], Rw 21 (.agg (U9 (a ^ (e / 2 ^ j) % m))) [(7, vP 7 0)] [(7, (.sc (U9 (a ^ (e / 2 ^ j) % m)), 37))], Rw 22 (.agg (U9 (a ^ (e / 2 ^ j) % m))) [(7, vP 7 0)] [(7, (.sc (U9 (a ^ (e / 2 ^ j) % m)), 37))], Rw 23 (.agg (U9 ((a ^ (e / 2 ^ j) % m) * (a ^ (e / 2 ^ j) % m) % m))) [(20, .agg [(.v (.pointer (some ⟨gd, 0, none⟩)))]), (21, .agg (U9 (a ^ (e / 2 ^ j) % m))), (22, .agg (U9 (a ^ (e / 2 ^ j) % m)))], Rz [(7, vP 7 0), (23, .agg (U9 ((a ^ (e / 2 ^ j) % m) * (a ^ (e / 2 ^ j) % m) % m)))] [(7, (.sc (U9 (a ^ (e / 2 ^ j) % m)), 37))] [(7, (.sc (U9 ((a ^ (e / 2 ^ j) % m) * (a ^ (e / 2 ^ j) % m) % m)), 37))]] [(3, vP 3 0), (4, vP 4 0), (5, vP 5 0), (6, vP 6 0), (7, vP 7 0), (8, vI (j - 1))] [(3, (.sc [(.v (.pointer (some ⟨gd, 0, none⟩)))], 151)), (4, (.sc (U9 a), 37)), (5, (.sc (U9 e), 37)), (6, (.sc (U9 0), 37)), (7, (.sc (U9 ((a ^ (e / 2 ^ j) % m) * (a ^ (e / 2 ^ j) % m) % m)), 37))] ⟨tl ag151, tl ag37, tl ag37, tt fun γ w hk hf hks => div_Mul gd m M n s (a ^ (e / 2 ^ j) % m) (a ^ (e / 2 ^ j) % m) D hp1 hp1 w (hk.get hd), ts sz37, trivial⟩ ?_
  clear hE; intro γ ac wc hE
  refine sq_t hE [Rw 24 (.agg (U9 e)) [(5, vP 5 0)] [(5, (.sc (U9 e), 37))], Rw 25 (vI (j - 1)) [(8, vI (j - 1))], Rw 26 (vI (e / 2 ^ (j - 1) % 2)) [(24, .agg (U9 e)), (25, vI (j - 1))], Rw 27 (vB (decide (e / 2 ^ (j - 1) % 2 = 1))) [(26, vI (e / 2 ^ (j - 1) % 2))]] [(3, vP 3 0), (4, vP 4 0), (5, vP 5 0), (6, vP 6 0), (7, vP 7 0), (8, vI (j - 1)), (27, vB (decide (e / 2 ^ (j - 1) % 2 = 1)))] [(3, (.sc [(.v (.pointer (some ⟨gd, 0, none⟩)))], 151)), (4, (.sc (U9 a), 37)), (5, (.sc (U9 e), 37)), (6, (.sc (U9 0), 37)), (7, (.sc (U9 ((a ^ (e / 2 ^ j) % m) * (a ^ (e / 2 ^ j) % m) % m)), 37))] ⟨tl ag37, tp, tq fun w => nat_Bit e (j - 1) (by omega) (by omega) w, tE fun _ => d_eql _ _, trivial⟩ ?_
  clear hE; intro γ ac wc hE
  refine cond_sx hE rfl (fun hb2 => ?_) (fun hb2 => ?_)
  ·
   have hb2p := of_decide_eq_true hb2
   refine rg_t hE [Rw 28 (.agg [(.v (.pointer (some ⟨gd, 0, none⟩)))]) [(3, vP 3 0)] [(3, (.sc [(.v (.pointer (some ⟨gd, 0, none⟩)))], 151))], Rw 29 (.agg (U9 ((a ^ (e / 2 ^ j) % m) * (a ^ (e / 2 ^ j) % m) % m))) [(7, vP 7 0)] [(7, (.sc (U9 ((a ^ (e / 2 ^ j) % m) * (a ^ (e / 2 ^ j) % m) % m)), 37))], Rw 30 (.agg (U9 a)) [(4, vP 4 0)] [(4, (.sc (U9 a), 37))], Rw 31 (.agg (U9 (((a ^ (e / 2 ^ j) % m) * (a ^ (e / 2 ^ j) % m) % m) * a % m))) [(28, .agg [(.v (.pointer (some ⟨gd, 0, none⟩)))]), (29, .agg (U9 ((a ^ (e / 2 ^ j) % m) * (a ^ (e / 2 ^ j) % m) % m))), (30, .agg (U9 a))], Rz [(7, vP 7 0), (31, .agg (U9 (((a ^ (e / 2 ^ j) % m) * (a ^ (e / 2 ^ j) % m) % m) * a % m)))] [(7, (.sc (U9 ((a ^ (e / 2 ^ j) % m) * (a ^ (e / 2 ^ j) % m) % m)), 37))] [(7, (.sc (U9 (((a ^ (e / 2 ^ j) % m) * (a ^ (e / 2 ^ j) % m) % m) * a % m)), 37))]] [(3, vP 3 0), (4, vP 4 0), (5, vP 5 0), (6, vP 6 0), (7, vP 7 0), (8, vI (j - 1))] [(3, (.sc [(.v (.pointer (some ⟨gd, 0, none⟩)))], 151)), (4, (.sc (U9 a), 37)), (5, (.sc (U9 e), 37)), (6, (.sc (U9 0), 37)), (7, (.sc (U9 (((a ^ (e / 2 ^ j) % m) * (a ^ (e / 2 ^ j) % m) % m) * a % m)), 37))] ⟨tl ag151, tl ag37, tl ag37, tt fun γ w hk hf hks => div_Mul gd m M n s ((a ^ (e / 2 ^ j) % m) * (a ^ (e / 2 ^ j) % m) % m) a D hp2 (by omega) w (hk.get hd), ts sz37, trivial⟩ ?_
   clear hE; intro γ ac wc hE
   refine blk_normal ?_
   refine then_normal ?_
   refine rg_t hE [Rw 18 (vI (j - 1)) [(8, vI (j - 1))], Rw 19 (.s (inI .i64 (((j - 1 : Nat) : Int) - ((1 : Nat) : Int)))) [(18, vI (j - 1))], Rw 8 (.s (inI .i64 (((j - 1 : Nat) : Int) - ((1 : Nat) : Int)))) [(19, .s (inI .i64 (((j - 1 : Nat) : Int) - ((1 : Nat) : Int))))]] [(3, vP 3 0), (4, vP 4 0), (5, vP 5 0), (6, vP 6 0), (7, vP 7 0), (8, .s (inI .i64 (((j - 1 : Nat) : Int) - ((1 : Nat) : Int))))] [(3, (.sc [(.v (.pointer (some ⟨gd, 0, none⟩)))], 151)), (4, (.sc (U9 a), 37)), (5, (.sc (U9 e), 37)), (6, (.sc (U9 0), 37)), (7, (.sc (U9 (((a ^ (e / 2 ^ j) % m) * (a ^ (e / 2 ^ j) % m) % m) * a % m)), 37))] ⟨tp, tE (x := .int .i64 (IntKind.i64.wrap (((j - 1 : Nat) : Int) - ((1 : Nat) : Int)))) fun _ => wri_i64 (by omega) (by omega), tp, trivial⟩ ?_
   clear hE; intro γ ac wc hE
   refine then_normal ⟨j - 1, by omega, by omega, _, hE.sub (by kernel_rfl) (by rw [← pow_s1 hb1p (by assumption)]; kernel_rfl)⟩
  ·
   have hb2p := of_decide_eq_false hb2
   refine wp_skip ?_
   refine blk_normal ?_
   refine then_normal ?_
   refine rg_t hE [Rw 18 (vI (j - 1)) [(8, vI (j - 1))], Rw 19 (.s (inI .i64 (((j - 1 : Nat) : Int) - ((1 : Nat) : Int)))) [(18, vI (j - 1))], Rw 8 (.s (inI .i64 (((j - 1 : Nat) : Int) - ((1 : Nat) : Int)))) [(19, .s (inI .i64 (((j - 1 : Nat) : Int) - ((1 : Nat) : Int))))]] [(3, vP 3 0), (4, vP 4 0), (5, vP 5 0), (6, vP 6 0), (7, vP 7 0), (8, .s (inI .i64 (((j - 1 : Nat) : Int) - ((1 : Nat) : Int))))] [(3, (.sc [(.v (.pointer (some ⟨gd, 0, none⟩)))], 151)), (4, (.sc (U9 a), 37)), (5, (.sc (U9 e), 37)), (6, (.sc (U9 0), 37)), (7, (.sc (U9 ((a ^ (e / 2 ^ j) % m) * (a ^ (e / 2 ^ j) % m) % m)), 37))] ⟨tp, tE (x := .int .i64 (IntKind.i64.wrap (((j - 1 : Nat) : Int) - ((1 : Nat) : Int)))) fun _ => wri_i64 (by omega) (by omega), tp, trivial⟩ ?_
   clear hE; intro γ ac wc hE
   refine then_normal ⟨j - 1, by omega, by omega, _, hE.sub (by kernel_rfl) (by rw [← pow_s0 hb1p (by assumption)]; kernel_rfl)⟩
 ·
  have hb1p := of_decide_eq_false hb1
  refine wp_exit ?_
  refine then_exit ?_
  refine then_exit ?_
  refine blk_hit ?_
  refine then_normal ?_
  refine sq_t hE [Rw 32 (.agg (U9 (a ^ (e / 2 ^ j) % m))) [(7, vP 7 0)] [(7, (.sc (U9 (a ^ (e / 2 ^ j) % m)), 37))], Rz [(6, vP 6 0), (32, .agg (U9 (a ^ (e / 2 ^ j) % m)))] [(6, (.sc (U9 0), 37))] [(6, (.sc (U9 (a ^ (e / 2 ^ j) % m)), 37))]] [(3, vP 3 0), (4, vP 4 0), (5, vP 5 0), (6, vP 6 0), (7, vP 7 0), (8, .s (inI .i64 (((j : Nat) : Int) - 1)))] [(3, (.sc [(.v (.pointer (some ⟨gd, 0, none⟩)))], 151)), (4, (.sc (U9 a), 37)), (5, (.sc (U9 e), 37)), (6, (.sc (U9 (a ^ (e / 2 ^ j) % m)), 37)), (7, (.sc (U9 (a ^ (e / 2 ^ j) % m)), 37))] ⟨tl ag37, ts sz37, trivial⟩ ?_
  clear hE; intro γ ac wc hE
  refine wp_ret ?_
  have hj : j = 0 := by omega
  exact (end1 hE rfl (.cells 6 6 0 37 37 (U9 (a ^ (e / 2 ^ j) % m)) (U9 (a ^ (e / 2 ^ j) % m)) rfl rfl ag37 (by kernel_rfl)) (⟨by rw [show nv (a ^ e % m) = nv (a ^ (e / 2 ^ j) % m) by rw [hj, Nat.pow_zero, Nat.div_one]]; rfl, hE.keep.below⟩)).1
end Go.Proofs.Ytddfimfgcfgpbaa
