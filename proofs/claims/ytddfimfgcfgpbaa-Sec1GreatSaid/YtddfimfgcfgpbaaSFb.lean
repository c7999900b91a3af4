/-
  The field's operations.
-/
import Derived.Test.YtddfimfgcfgpbaaSTf
import Derived.Test.YtddfimfgcfgpbaaSFa
namespace Go.Proofs.Ytddfimfgcfgpbaa
open Sx
open Go.RowKit (Below)
set_option exponentiation.threshold 2000
def addm (p a b : Nat) : Nat := (a + b) % p
def mulm (p a b : Nat) : Nat := a * b % p
noncomputable abbrev dvB (p : Nat) : Obj := dvO (p * 2 ^ dvS p) (nw p) (dvS p)
noncomputable abbrev fldO (p gd : Nat) : Obj := .cells ((U9 p ++ [Sc.v (.pointer (some ⟨gd, 0, none⟩))]).map (Sc.den fun _ => 0)).toArray 153 (0, 0)
theorem fldO_obj (γ : Nat → Nat) (p k : Nat) : Ct.obj γ (.sc (U9 p ++ [.ptr k 0]), 153) = fldO p (γ k) := by kernel_rfl
theorem addm_hi {p a b : Nat} (ha : a < p) (hb : b < p) (hp : p < 2 ^ 575) (h : ¬ a + b < p) : U9 (sb (a + b) p) = U9 (addm p a b) := by
  rw [← U9_mod (sb (a + b) p)]
  unfold sb addm
  rw [show a + b + 2 ^ 576 - p = (a + b - p) + 2 ^ 576 by omega, Nat.add_mod_right, Nat.mod_eq_of_lt (show a + b - p < 2 ^ 576 by omega), Nat.mod_eq_sub_mod (show p ≤ a + b by omega), Nat.mod_eq_of_lt (show a + b - p < p by omega)]
theorem addm_lo {p a b : Nat} (h : a + b < p) : addm p a b = a + b := Nat.mod_eq_of_lt h
theorem cmp3_lt (a b : Nat) : decide (cmp3 a b < ((0 : Nat) : Int)) = decide (a < b) := by
  unfold cmp3; split
  · next h => simp [h]
  · next h => split <;> simp_all
def pOf (id : Int) : Nat := hexF (primeS id)
def isCv (id : Int) : Bool := !((primeS id).data.toList == [])
theorem isCv_toList (id : Int) : ((primeS id).toList == (⟨#[]⟩ : ByteArray).toList) = !isCv id := by
  unfold isCv; rw [Go.ByteArray.toList_eq, Go.ByteArray.toList_eq, Bool.not_not]
theorem isCv_cases {id : Int} (h : isCv id = true) : id = 1 ∨ id = 2 ∨ id = 3 ∨ id = 4 ∨ id = 5 ∨ id = 6 ∨ id = 7 ∨ id = 8 ∨ id = 9 ∨ id = 10 ∨ id = 11 ∨ id = 12 ∨ id = 13 ∨ id = 14 ∨ id = 15 := by
  refine Decidable.byContradiction fun hn => ?_
  simp only [not_or] at hn
  have : primeS id = ⟨#[]⟩ := by
    unfold primeS
    repeat rw [if_neg (by omega)]
  unfold isCv at h
  rw [this] at h
  exact absurd h (by decide)
theorem primeS_size (id : Int) : (primeS id).size ≤ 144 := by
  by_cases h : isCv id = true
  · rcases isCv_cases h with rfl | rfl | rfl | rfl | rfl | rfl | rfl | rfl | rfl | rfl | rfl | rfl | rfl | rfl | rfl <;> exact Nat.le_of_ble_eq_true (by kernel_rfl)
  · have : (primeS id).data.toList = [] := by unfold isCv at h; simpa using h
    have h2 : (primeS id).size = (primeS id).data.toList.length := rfl
    rw [h2, this]; decide
theorem pOf_pos (id : Int) (h : isCv id = true) : 0 < pOf id := by
  rcases isCv_cases h with rfl | rfl | rfl | rfl | rfl | rfl | rfl | rfl | rfl | rfl | rfl | rfl | rfl | rfl | rfl <;> exact Nat.le_of_ble_eq_true (by kernel_rfl)
theorem pOf_lt (id : Int) (h : isCv id = true) : pOf id < 2 ^ 575 := by
  rcases isCv_cases h with rfl | rfl | rfl | rfl | rfl | rfl | rfl | rfl | rfl | rfl | rfl | rfl | rfl | rfl | rfl <;> exact Nat.le_of_ble_eq_true (by kernel_rfl)
theorem fld_Has (gf gd p a : Nat) (hp0 : 0 < p) (hp : p < 2 ^ 575) (ha : a < 2 ^ 576) (w0 : World) (hf : w0.heap[gf]? = some (fldO p gd)) (hd : w0.heap[gd]? = some (dvB p)) : Calls Try.prog 107 #[.pointer (some ⟨gf, 0, none⟩), nv a] w0 fun e w => e = .returned (.bool (decide (a < p))) ∧ Below w0.heap.size w0 w := by
 have hgf := lt_heap hf
 have hgd := lt_heap hd
 have hp6 : p < 2 ^ 576 := by omega
 refine enter_sx [(0, vX gf 0), (1, .agg (U9 a))] 12 Try.func107 rfl rfl (Nat.le_of_ble_eq_true (by kernel_rfl)) (fun γ => by kernel_rfl) ?_
 intro γ ac hE
 refine sq_t hE [Rw 3 (vP 3 0) [(1, .agg (U9 a))] [] [(3, (.sc (U9 a), 37))], Rw 4 (vB false)] [(0, vX gf 0), (3, vP 3 0), (4, vB false)] [(3, (.sc (U9 a), 37))] ⟨tb, tp, trivial⟩ ?_
 clear hE; intro γ ac wc hE
 refine sq_d hE [Rw 5 (.agg (U9 a)) [(3, vP 3 0)] [(3, (.sc (U9 a), 37))], Rw 6 (vX gf 0) [(0, vX gf 0)], Rw 7 (vX gf 0) [(6, vX gf 0)], Rw 8 (vX gf 0) [(7, vX gf 0)], Rw 9 (.agg (U9 p)) [(8, vX gf 0)], Rw 10 (.s (inI .i64 (cmp3 a p))) [(5, .agg (U9 a)), (9, .agg (U9 p))], Rw 11 (vB (decide (a < p))) [(10, .s (inI .i64 (cmp3 a p)))], Rw 4 (vB (decide (a < p))) [(11, vB (decide (a < p)))]] [(4, vB (decide (a < p)))] [(3, (.sc (U9 a), 37))] ⟨tl ag37, tp, tp, tp, tlx (fun w hk => hk.get hf) ag37, tq fun w => nat_Cmp a p (by omega) (by omega) w, tE (x := .bool (decide ((cmp3 a p) < ((0 : Nat) : Int)))) fun _ => (congrArg Value.bool (cmp3_lt a p)), tp, trivial⟩ ?_
 clear hE; intro γ ac wc hE
 refine wp_ret ?_
 exact (end1 hE rfl (.tmp 4 (vB (decide (a < p))) rfl) (⟨rfl, hE.keep.below⟩)).1
theorem fld_Add (gf gd p a b : Nat) (hp0 : 0 < p) (hp : p < 2 ^ 575) (ha : a < p) (hb : b < p) (w0 : World) (hf : w0.heap[gf]? = some (fldO p gd)) (hd : w0.heap[gd]? = some (dvB p)) : Calls Try.prog 106 #[.pointer (some ⟨gf, 0, none⟩), nv a, nv b] w0 fun e w => e = .returned (nv (addm p a b)) ∧ Below w0.heap.size w0 w := by
 have hgf := lt_heap hf
 have hgd := lt_heap hd
 have hp6 : p < 2 ^ 576 := by omega
 refine enter_sx [(0, vX gf 0), (1, .agg (U9 a)), (2, .agg (U9 b))] 33 Try.func106 rfl rfl (Nat.le_of_ble_eq_true (by kernel_rfl)) (fun γ => by kernel_rfl) ?_
 intro γ ac hE
 refine sq_t hE [Rw 4 (vP 4 0) [(1, .agg (U9 a))] [] [(4, (.sc (U9 a), 37))], Rw 5 (vP 5 0) [(2, .agg (U9 b))] [] [(5, (.sc (U9 b), 37))], Rw 6 (vP 6 0) [] [] [(6, (.sc (U9 0), 37))]] [(0, vX gf 0), (4, vP 4 0), (5, vP 5 0), (6, vP 6 0)] [(4, (.sc (U9 a), 37)), (5, (.sc (U9 b), 37)), (6, (.sc (U9 0), 37))] ⟨tb, tb, ta zt37, trivial⟩ ?_
 clear hE; intro γ ac wc hE
 refine sq_t hE [Rw 12 (.agg (U9 a)) [(4, vP 4 0)] [(4, (.sc (U9 a), 37))], Rw 13 (.agg (U9 b)) [(5, vP 5 0)] [(5, (.sc (U9 b), 37))], Rw 14 (.two (.agg (U9 (a + b))) (vB (decide (2 ^ 576 ≤ a + b)))) [(12, .agg (U9 a)), (13, .agg (U9 b))], Rw 11 (.two (.agg (U9 (a + b))) (vB (decide (2 ^ 576 ≤ a + b)))) [(14, .two (.agg (U9 (a + b))) (vB (decide (2 ^ 576 ≤ a + b))))], Rw 15 (.agg (U9 (a + b))) [(11, .two (.agg (U9 (a + b))) (vB (decide (2 ^ 576 ≤ a + b))))], Rw 16 (vB (decide (2 ^ 576 ≤ a + b))) [(11, .two (.agg (U9 (a + b))) (vB (decide (2 ^ 576 ≤ a + b))))], Rw 7 (vP 7 0) [] [] [(7, (.sc (U9 0), 37))], Rz [(7, vP 7 0), (15, .agg (U9 (a + b)))] [(7, (.sc (U9 0), 37))] [(7, (.sc (U9 (a + b)), 37))], Rw 8 (vB (decide (2 ^ 576 ≤ a + b))) [(16, vB (decide (2 ^ 576 ≤ a + b)))]] [(0, vX gf 0), (6, vP 6 0), (7, vP 7 0), (8, vB (decide (2 ^ 576 ≤ a + b)))] [(4, (.sc (U9 a), 37)), (5, (.sc (U9 b), 37)), (6, (.sc (U9 0), 37)), (7, (.sc (U9 (a + b)), 37))] ⟨tl ag37, tl ag37, tq fun w => nat_Add a b (by omega) (by omega) w, tp, tp, tp, ta zt37, ts sz37, tp, trivial⟩ ?_
 clear hE; intro γ ac wc hE
 refine wp_seq ?_
 refine sq_d hE [Rw 18 (.agg (U9 (a + b))) [(7, vP 7 0)] [(7, (.sc (U9 (a + b)), 37))], Rw 19 (vX gf 0) [(0, vX gf 0)], Rw 20 (vX gf 0) [(19, vX gf 0)], Rw 21 (vX gf 0) [(20, vX gf 0)], Rw 22 (.agg (U9 p)) [(21, vX gf 0)], Rw 23 (.two (.agg (U9 (sb (a + b) p))) (vB (decide (a + b < p)))) [(18, .agg (U9 (a + b))), (22, .agg (U9 p))], Rw 17 (.two (.agg (U9 (sb (a + b) p))) (vB (decide (a + b < p)))) [(23, .two (.agg (U9 (sb (a + b) p))) (vB (decide (a + b < p))))], Rw 24 (.agg (U9 (sb (a + b) p))) [(17, .two (.agg (U9 (sb (a + b) p))) (vB (decide (a + b < p))))], Rw 25 (vB (decide (a + b < p))) [(17, .two (.agg (U9 (sb (a + b) p))) (vB (decide (a + b < p))))], Rw 9 (vP 9 0) [] [] [(9, (.sc (U9 0), 37))], Rz [(9, vP 9 0), (24, .agg (U9 (sb (a + b) p)))] [(9, (.sc (U9 0), 37))] [(9, (.sc (U9 (sb (a + b) p)), 37))], Rw 10 (vB (decide (a + b < p))) [(25, vB (decide (a + b < p)))]] [(6, vP 6 0), (7, vP 7 0), (8, vB (decide (2 ^ 576 ≤ a + b))), (9, vP 9 0), (10, vB (decide (a + b < p)))] [(4, (.sc (U9 a), 37)), (5, (.sc (U9 b), 37)), (6, (.sc (U9 0), 37)), (7, (.sc (U9 (a + b)), 37)), (9, (.sc (U9 (sb (a + b) p)), 37))] ⟨tl ag37, tp, tp, tp, tlx (fun w hk => hk.get hf) ag37, tq fun w => nat_Sub (a + b) p (by omega) (by omega) w, tp, tp, tp, ta zt37, ts sz37, tp, trivial⟩ ?_
 clear hE; intro γ ac wc hE
 rcases Bool.eq_false_or_eq_true (decide (2 ^ 576 ≤ a + b)) with hb1 | hb1
 ·
  have hb1p := of_decide_eq_true hb1
  exact absurd hb1p (by omega)
 ·
  have hb1p := of_decide_eq_false hb1
  refine sq_t hE [Rw 26 (vB false) [(8, vB (decide (2 ^ 576 ≤ a + b)))], Rw 27 (vB false) [(26, vB false)], Rw 28 (vB (decide (a + b < p))) [(10, vB (decide (a + b < p))), (27, vB false)], Rw 29 (vB (!(decide (a + b < p)))) [(28, vB (decide (a + b < p))), (27, vB false)], Rw 30 (vB (!(decide (a + b < p)))) [(27, vB false), (29, vB (!(decide (a + b < p))))]] [(6, vP 6 0), (7, vP 7 0), (9, vP 9 0), (30, vB (!(decide (a + b < p))))] [(4, (.sc (U9 a), 37)), (5, (.sc (U9 b), 37)), (6, (.sc (U9 0), 37)), (7, (.sc (U9 (a + b)), 37)), (9, (.sc (U9 (sb (a + b) p)), 37))] ⟨tE fun _ => congrArg Value.bool hb1, tp, ton tp, ton tp, tp, trivial⟩ ?_
  clear hE; intro γ ac wc hE
  refine cond_sx hE rfl (fun hb2 => ?_) (fun hb2 => ?_)
  ·
   have hb2d : decide (a + b < p) = false := by simpa using hb2
   have hb2p := of_decide_eq_false hb2d
   refine sq_t hE [Rw 31 (.agg (U9 (sb (a + b) p))) [(9, vP 9 0)] [(9, (.sc (U9 (sb (a + b) p)), 37))], Rz [(6, vP 6 0), (31, .agg (U9 (sb (a + b) p)))] [(6, (.sc (U9 0), 37))] [(6, (.sc (U9 (sb (a + b) p)), 37))]] [(6, vP 6 0), (7, vP 7 0), (9, vP 9 0)] [(4, (.sc (U9 a), 37)), (5, (.sc (U9 b), 37)), (6, (.sc (U9 (sb (a + b) p)), 37)), (7, (.sc (U9 (a + b)), 37)), (9, (.sc (U9 (sb (a + b) p)), 37))] ⟨tl ag37, ts sz37, trivial⟩ ?_
   clear hE; intro γ ac wc hE
   refine wp_ret ?_
   refine then_ret ?_
   exact (end1 hE rfl (.cells 6 6 0 37 37 (U9 (sb (a + b) p)) (U9 (sb (a + b) p)) rfl rfl ag37 (by kernel_rfl)) (⟨by rw [nv, ← addm_hi ha hb hp (by assumption)]; rfl, hE.keep.below⟩)).1
  ·
   have hb2d : decide (a + b < p) = true := by simpa using hb2
   have hb2p := of_decide_eq_true hb2d
   refine wp_skip ?_
   refine then_normal ?_
   refine sq_t hE [Rw 32 (.agg (U9 (a + b))) [(7, vP 7 0)] [(7, (.sc (U9 (a + b)), 37))], Rz [(6, vP 6 0), (32, .agg (U9 (a + b)))] [(6, (.sc (U9 0), 37))] [(6, (.sc (U9 (a + b)), 37))]] [(6, vP 6 0), (7, vP 7 0), (9, vP 9 0)] [(4, (.sc (U9 a), 37)), (5, (.sc (U9 b), 37)), (6, (.sc (U9 (a + b)), 37)), (7, (.sc (U9 (a + b)), 37)), (9, (.sc (U9 (sb (a + b) p)), 37))] ⟨tl ag37, ts sz37, trivial⟩ ?_
   clear hE; intro γ ac wc hE
   refine wp_ret ?_
   exact (end1 hE rfl (.cells 6 6 0 37 37 (U9 (a + b)) (U9 (a + b)) rfl rfl ag37 (by kernel_rfl)) (⟨by rw [addm_lo (by assumption)]; rfl, hE.keep.below⟩)).1
theorem fld_Mul (gf gd p a b : Nat) (hp0 : 0 < p) (hp : p < 2 ^ 575) (ha : a < 2 ^ 576) (hb : b < 2 ^ 576) (w0 : World) (hf : w0.heap[gf]? = some (fldO p gd)) (hd : w0.heap[gd]? = some (dvB p)) : Calls Try.prog 111 #[.pointer (some ⟨gf, 0, none⟩), nv a, nv b] w0 fun e w => e = .returned (nv (mulm p a b)) ∧ Below w0.heap.size w0 w := by
 have hgf := lt_heap hf
 have hgd := lt_heap hd
 have hp6 : p < 2 ^ 576 := by omega
 refine enter_sx [(0, vX gf 0), (1, .agg (U9 a)), (2, .agg (U9 b))] 14 Try.func111 rfl rfl (Nat.le_of_ble_eq_true (by kernel_rfl)) (fun γ => by kernel_rfl) ?_
 intro γ ac hE
 refine sq_t hE [Rw 4 (vP 4 0) [(1, .agg (U9 a))] [] [(4, (.sc (U9 a), 37))], Rw 5 (vP 5 0) [(2, .agg (U9 b))] [] [(5, (.sc (U9 b), 37))], Rw 6 (vP 6 0) [] [] [(6, (.sc (U9 0), 37))]] [(0, vX gf 0), (4, vP 4 0), (5, vP 5 0), (6, vP 6 0)] [(4, (.sc (U9 a), 37)), (5, (.sc (U9 b), 37)), (6, (.sc (U9 0), 37))] ⟨tb, tb, ta zt37, trivial⟩ ?_
 clear hE; intro γ ac wc hE
 refine sq_d hE [Rw 7 (vX gf 0) [(0, vX gf 0)], Rw 8 (vX gf 0) [(7, vX gf 0)], Rw 9 (vX gf 9) [(8, vX gf 0)], Rw 10 (.agg [(.v (.pointer (some ⟨gd, 0, none⟩)))]) [(9, vX gf 9)], Rw 11 (.agg (U9 a)) [(4, vP 4 0)] [(4, (.sc (U9 a), 37))], Rw 12 (.agg (U9 b)) [(5, vP 5 0)] [(5, (.sc (U9 b), 37))], Rw 13 (.agg (U9 (a * b % p))) [(10, .agg [(.v (.pointer (some ⟨gd, 0, none⟩)))]), (11, .agg (U9 a)), (12, .agg (U9 b))], Rz [(6, vP 6 0), (13, .agg (U9 (a * b % p)))] [(6, (.sc (U9 0), 37))] [(6, (.sc (U9 (a * b % p)), 37))]] [(6, vP 6 0)] [(4, (.sc (U9 a), 37)), (5, (.sc (U9 b), 37)), (6, (.sc (U9 (a * b % p)), 37))] ⟨tp, tp, tp, tlx (fun w hk => hk.get hf) ag151, tl ag37, tl ag37, tt fun γ w hk hf hks => div_Mul gd p (p * 2 ^ dvS p) (nw p) (dvS p) a b (dvOk hp0 hp6) (by omega) (by omega) w (hk.get hd), ts sz37, trivial⟩ ?_
 clear hE; intro γ ac wc hE
 refine wp_ret ?_
 exact (end1 hE rfl (.cells 6 6 0 37 37 (U9 (a * b % p)) (U9 (a * b % p)) rfl rfl ag37 (by kernel_rfl)) (⟨rfl, hE.keep.below⟩)).1
theorem fld_one (w0 : World) : Calls Try.prog 132 #[] w0 fun e w => e = .returned (nv 1) ∧ Below w0.heap.size w0 w := by
 refine enter_sx [] 2 Try.func132 rfl rfl (Nat.le_of_ble_eq_true (by kernel_rfl)) (fun γ => by kernel_rfl) ?_
 intro γ ac hE
 refine sq_t hE [Rw 0 (vP 0 0) [] [] [(0, (.sc (U9 0), 37))]] [(0, vP 0 0)] [(0, (.sc (U9 0), 37))] ⟨ta zt37, trivial⟩ ?_
 clear hE; intro γ ac wc hE
 refine sq_t hE [Rw 1 (.agg (U9 1)), Rz [(0, vP 0 0), (1, .agg (U9 1))] [(0, (.sc (U9 0), 37))] [(0, (.sc (U9 1), 37))]] [(0, vP 0 0)] [(0, (.sc (U9 1), 37))] ⟨tq fun w => nat_Small 1 (by omega) w, ts sz37, trivial⟩ ?_
 clear hE; intro γ ac wc hE
 refine wp_ret ?_
 exact (end1 hE rfl (.cells 0 0 0 37 37 (U9 1) (U9 1) rfl rfl ag37 (by kernel_rfl)) (⟨rfl, hE.keep.below⟩)).1
theorem fld_half (a : Nat) (ha : a < 2 ^ 576) (w0 : World) : Calls Try.prog 134 #[nv a] w0 fun e w => e = .returned (nv (a / 2)) ∧ Below w0.heap.size w0 w := by
 refine enter_sx [(0, .agg (U9 a))] 11 Try.func134 rfl rfl (Nat.le_of_ble_eq_true (by kernel_rfl)) (fun γ => by kernel_rfl) ?_
 intro γ ac hE
 refine sq_t hE [Rw 1 (vP 1 0) [(0, .agg (U9 a))] [] [(1, (.sc (U9 a), 37))], Rw 2 (vP 2 0) [] [] [(2, (.sc (U9 0), 37))]] [(1, vP 1 0), (2, vP 2 0)] [(1, (.sc (U9 a), 37)), (2, (.sc (U9 0), 37))] ⟨tb, ta zt37, trivial⟩ ?_
 clear hE; intro γ ac wc hE
 refine sq_t hE [Rw 6 (.agg (U9 a)) [(1, vP 1 0)] [(1, (.sc (U9 a), 37))], Rw 7 (.two (.agg (U9 (a / 2 ^ 1))) (vI 0)) [(6, .agg (U9 a))], Rw 5 (.two (.agg (U9 (a / 2 ^ 1))) (vI 0)) [(7, .two (.agg (U9 (a / 2 ^ 1))) (vI 0))], Rw 8 (.agg (U9 (a / 2 ^ 1))) [(5, .two (.agg (U9 (a / 2 ^ 1))) (vI 0))], Rw 9 (vI 0) [(5, .two (.agg (U9 (a / 2 ^ 1))) (vI 0))], Rw 3 (vP 3 0) [] [] [(3, (.sc (U9 0), 37))], Rz [(3, vP 3 0), (8, .agg (U9 (a / 2 ^ 1)))] [(3, (.sc (U9 0), 37))] [(3, (.sc (U9 (a / 2 ^ 1)), 37))], Rw 4 (vI 0) [(9, vI 0)]] [(2, vP 2 0), (3, vP 3 0)] [(1, (.sc (U9 a), 37)), (2, (.sc (U9 0), 37)), (3, (.sc (U9 (a / 2 ^ 1)), 37))] ⟨tl ag37, tq fun w => nat_Shr a 1 (by omega) (by omega) w, tp, tp, tp, ta zt37, ts sz37, tp, trivial⟩ ?_
 clear hE; intro γ ac wc hE
 refine sq_t hE [Rw 10 (.agg (U9 (a / 2 ^ 1))) [(3, vP 3 0)] [(3, (.sc (U9 (a / 2 ^ 1)), 37))], Rz [(2, vP 2 0), (10, .agg (U9 (a / 2 ^ 1)))] [(2, (.sc (U9 0), 37))] [(2, (.sc (U9 (a / 2 ^ 1)), 37))]] [(2, vP 2 0), (3, vP 3 0)] [(1, (.sc (U9 a), 37)), (2, (.sc (U9 (a / 2 ^ 1)), 37)), (3, (.sc (U9 (a / 2 ^ 1)), 37))] ⟨tl ag37, ts sz37, trivial⟩ ?_
 clear hE; intro γ ac wc hE
 refine wp_ret ?_
 exact (end1 hE rfl (.cells 2 2 0 37 37 (U9 (a / 2 ^ 1)) (U9 (a / 2 ^ 1)) rfl rfl ag37 (by kernel_rfl)) (⟨by rw [show a / 2 = a / 2 ^ 1 from rfl]; rfl, hE.keep.below⟩)).1
theorem field_Of (id : Int) (hid : isCv id = true) (w0 : World) : Calls Try.prog 100 #[.int .i64 id] w0 fun e w => ∃ gf gd, e = .returned (.pointer (some ⟨gf, 0, none⟩)) ∧ w0.heap.size ≤ gf ∧ w0.heap.size ≤ gd ∧ gf ≠ gd ∧ w.heap[gf]? = some (fldO (pOf id) gd) ∧ w.heap[gd]? = some (dvB (pOf id)) ∧ Below w0.heap.size w0 w := by
 have hid0 : ((primeS id).toList == (⟨#[]⟩ : ByteArray).toList) = false := by rw [isCv_toList, hid]; rfl
 have hpl : hexF (primeS id) < 2 ^ 576 := hexF_lt (primeS_size id)
 have hp0 : 0 < hexF (primeS id) := pOf_pos id hid
 refine enter_sx [(0, .s (inI .i64 id))] 16 Try.func100 rfl rfl (Nat.le_of_ble_eq_true (by kernel_rfl)) (fun γ => by kernel_rfl) ?_
 intro γ ac hE
 refine sq_t hE [Rw 2 (.s (.v (.pointer none)))] [(0, .s (inI .i64 id)), (2, .s (.v (.pointer none)))] [] ⟨tp, trivial⟩ ?_
 clear hE; intro γ ac wc hE
 refine sq_t hE [Rw 5 (.s (inI .i64 id)) [(0, .s (inI .i64 id))], Rw 6 (.s (st (primeS id))) [(5, .s (inI .i64 id))], Rw 3 (.s (st (primeS id))) [(6, .s (st (primeS id)))]] [(2, .s (.v (.pointer none))), (3, .s (st (primeS id)))] [] ⟨tp, tq fun w => field_prime id w, tp, trivial⟩ ?_
 clear hE; intro γ ac wc hE
 refine wp_seq ?_
 refine sq_t hE [Rw 7 (.s (st (primeS id))) [(3, .s (st (primeS id)))], Rw 8 (vB false) [(7, .s (st (primeS id)))]] [(2, .s (.v (.pointer none))), (3, .s (st (primeS id))), (8, vB false)] [] ⟨tp, tE fun _ => congrArg Value.bool hid0, trivial⟩ ?_
 clear hE; intro γ ac wc hE
 refine cond_sx hE rfl (fun h => by cases h) (fun _ => ?_)
 refine wp_skip ?_
 refine then_normal ?_
 refine sq_t hE [Rw 9 (.s (st (primeS id))) [(3, .s (st (primeS id)))], Rw 10 (.agg (U9 (hexF (primeS id)))) [(9, .s (st (primeS id)))], Rw 4 (vP 4 0) [] [] [(4, (.sc (U9 0), 37))], Rz [(4, vP 4 0), (10, .agg (U9 (hexF (primeS id))))] [(4, (.sc (U9 0), 37))] [(4, (.sc (U9 (hexF (primeS id))), 37))]] [(2, .s (.v (.pointer none))), (3, .s (st (primeS id))), (4, vP 4 0)] [(4, (.sc (U9 (hexF (primeS id))), 37))] ⟨tp, tq fun w => field_Hex (primeS id) (primeS_size id) w, ta zt37, ts sz37, trivial⟩ ?_
 clear hE; intro γ ac wc hE
 refine sq_d hE [Rw 11 (.agg (U9 (hexF (primeS id)))) [(4, vP 4 0)] [(4, (.sc (U9 (hexF (primeS id))), 37))], Rw 12 (.agg (U9 (hexF (primeS id)))) [(4, vP 4 0)] [(4, (.sc (U9 (hexF (primeS id))), 37))], Rw 13 (.agg [(.ptr 13 0)]) [(12, .agg (U9 (hexF (primeS id))))] [] [(13, (.sc (U9 ((hexF (primeS id)) * 2 ^ dvS (hexF (primeS id))) ++ [(iN (nw (hexF (primeS id)))), (iN (dvS (hexF (primeS id))))]), 204))], Rw 14 (.agg (U9 (hexF (primeS id)) ++ [(.ptr 13 0)])) [(11, .agg (U9 (hexF (primeS id)))), (13, .agg [(.ptr 13 0)])], Rw 15 (vP 15 0) [(14, .agg (U9 (hexF (primeS id)) ++ [(.ptr 13 0)]))] [] [(15, (.sc (U9 (hexF (primeS id)) ++ [(.ptr 13 0)]), 153))], Rw 2 (vP 15 0) [(15, vP 15 0)]] [(2, vP 15 0), (3, .s (st (primeS id))), (4, vP 4 0)] [(4, (.sc (U9 (hexF (primeS id))), 37)), (13, (.sc (U9 ((hexF (primeS id)) * 2 ^ dvS (hexF (primeS id))) ++ [(iN (nw (hexF (primeS id)))), (iN (dvS (hexF (primeS id))))]), 204)), (15, (.sc (U9 (hexF (primeS id)) ++ [(.ptr 13 0)]), 153))] ⟨tl ag37, tl ag37, tc fun γ w hk hf hks => (div_By (hexF (primeS id)) hp0 hpl w).mono (fun e w' ⟨g, h1, h2, h3, h4⟩ => ⟨nm γ 13 g, Eff.fresh1 13 _ rfl rfl h2 h4 (h3.trans (congrArg some (dvO_obj (nm γ 13 g) _ _ _).symm)), ret_mod γ 13 g h1⟩), tp, tb, tp, trivial⟩ ?_
 clear hE; intro γ ac wc hE
 refine wp_ret ?_
 have hh := Ct.sc_at (hE.heap 15 _ rfl)
 have hh2 := Ct.sc_at (hE.heap 13 _ rfl)
 have hO := hE.new (k := 15) rfl
 have hO2 := hE.new (k := 13) rfl
 have hne := hE.ne (k := 15) (k' := 13) rfl rfl
 exact (end1 hE rfl (.tmp 2 (vP 15 0) rfl) (⟨γ 15, γ 13, rfl, hO, hO2, hne, hh.trans (congrArg some (fldO_obj γ _ 13)), hh2.trans (congrArg some (dvO_obj γ _ _ _)), hE.keep.below⟩)).1
end Go.Proofs.Ytddfimfgcfgpbaa
