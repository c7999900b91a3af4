/-
  nat.used and nat.Cmp.
-/
import Derived.Test.YtddfimfgcfgpbaaSTf
import Derived.Test.YtddfimfgcfgpbaaSNa
namespace Go.Proofs.Ytddfimfgcfgpbaa
open Sx
open Go.RowKit (Below)
set_option exponentiation.threshold 2000
theorem wri_i64 {A : Int} (h1 : -9223372036854775808 ≤ A) (h2 : A < 9223372036854775808) : Value.int .i64 (IntKind.i64.wrap A) = Value.int .i64 A := by
  congr 1; rw [IntKind.wrap_i64]; omega
theorem lt_heap {w : World} {g : Nat} {o : Obj} (h : w.heap[g]? = some o) : g < w.heap.size := (Array.getElem?_eq_some_iff.1 h).1
theorem nwk_pred {x n : Nat} (h : 0 < n) (h0 : dg x (n - 1) = 0) : nwk x (n - 1) = nwk x n := by
  obtain ⟨m, rfl⟩ : ∃ m, n = m + 1 := ⟨n - 1, by omega⟩
  exact (nwk_zero h0).symm
theorem nwk_stop {x n : Nat} (hG : nwk x n = nwk x 9) (h : n = 0 ∨ ¬ (dg x (n - 1) = 0)) : n = nw x := by
  unfold nw
  rw [← hG]
  cases n with
  | zero => rfl
  | succ m =>
    rcases h with h | h
    · cases h
    · exact (nwk_pos h).symm
def cmp3 (a b : Nat) : Int := if a < b then -1 else if b < a then 1 else 0
theorem cmp_eq {a b n : Nat} (h : 0 < n) (hG : a / 2 ^ (64 * n) = b / 2 ^ (64 * n)) (h0 : dg a (n - 1) = dg b (n - 1)) : a / 2 ^ (64 * (n - 1)) = b / 2 ^ (64 * (n - 1)) := by
  have e1 := hi_succ a (n - 1)
  have e2 := hi_succ b (n - 1)
  rw [show n - 1 + 1 = n by omega] at e1 e2
  rw [e1, e2, hG, h0]
theorem lt_of_div {a b m : Nat} (h : a / m < b / m) : a < b := by
  refine Nat.lt_of_not_le fun h2 => ?_
  have := Nat.div_le_div_right (c := m) h2
  omega
theorem cmp_lt {a b n : Nat} (h : 0 < n) (hG : a / 2 ^ (64 * n) = b / 2 ^ (64 * n)) (h0 : dg a (n - 1) < dg b (n - 1)) : cmp3 a b = -1 := by
  have e1 := hi_succ a (n - 1)
  have e2 := hi_succ b (n - 1)
  rw [show n - 1 + 1 = n by omega] at e1 e2
  rw [hG] at e1
  have : a < b := lt_of_div (m := 2 ^ (64 * (n - 1))) (by omega)
  simp [cmp3, this]
theorem cmp_gt {a b n : Nat} (h : 0 < n) (hG : a / 2 ^ (64 * n) = b / 2 ^ (64 * n)) (h0 : dg b (n - 1) < dg a (n - 1)) : cmp3 a b = 1 := by
  have e1 := hi_succ a (n - 1)
  have e2 := hi_succ b (n - 1)
  rw [show n - 1 + 1 = n by omega] at e1 e2
  rw [hG] at e1
  have : b < a := lt_of_div (m := 2 ^ (64 * (n - 1))) (by omega)
  simp [cmp3, this, Nat.not_lt.2 (Nat.le_of_lt this)]
theorem cmp_end {a b n : Nat} (h : n = 0) (hG : a / 2 ^ (64 * n) = b / 2 ^ (64 * n)) : cmp3 a b = 0 := by
  subst h
  simp at hG
  simp [cmp3, hG]
theorem nat_used (g x : Nat) (w0 : World) (hx : w0.heap[g]? = some (.cells ((U9 x).map (Sc.den fun _ => 0)).toArray 37 (0, 0))) : Calls Try.prog 129 #[.pointer (some ⟨g, 0, none⟩)] w0 fun e w => e = .returned (.int .i64 (nw x : Nat)) ∧ Below w0.heap.size w0 w := by
 have hg := lt_heap hx
 refine enter_sx [(0, vX g 0)] 19 Try.func129 rfl rfl (Nat.le_of_ble_eq_true (by kernel_rfl)) (fun γ => by kernel_rfl) ?_
 intro γ ac hE
 refine sq_t hE [Rw 2 (vI 0)] [(0, vX g 0), (2, vI 0)] [] ⟨tp, trivial⟩ ?_
 clear hE; intro γ ac wc hE
 refine sq_t hE [Rw 3 (vI 9)] [(0, vX g 0), (2, vI 0), (3, vI 9)] [] ⟨tp, trivial⟩ ?_
 clear hE; intro γ ac wc hE
 refine wp_seq ?_
 refine wp_block ?_
 refine loop_sx (σ := Nat) (fun n => n) (fun n => nwk x n = nwk x 9 ∧ n ≤ 9)
     (fun n => [(0, vX g 0), (2, vI 0), (3, vI n)])
     (fun n => [])
     (9) (⟨rfl, by omega⟩) (hE.sub (by kernel_rfl) (by kernel_rfl)) ?_
 clear hE; intro n γ ac wc hG hE
 refine wp_seq ?_
 rcases Bool.eq_false_or_eq_true (decide (0 < n)) with hb1 | hb1
 ·
  have hb1p := of_decide_eq_true hb1
  refine sq_t hE [Rw 4 (vI n) [(3, vI n)], Rw 5 (vB true) [(4, vI n)], Rw 6 (vB true) [(5, vB true)], Rw 7 (vX g 0) [(0, vX g 0), (6, vB true)], Rw 8 (vI n) [(3, vI n), (6, vB true)], Rw 9 (vI (n - 1)) [(8, vI n), (6, vB true)], Rw 10 (vX g 0) [(7, vX g 0), (6, vB true)], Rw 11 (vX g 0) [(10, vX g 0), (6, vB true)], Rw 12 (vX g (n - 1)) [(11, vX g 0), (9, vI (n - 1)), (6, vB true)], Rw 13 (vW (dg x (n - 1))) [(12, vX g (n - 1)), (6, vB true)], Rw 14 (vB (decide (dg x (n - 1) = 0))) [(13, vW (dg x (n - 1))), (6, vB true)], Rw 15 (vB (decide (dg x (n - 1) = 0))) [(6, vB true), (14, vB (decide (dg x (n - 1) = 0)))]] [(0, vX g 0), (2, vI 0), (3, vI n), (15, vB (decide (dg x (n - 1) = 0)))] [] ⟨tp, tE fun _ => (d_gtr _ _).trans (congrArg Value.bool hb1), tp, ton tp, ton tp, ton (tE fun _ => wi_sub), ton tp, ton tp, ton (txax0 ar35), ton (trip_loadx1 12 g (n - 1) 22 (U9 x) 37 (.int .u64 ((dg x (n - 1) : Nat) : Int)) rfl rfl rfl rfl rfl rfl (fun w hk => hk.get hx) on22 (U9_get (by omega)) rfl), ton (tE fun _ => d_eql _ _), tp, trivial⟩ ?_
  clear hE; intro γ ac wc hE
  refine cond_sx hE rfl (fun hb2 => ?_) (fun hb2 => ?_)
  ·
   have hb2p := of_decide_eq_true hb2
   refine wp_skip ?_
   refine then_normal ?_
   refine wp_block ?_
   refine rg_t hE [Rw 16 (vI n) [(3, vI n)], Rw 17 (vI (n - 1)) [(16, vI n)], Rw 3 (vI (n - 1)) [(17, vI (n - 1))]] [(0, vX g 0), (2, vI 0), (3, vI (n - 1))] [] ⟨tp, tE fun _ => wi_sub, tp, trivial⟩ ?_
   clear hE; intro γ ac wc hE
   refine blk_normal ?_
   refine then_normal ⟨n - 1, by omega, ⟨(nwk_pred hb1p hb2p).trans hG.1, by omega⟩, γ, hE.sub (by kernel_rfl) (by kernel_rfl)⟩
  ·
   have hb2p := of_decide_eq_false hb2
   refine wp_exit ?_
   refine then_exit ?_
   refine then_exit ?_
   refine blk_hit ?_
   refine then_normal ?_
   refine sq_t hE [Rw 18 (vI n) [(3, vI n)], Rw 2 (vI n) [(18, vI n)]] [(0, vX g 0), (2, vI n), (3, vI n)] [] ⟨tp, tp, trivial⟩ ?_
   clear hE; intro γ ac wc hE
   refine wp_ret ?_
   have hn : n = nw x := nwk_stop hG.1 (by first | exact .inl (by omega) | exact .inr (by assumption))
   exact (end1 hE rfl (.tmp 2 (vI n) rfl) (⟨by rw [hn]; rfl, hE.keep.below⟩)).1
 ·
  have hb1p := of_decide_eq_false hb1
  refine sq_t hE [Rw 4 (vI n) [(3, vI n)], Rw 5 (vB false) [(4, vI n)], Rw 6 (vB false) [(5, vB false)], Rw 7 vU [(6, vB false)], Rw 8 vU [(6, vB false)], Rw 9 vU [(6, vB false)], Rw 10 vU [(6, vB false)], Rw 11 vU [(6, vB false)], Rw 12 vU [(6, vB false)], Rw 13 vU [(6, vB false)], Rw 14 vU [(6, vB false)], Rw 15 (vB false) [(6, vB false), (14, vU)]] [(0, vX g 0), (2, vI 0), (3, vI n), (15, vB false)] [] ⟨tp, tE fun _ => (d_gtr _ _).trans (congrArg Value.bool hb1), tp, tof, tof, tof, tof, tof, tof, tof, tof, tp, trivial⟩ ?_
  clear hE; intro γ ac wc hE
  refine cond_sx hE rfl (fun h => by cases h) (fun _ => ?_)
  refine wp_exit ?_
  refine then_exit ?_
  refine then_exit ?_
  refine blk_hit ?_
  refine then_normal ?_
  refine sq_t hE [Rw 18 (vI n) [(3, vI n)], Rw 2 (vI n) [(18, vI n)]] [(0, vX g 0), (2, vI n), (3, vI n)] [] ⟨tp, tp, trivial⟩ ?_
  clear hE; intro γ ac wc hE
  refine wp_ret ?_
  have hn : n = nw x := nwk_stop hG.1 (by first | exact .inl (by omega) | exact .inr (by assumption))
  exact (end1 hE rfl (.tmp 2 (vI n) rfl) (⟨by rw [hn]; rfl, hE.keep.below⟩)).1
theorem nat_Cmp (a b : Nat) (ha : a < 2 ^ 576) (hb : b < 2 ^ 576) (w0 : World) : Calls Try.prog 85 #[nv a, nv b] w0 fun e w => e = .returned (.int .i64 (cmp3 a b)) ∧ Below w0.heap.size w0 w := by
 refine enter_sx [(0, .agg (U9 a)), (1, .agg (U9 b))] 30 Try.func85 rfl rfl (Nat.le_of_ble_eq_true (by kernel_rfl)) (fun γ => by kernel_rfl) ?_
 intro γ ac hE
 refine sq_t hE [Rw 2 (vP 2 0) [(0, .agg (U9 a))] [] [(2, (.sc (U9 a), 37))], Rw 3 (vP 3 0) [(1, .agg (U9 b))] [] [(3, (.sc (U9 b), 37))], Rw 4 (vI 0)] [(2, vP 2 0), (3, vP 3 0), (4, vI 0)] [(2, (.sc (U9 a), 37)), (3, (.sc (U9 b), 37))] ⟨tb, tb, tp, trivial⟩ ?_
 clear hE; intro γ ac wc hE
 refine wp_seq ?_
 refine sq_t hE [Rw 5 (vI 8)] [(2, vP 2 0), (3, vP 3 0), (4, vI 0), (5, vI 8)] [(2, (.sc (U9 a), 37)), (3, (.sc (U9 b), 37))] ⟨tp, trivial⟩ ?_
 clear hE; intro γ ac wc hE
 refine wp_block ?_
 refine loop_sx (σ := Nat) (fun n => n) (fun n => a / 2 ^ (64 * n) = b / 2 ^ (64 * n) ∧ n ≤ 9)
     (fun n => [(2, vP 2 0), (3, vP 3 0), (4, vI 0), (5, .s (inI .i64 (((n : Nat) : Int) - 1)))])
     (fun n => [(2, (.sc (U9 a), 37)), (3, (.sc (U9 b), 37))])
     (9) (⟨by rw [show (2 : Nat) ^ (64 * 9) = 2 ^ 576 from rfl, Nat.div_eq_of_lt ha, Nat.div_eq_of_lt hb], by omega⟩) (hE.sub (by kernel_rfl) (by kernel_rfl)) ?_
 clear hE; intro n γ ac wc hG hE
 refine wp_seq ?_
 refine sq_t hE [Rw 6 (.s (inI .i64 (((n : Nat) : Int) - 1))) [(5, .s (inI .i64 (((n : Nat) : Int) - 1)))], Rw 7 (vB (decide (0 < n))) [(6, .s (inI .i64 (((n : Nat) : Int) - 1)))]] [(2, vP 2 0), (3, vP 3 0), (4, vI 0), (5, .s (inI .i64 (((n : Nat) : Int) - 1))), (7, vB (decide (0 < n)))] [(2, (.sc (U9 a), 37)), (3, (.sc (U9 b), 37))] ⟨tp, tE (x := .bool (decide ((((n : Nat) : Int) - 1) ≥ ((0 : Nat) : Int)))) fun _ => (congrArg Value.bool (decide_eq_decide.2 (by omega))), trivial⟩ ?_
 clear hE; intro γ ac wc hE
 refine cond_sx hE rfl (fun hb1 => ?_) (fun hb1 => ?_)
 ·
  have hb1p := of_decide_eq_true hb1
  have hi : ((n : Nat) : Int) - 1 = ((n - 1 : Nat) : Int) := by omega
  rw [hi] at hE
  refine wp_skip ?_
  refine then_normal ?_
  refine wp_seq ?_
  refine wp_block ?_
  refine wp_block ?_
  refine sq_d hE [Rw 11 (vI (n - 1)) [(5, vI (n - 1))], Rw 12 (vP 2 0) [(2, vP 2 0)], Rw 13 (vP 2 (n - 1)) [(12, vP 2 0), (11, vI (n - 1))], Rw 14 (vW (dg a (n - 1))) [(13, vP 2 (n - 1))] [(2, (.sc (U9 a), 37))], Rw 15 (vI (n - 1)) [(5, vI (n - 1))], Rw 16 (vP 3 0) [(3, vP 3 0)], Rw 17 (vP 3 (n - 1)) [(16, vP 3 0), (15, vI (n - 1))], Rw 18 (vW (dg b (n - 1))) [(17, vP 3 (n - 1))] [(3, (.sc (U9 b), 37))], Rw 19 (vB (decide (dg a (n - 1) < dg b (n - 1)))) [(14, vW (dg a (n - 1))), (18, vW (dg b (n - 1)))], Rw 10 (vB (decide (dg a (n - 1) < dg b (n - 1)))) [(19, vB (decide (dg a (n - 1) < dg b (n - 1))))]] [(2, vP 2 0), (3, vP 3 0), (4, vI 0), (5, vI (n - 1)), (10, vB (decide (dg a (n - 1) < dg b (n - 1))))] [(2, (.sc (U9 a), 37)), (3, (.sc (U9 b), 37))] ⟨tp, tp, txa0 ar35, tlU on22, tp, tp, txa0 ar35, tlU on22, tE fun _ => d_lss _ _, tp, trivial⟩ ?_
  clear hE; intro γ ac wc hE
  refine cond_sx hE rfl (fun hb2 => ?_) (fun hb2 => ?_)
  ·
   have hb2p := of_decide_eq_true hb2
   refine sq_t hE [Rw 4 (.s (inI .i64 (-1)))] [(2, vP 2 0), (3, vP 3 0), (4, .s (inI .i64 (-1))), (5, vI (n - 1))] [(2, (.sc (U9 a), 37)), (3, (.sc (U9 b), 37))] ⟨tp, trivial⟩ ?_
   clear hE; intro γ ac wc hE
   refine wp_ret ?_
   refine blk_ret ?_
   refine blk_ret ?_
   refine then_ret ?_
   refine then_ret ?_
   refine blk_ret ?_
   refine then_ret ?_
   exact (end1 hE rfl (.tmp 4 (.s (inI .i64 (-1))) rfl) (⟨by rw [cmp_lt hb1p hG.1 (by assumption)]; rfl, hE.keep.below⟩)).1
  ·
   have hb2p := of_decide_eq_false hb2
   refine sq_d hE [Rw 21 (vI (n - 1)) [(5, vI (n - 1))], Rw 22 (vP 2 0) [(2, vP 2 0)], Rw 23 (vP 2 (n - 1)) [(22, vP 2 0), (21, vI (n - 1))], Rw 24 (vW (dg a (n - 1))) [(23, vP 2 (n - 1))] [(2, (.sc (U9 a), 37))], Rw 25 (vI (n - 1)) [(5, vI (n - 1))], Rw 26 (vP 3 0) [(3, vP 3 0)], Rw 27 (vP 3 (n - 1)) [(26, vP 3 0), (25, vI (n - 1))], Rw 28 (vW (dg b (n - 1))) [(27, vP 3 (n - 1))] [(3, (.sc (U9 b), 37))], Rw 29 (vB (decide (dg b (n - 1) < dg a (n - 1)))) [(24, vW (dg a (n - 1))), (28, vW (dg b (n - 1)))], Rw 20 (vB (decide (dg b (n - 1) < dg a (n - 1)))) [(29, vB (decide (dg b (n - 1) < dg a (n - 1))))]] [(2, vP 2 0), (3, vP 3 0), (4, vI 0), (5, vI (n - 1)), (20, vB (decide (dg b (n - 1) < dg a (n - 1))))] [(2, (.sc (U9 a), 37)), (3, (.sc (U9 b), 37))] ⟨tp, tp, txa0 ar35, tlU on22, tp, tp, txa0 ar35, tlU on22, tE fun _ => d_gtr _ _, tp, trivial⟩ ?_
   clear hE; intro γ ac wc hE
   refine cond_sx hE rfl (fun hb3 => ?_) (fun hb3 => ?_)
   ·
    have hb3p := of_decide_eq_true hb3
    refine sq_t hE [Rw 4 (vI 1)] [(2, vP 2 0), (3, vP 3 0), (4, vI 1), (5, vI (n - 1))] [(2, (.sc (U9 a), 37)), (3, (.sc (U9 b), 37))] ⟨tp, trivial⟩ ?_
    clear hE; intro γ ac wc hE
    refine wp_ret ?_
    refine blk_ret ?_
    refine blk_ret ?_
    refine then_ret ?_
    refine then_ret ?_
    refine blk_ret ?_
    refine then_ret ?_
    exact (end1 hE rfl (.tmp 4 (vI 1) rfl) (⟨by rw [cmp_gt hb1p hG.1 (by assumption)]; rfl, hE.keep.below⟩)).1
   ·
    have hb3p := of_decide_eq_false hb3
    refine wp_skip ?_
    refine blk_normal ?_
    refine blk_normal ?_
    refine then_normal ?_
    refine rg_t hE [Rw 8 (vI (n - 1)) [(5, vI (n - 1))], Rw 9 (.s (inI .i64 (((n - 1 : Nat) : Int) - ((1 : Nat) : Int)))) [(8, vI (n - 1))], Rw 5 (.s (inI .i64 (((n - 1 : Nat) : Int) - ((1 : Nat) : Int)))) [(9, .s (inI .i64 (((n - 1 : Nat) : Int) - ((1 : Nat) : Int))))]] [(2, vP 2 0), (3, vP 3 0), (4, vI 0), (5, .s (inI .i64 (((n - 1 : Nat) : Int) - ((1 : Nat) : Int))))] [(2, (.sc (U9 a), 37)), (3, (.sc (U9 b), 37))] ⟨tp, tE (x := .int .i64 (IntKind.i64.wrap (((n - 1 : Nat) : Int) - ((1 : Nat) : Int)))) fun _ => wri_i64 (by omega) (by omega), tp, trivial⟩ ?_
    clear hE; intro γ ac wc hE
    refine then_normal ⟨n - 1, by omega, ⟨cmp_eq hb1p hG.1 (by omega), by omega⟩, γ, hE.sub (by kernel_rfl) (by kernel_rfl)⟩
 ·
  have hb1p := of_decide_eq_false hb1
  refine wp_exit ?_
  refine then_exit ?_
  refine then_exit ?_
  refine blk_hit ?_
  refine then_normal ?_
  refine sq_t hE [Rw 4 (vI 0)] [(2, vP 2 0), (3, vP 3 0), (4, vI 0), (5, .s (inI .i64 (((n : Nat) : Int) - 1)))] [(2, (.sc (U9 a), 37)), (3, (.sc (U9 b), 37))] ⟨tp, trivial⟩ ?_
  clear hE; intro γ ac wc hE
  refine wp_ret ?_
  exact (end1 hE rfl (.tmp 4 (vI 0) rfl) (⟨by rw [cmp_end (n := n) (by omega) hG.1]; rfl, hE.keep.below⟩)).1
end Go.Proofs.Ytddfimfgcfgpbaa
