/-
  The parts of long division.
-/
import Derived.Test.YtddfimfgcfgpbaaSTf
import Derived.Test.YtddfimfgcfgpbaaSDv
import Derived.Test.YtddfimfgcfgpbaaSDm
import Derived.Test.YtddfimfgcfgpbaaSWp
namespace Go.Proofs.Ytddfimfgcfgpbaa
open Sx
open Go.RowKit (Below)
set_option exponentiation.threshold 2000
noncomputable abbrev dvO (M n s : Nat) : Obj := .cells ((U9 M ++ [inN .i64 n, inN .i64 s]).map (Sc.den fun _ => 0)).toArray 204 (0, 0)
noncomputable abbrev u19 (u : Nat) : Obj := .cells ((Un 19 u).map (Sc.den fun _ => 0)).toArray 206 (0, 0)
theorem nwk_stop' {x k n : Nat} (hG : nwk x k = nwk x n) (h : k = 0 ∨ ¬ (dg x (k - 1) = 0)) : k = nwk x n := by
  rw [← hG]
  cases k with
  | zero => rfl
  | succ m =>
    rcases h with h | h
    · cases h
    · exact (nwk_pos h).symm
theorem gs_q {hi lo top : Nat} (h : ¬ top ≤ hi) (hl : lo < 18446744073709551616 := by exact dg_lt _ _) : (hi * 18446744073709551616 + lo) / top < 18446744073709551616 := by
  rw [Nat.div_lt_iff_lt_mul (by omega)]; omega
theorem ite_le (p : Prop) [Decidable p] : (if p then 1 else 0 : Nat) ≤ 1 := by split <;> omega
theorem add_one (z : Nat) : z % 18446744073709551616 + 18446744073709551616 * (z / 18446744073709551616) = z := by omega
theorem add_le {x y c : Nat} (hx : x < 18446744073709551616) (hy : y < 18446744073709551616) (hc : c ≤ 1) : (x + y + c) / 18446744073709551616 ≤ 1 := by omega
theorem div_length (g x n cap T : Nat) (cs : List Sc) (hn : n < 1000) (hc : ∀ i, i < n → cs[i]? = some (inN .u64 (dg x i))) (w0 : World) (hx : w0.heap[g]? = some (.cells (cs.map (Sc.den fun _ => 0)).toArray T (0, 0))) : Calls Try.prog 145 #[.slice (some ⟨g, 0, none⟩) n cap] w0 fun e w => e = .returned (.int .i64 (nwk x n : Nat)) ∧ Below w0.heap.size w0 w := by
 have hg := lt_heap hx
 refine enter_sx [(0, .s (.v (.slice (some ⟨g, 0, none⟩) n cap)))] 19 Try.func145 rfl rfl (Nat.le_of_ble_eq_true (by kernel_rfl)) (fun γ => by kernel_rfl) ?_
 intro γ ac hE
 refine sq_t hE [Rw 2 (vI 0)] [(0, .s (.v (.slice (some ⟨g, 0, none⟩) n cap))), (2, vI 0)] [] ⟨tp, trivial⟩ ?_
 clear hE; intro γ ac wc hE
 refine sq_t hE [Rw 4 (.s (.v (.slice (some ⟨g, 0, none⟩) n cap))) [(0, .s (.v (.slice (some ⟨g, 0, none⟩) n cap)))], Rw 5 (vI n) [(4, .s (.v (.slice (some ⟨g, 0, none⟩) n cap)))], Rw 3 (vI n) [(5, vI n)]] [(0, .s (.v (.slice (some ⟨g, 0, none⟩) n cap))), (2, vI 0), (3, vI n)] [] ⟨tp, tp, tp, trivial⟩ ?_
 clear hE; intro γ ac wc hE
 refine wp_seq ?_
 refine wp_block ?_
 refine loop_sx (σ := Nat) (fun k => k) (fun k => nwk x k = nwk x n ∧ k ≤ n)
     (fun k => [(0, .s (.v (.slice (some ⟨g, 0, none⟩) n cap))), (2, vI 0), (3, vI k)])
     (fun k => [])
     (n) (⟨rfl, by omega⟩) (hE.sub (by kernel_rfl) (by kernel_rfl)) ?_
 clear hE; intro k γ ac wc hG hE
 refine wp_seq ?_
 rcases Bool.eq_false_or_eq_true (decide (0 < k)) with hb1 | hb1
 ·
  have hb1p := of_decide_eq_true hb1
  refine sq_t hE [Rw 6 (vI k) [(3, vI k)], Rw 7 (vB true) [(6, vI k)], Rw 8 (vB true) [(7, vB true)], Rw 9 (.s (.v (.slice (some ⟨g, 0, none⟩) n cap))) [(0, .s (.v (.slice (some ⟨g, 0, none⟩) n cap))), (8, vB true)], Rw 10 (vI k) [(3, vI k), (8, vB true)], Rw 11 (vI (k - 1)) [(10, vI k), (8, vB true)], Rw 12 (vX g (k - 1)) [(9, .s (.v (.slice (some ⟨g, 0, none⟩) n cap))), (11, vI (k - 1)), (8, vB true)], Rw 13 (vW (dg x (k - 1))) [(12, vX g (k - 1)), (8, vB true)], Rw 14 (vB (decide (dg x (k - 1) = 0))) [(13, vW (dg x (k - 1))), (8, vB true)], Rw 15 (vB (decide (dg x (k - 1) = 0))) [(8, vB true), (14, vB (decide (dg x (k - 1) = 0)))]] [(0, .s (.v (.slice (some ⟨g, 0, none⟩) n cap))), (2, vI 0), (3, vI k), (15, vB (decide (dg x (k - 1) = 0)))] [] ⟨tp, tE fun _ => (d_gtr _ _).trans (congrArg Value.bool hb1), tp, ton tp, ton tp, ton (tE fun _ => wi_sub), ton (txsx sl198), ton (trip_loadx1 12 g (k - 1) 22 (cs) T (.int .u64 ((dg x (k - 1) : Nat) : Int)) rfl rfl rfl rfl rfl rfl (fun w hk => hk.get hx) on22 (hc _ (by omega)) rfl), ton (tE fun _ => d_eql _ _), tp, trivial⟩ ?_
  clear hE; intro γ ac wc hE
  refine cond_sx hE rfl (fun hb2 => ?_) (fun hb2 => ?_)
  ·
   have hb2p := of_decide_eq_true hb2
   refine wp_skip ?_
   refine then_normal ?_
   refine wp_block ?_
   refine rg_t hE [Rw 16 (vI k) [(3, vI k)], Rw 17 (vI (k - 1)) [(16, vI k)], Rw 3 (vI (k - 1)) [(17, vI (k - 1))]] [(0, .s (.v (.slice (some ⟨g, 0, none⟩) n cap))), (2, vI 0), (3, vI (k - 1))] [] ⟨tp, tE fun _ => wi_sub, tp, trivial⟩ ?_
   clear hE; intro γ ac wc hE
   refine blk_normal ?_
   refine then_normal ⟨k - 1, by omega, ⟨(nwk_pred hb1p hb2p).trans hG.1, by omega⟩, γ, hE.sub (by kernel_rfl) (by kernel_rfl)⟩
  ·
   have hb2p := of_decide_eq_false hb2
   refine wp_exit ?_
   refine then_exit ?_
   refine then_exit ?_
   refine blk_hit ?_
   refine then_normal ?_
   refine sq_t hE [Rw 18 (vI k) [(3, vI k)], Rw 2 (vI k) [(18, vI k)]] [(0, .s (.v (.slice (some ⟨g, 0, none⟩) n cap))), (2, vI k), (3, vI k)] [] ⟨tp, tp, trivial⟩ ?_
   clear hE; intro γ ac wc hE
   refine wp_ret ?_
   have hn : k = nwk x n := nwk_stop' hG.1 (by first | exact .inl (by omega) | exact .inr (by assumption))
   exact (end1 hE rfl (.tmp 2 (vI k) rfl) (⟨by rw [hn]; rfl, hE.keep.below⟩)).1
 ·
  have hb1p := of_decide_eq_false hb1
  refine sq_t hE [Rw 6 (vI k) [(3, vI k)], Rw 7 (vB false) [(6, vI k)], Rw 8 (vB false) [(7, vB false)], Rw 9 vU [(8, vB false)], Rw 10 vU [(8, vB false)], Rw 11 vU [(8, vB false)], Rw 12 vU [(8, vB false)], Rw 13 vU [(8, vB false)], Rw 14 vU [(8, vB false)], Rw 15 (vB false) [(8, vB false), (14, vU)]] [(0, .s (.v (.slice (some ⟨g, 0, none⟩) n cap))), (2, vI 0), (3, vI k), (15, vB false)] [] ⟨tp, tE fun _ => (d_gtr _ _).trans (congrArg Value.bool hb1), tp, tof, tof, tof, tof, tof, tof, tp, trivial⟩ ?_
  clear hE; intro γ ac wc hE
  refine cond_sx hE rfl (fun h => by cases h) (fun _ => ?_)
  refine wp_exit ?_
  refine then_exit ?_
  refine then_exit ?_
  refine blk_hit ?_
  refine then_normal ?_
  refine sq_t hE [Rw 18 (vI k) [(3, vI k)], Rw 2 (vI k) [(18, vI k)]] [(0, .s (.v (.slice (some ⟨g, 0, none⟩) n cap))), (2, vI k), (3, vI k)] [] ⟨tp, tp, trivial⟩ ?_
  clear hE; intro γ ac wc hE
  refine wp_ret ?_
  have hn : k = nwk x n := nwk_stop' hG.1 (by first | exact .inl (by omega) | exact .inr (by assumption))
  exact (end1 hE rfl (.tmp 2 (vI k) rfl) (⟨by rw [hn]; rfl, hE.keep.below⟩)).1
theorem div_guess (gd gu M n s u at_ cap : Nat) (hn : 1 ≤ n) (hn9 : n ≤ 9) (hat : at_ + n < 19) (w0 : World) (hd : w0.heap[gd]? = some (dvO M n s)) (hu : w0.heap[gu]? = some (u19 u)) : Calls Try.prog 150 #[.pointer (some ⟨gd, 0, none⟩), .slice (some ⟨gu, 0, none⟩) 19 cap, .int .i64 at_] w0 fun e w => e = .returned (.int .u64 (gs M n u at_ : Nat)) ∧ Below w0.heap.size w0 w := by
 have hgd := lt_heap hd
 have hgu := lt_heap hu
 refine enter_sx [(0, vX gd 0), (1, .s (.v (.slice (some ⟨gu, 0, none⟩) 19 cap))), (2, vI at_)] 108 Try.func150 rfl rfl (Nat.le_of_ble_eq_true (by kernel_rfl)) (fun γ => by kernel_rfl) ?_
 intro γ ac hE
 refine sq_t hE [Rw 6 (vW 0)] [(0, vX gd 0), (1, .s (.v (.slice (some ⟨gu, 0, none⟩) 19 cap))), (2, vI at_), (6, vW 0)] [] ⟨tp, trivial⟩ ?_
 clear hE; intro γ ac wc hE
 refine sq_d hE [Rw 15 (vX gd 0) [(0, vX gd 0)], Rw 16 (vX gd 0) [(0, vX gd 0)], Rw 17 (vX gd 0) [(16, vX gd 0)], Rw 18 (vX gd 9) [(17, vX gd 0)], Rw 19 (vI n) [(18, vX gd 9)], Rw 20 (vI (n - 1)) [(19, vI n)], Rw 21 (vX gd 0) [(15, vX gd 0)], Rw 22 (vX gd 0) [(21, vX gd 0)], Rw 23 (vX gd (n - 1)) [(22, vX gd 0), (20, vI (n - 1))], Rw 24 (vW (dg M (n - 1))) [(23, vX gd (n - 1))], Rw 7 (vW (dg M (n - 1))) [(24, vW (dg M (n - 1)))]] [(0, vX gd 0), (1, .s (.v (.slice (some ⟨gu, 0, none⟩) 19 cap))), (2, vI at_), (6, vW 0), (7, vW (dg M (n - 1)))] [] ⟨tp, tp, tp, tp, tlx1 (fun w hk => hk.get hd) on3, tE fun _ => wi_sub, tp, tp, txax0 ar35, trip_loadx1 23 gd (n - 1) 22 (U9 M ++ [(iN n), (iN s)]) 204 (.int .u64 ((dg M (n - 1) : Nat) : Int)) rfl rfl rfl rfl rfl rfl (fun w hk => hk.get hd) on22 (U9_get' (by omega)) rfl, tp, trivial⟩ ?_
 clear hE; intro γ ac wc hE
 refine sq_d hE [Rw 25 (.s (.v (.slice (some ⟨gu, 0, none⟩) 19 cap))) [(1, .s (.v (.slice (some ⟨gu, 0, none⟩) 19 cap)))], Rw 26 (vI at_) [(2, vI at_)], Rw 27 (vX gd 0) [(0, vX gd 0)], Rw 28 (vX gd 0) [(27, vX gd 0)], Rw 29 (vX gd 9) [(28, vX gd 0)], Rw 30 (vI n) [(29, vX gd 9)], Rw 31 (vI (at_ + n)) [(26, vI at_), (30, vI n)], Rw 32 (vX gu (at_ + n)) [(25, .s (.v (.slice (some ⟨gu, 0, none⟩) 19 cap))), (31, vI (at_ + n))], Rw 33 (vW (dg u (at_ + n))) [(32, vX gu (at_ + n))], Rw 34 (.s (.v (.slice (some ⟨gu, 0, none⟩) 19 cap))) [(1, .s (.v (.slice (some ⟨gu, 0, none⟩) 19 cap)))], Rw 35 (vI at_) [(2, vI at_)], Rw 36 (vX gd 0) [(0, vX gd 0)], Rw 37 (vX gd 0) [(36, vX gd 0)], Rw 38 (vX gd 9) [(37, vX gd 0)], Rw 39 (vI n) [(38, vX gd 9)], Rw 40 (vI (at_ + n)) [(35, vI at_), (39, vI n)], Rw 41 (vI ((at_ + n) - 1)) [(40, vI (at_ + n))], Rw 42 (vX gu ((at_ + n) - 1)) [(34, .s (.v (.slice (some ⟨gu, 0, none⟩) 19 cap))), (41, vI ((at_ + n) - 1))], Rw 43 (vW (dg u ((at_ + n) - 1))) [(42, vX gu ((at_ + n) - 1))], Rw 8 (vW (dg u (at_ + n))) [(33, vW (dg u (at_ + n)))], Rw 9 (vW (dg u ((at_ + n) - 1))) [(43, vW (dg u ((at_ + n) - 1)))]] [(0, vX gd 0), (1, .s (.v (.slice (some ⟨gu, 0, none⟩) 19 cap))), (2, vI at_), (6, vW 0), (7, vW (dg M (n - 1))), (8, vW (dg u (at_ + n))), (9, vW (dg u ((at_ + n) - 1)))] [] ⟨tp, tp, tp, tp, tp, tlx1 (fun w hk => hk.get hd) on3, tE fun _ => wi_add, txsx sl198, trip_loadx1 32 gu (at_ + n) 22 (Un 19 u) 206 (.int .u64 ((dg u (at_ + n) : Nat) : Int)) rfl rfl rfl rfl rfl rfl (fun w hk => hk.get hu) on22 (Un_get (by omega)) rfl, tp, tp, tp, tp, tp, tlx1 (fun w hk => hk.get hd) on3, tE fun _ => wi_add, tE fun _ => wi_sub, txsx sl198, trip_loadx1 42 gu ((at_ + n) - 1) 22 (Un 19 u) 206 (.int .u64 ((dg u ((at_ + n) - 1) : Nat) : Int)) rfl rfl rfl rfl rfl rfl (fun w hk => hk.get hu) on22 (Un_get (by omega)) rfl, tp, tp, trivial⟩ ?_
 clear hE; intro γ ac wc hE
 refine wp_seq ?_
 refine sq_t hE [Rw 44 (vW (dg u (at_ + n))) [(8, vW (dg u (at_ + n)))], Rw 45 (vW (dg M (n - 1))) [(7, vW (dg M (n - 1)))], Rw 46 (vB (decide (dg M (n - 1) ≤ dg u (at_ + n)))) [(44, vW (dg u (at_ + n))), (45, vW (dg M (n - 1)))]] [(0, vX gd 0), (1, .s (.v (.slice (some ⟨gu, 0, none⟩) 19 cap))), (2, vI at_), (6, vW 0), (7, vW (dg M (n - 1))), (8, vW (dg u (at_ + n))), (9, vW (dg u ((at_ + n) - 1))), (46, vB (decide (dg M (n - 1) ≤ dg u (at_ + n))))] [] ⟨tp, tp, tE fun _ => d_geq _ _, trivial⟩ ?_
 clear hE; intro γ ac wc hE
 refine cond_sx hE rfl (fun hb1 => ?_) (fun hb1 => ?_)
 ·
  have hb1p := of_decide_eq_true hb1
  refine sq_t hE [Rw 6 (vW 18446744073709551615)] [(0, vX gd 0), (1, .s (.v (.slice (some ⟨gu, 0, none⟩) 19 cap))), (2, vI at_), (6, vW 18446744073709551615), (7, vW (dg M (n - 1))), (8, vW (dg u (at_ + n))), (9, vW (dg u ((at_ + n) - 1)))] [] ⟨tp, trivial⟩ ?_
  clear hE; intro γ ac wc hE
  refine wp_ret ?_
  refine then_ret ?_
  exact (end1 hE rfl (.tmp 6 (vW 18446744073709551615) rfl) (⟨by rw [show gs M n u at_ = 18446744073709551615 by unfold gs; rw [if_pos hb1p]]; rfl, hE.keep.below⟩)).1
 ·
  have hb1p := of_decide_eq_false hb1
  refine wp_skip ?_
  refine then_normal ?_
  refine sq_t hE [Rw 48 (vW (dg u (at_ + n))) [(8, vW (dg u (at_ + n)))], Rw 49 (vW (dg u ((at_ + n) - 1))) [(9, vW (dg u ((at_ + n) - 1)))], Rw 50 (vW (dg M (n - 1))) [(7, vW (dg M (n - 1)))], Rw 51 (.two (vW ((dg u (at_ + n) * 18446744073709551616 + dg u ((at_ + n) - 1)) / (dg M (n - 1)))) (vW ((dg u (at_ + n) * 18446744073709551616 + dg u ((at_ + n) - 1)) % (dg M (n - 1))))) [(48, vW (dg u (at_ + n))), (49, vW (dg u ((at_ + n) - 1))), (50, vW (dg M (n - 1)))], Rw 47 (.two (vW ((dg u (at_ + n) * 18446744073709551616 + dg u ((at_ + n) - 1)) / (dg M (n - 1)))) (vW ((dg u (at_ + n) * 18446744073709551616 + dg u ((at_ + n) - 1)) % (dg M (n - 1))))) [(51, .two (vW ((dg u (at_ + n) * 18446744073709551616 + dg u ((at_ + n) - 1)) / (dg M (n - 1)))) (vW ((dg u (at_ + n) * 18446744073709551616 + dg u ((at_ + n) - 1)) % (dg M (n - 1)))))], Rw 52 (vW ((dg u (at_ + n) * 18446744073709551616 + dg u ((at_ + n) - 1)) / (dg M (n - 1)))) [(47, .two (vW ((dg u (at_ + n) * 18446744073709551616 + dg u ((at_ + n) - 1)) / (dg M (n - 1)))) (vW ((dg u (at_ + n) * 18446744073709551616 + dg u ((at_ + n) - 1)) % (dg M (n - 1)))))], Rw 53 (vW ((dg u (at_ + n) * 18446744073709551616 + dg u ((at_ + n) - 1)) % (dg M (n - 1)))) [(47, .two (vW ((dg u (at_ + n) * 18446744073709551616 + dg u ((at_ + n) - 1)) / (dg M (n - 1)))) (vW ((dg u (at_ + n) * 18446744073709551616 + dg u ((at_ + n) - 1)) % (dg M (n - 1)))))], Rw 10 (vW ((dg u (at_ + n) * 18446744073709551616 + dg u ((at_ + n) - 1)) / (dg M (n - 1)))) [(52, vW ((dg u (at_ + n) * 18446744073709551616 + dg u ((at_ + n) - 1)) / (dg M (n - 1))))], Rw 11 (vW ((dg u (at_ + n) * 18446744073709551616 + dg u ((at_ + n) - 1)) % (dg M (n - 1)))) [(53, vW ((dg u (at_ + n) * 18446744073709551616 + dg u ((at_ + n) - 1)) % (dg M (n - 1))))]] [(0, vX gd 0), (1, .s (.v (.slice (some ⟨gu, 0, none⟩) 19 cap))), (2, vI at_), (6, vW 0), (7, vW (dg M (n - 1))), (8, vW (dg u (at_ + n))), (10, vW ((dg u (at_ + n) * 18446744073709551616 + dg u ((at_ + n) - 1)) / (dg M (n - 1)))), (11, vW ((dg u (at_ + n) * 18446744073709551616 + dg u ((at_ + n) - 1)) % (dg M (n - 1))))] [] ⟨tp, tp, tp, tq fun w => bits_Div64 (dg u (at_ + n)) (dg u ((at_ + n) - 1)) (dg M (n - 1)) (dg_lt _ _) (dg_lt _ _) (by omega) w, tp, tp, tp, tp, tp, trivial⟩ ?_
  clear hE; intro γ ac wc hE
  refine wp_seq ?_
  refine sq_t hE [Rw 54 (vX gd 0) [(0, vX gd 0)], Rw 55 (vX gd 0) [(54, vX gd 0)], Rw 56 (vX gd 9) [(55, vX gd 0)], Rw 57 (vI n) [(56, vX gd 9)], Rw 58 (vB (decide (n = 1))) [(57, vI n)]] [(0, vX gd 0), (1, .s (.v (.slice (some ⟨gu, 0, none⟩) 19 cap))), (2, vI at_), (6, vW 0), (7, vW (dg M (n - 1))), (8, vW (dg u (at_ + n))), (10, vW ((dg u (at_ + n) * 18446744073709551616 + dg u ((at_ + n) - 1)) / (dg M (n - 1)))), (11, vW ((dg u (at_ + n) * 18446744073709551616 + dg u ((at_ + n) - 1)) % (dg M (n - 1)))), (58, vB (decide (n = 1)))] [] ⟨tp, tp, tp, tlx1 (fun w hk => hk.get hd) on3, tE fun _ => d_eql _ _, trivial⟩ ?_
  clear hE; intro γ ac wc hE
  refine cond_sx hE rfl (fun hb2 => ?_) (fun hb2 => ?_)
  ·
   have hb2p := of_decide_eq_true hb2
   refine sq_t hE [Rw 59 (vW ((dg u (at_ + n) * 18446744073709551616 + dg u ((at_ + n) - 1)) / (dg M (n - 1)))) [(10, vW ((dg u (at_ + n) * 18446744073709551616 + dg u ((at_ + n) - 1)) / (dg M (n - 1))))], Rw 6 (vW ((dg u (at_ + n) * 18446744073709551616 + dg u ((at_ + n) - 1)) / (dg M (n - 1)))) [(59, vW ((dg u (at_ + n) * 18446744073709551616 + dg u ((at_ + n) - 1)) / (dg M (n - 1))))]] [(0, vX gd 0), (1, .s (.v (.slice (some ⟨gu, 0, none⟩) 19 cap))), (2, vI at_), (6, vW ((dg u (at_ + n) * 18446744073709551616 + dg u ((at_ + n) - 1)) / (dg M (n - 1)))), (7, vW (dg M (n - 1))), (8, vW (dg u (at_ + n))), (10, vW ((dg u (at_ + n) * 18446744073709551616 + dg u ((at_ + n) - 1)) / (dg M (n - 1)))), (11, vW ((dg u (at_ + n) * 18446744073709551616 + dg u ((at_ + n) - 1)) % (dg M (n - 1))))] [] ⟨tp, tp, trivial⟩ ?_
   clear hE; intro γ ac wc hE
   refine wp_ret ?_
   refine then_ret ?_
   exact (end1 hE rfl (.tmp 6 (vW ((dg u (at_ + n) * 18446744073709551616 + dg u ((at_ + n) - 1)) / (dg M (n - 1)))) rfl) (⟨by rw [show gs M n u at_ = (dg u (at_ + n) * 18446744073709551616 + dg u ((at_ + n) - 1)) / (dg M (n - 1)) by unfold gs; rw [if_neg hb1p, if_pos hb2p]]; rfl, hE.keep.below⟩)).1
  ·
   have hb2p := of_decide_eq_false hb2
   refine wp_skip ?_
   refine then_normal ?_
   refine wp_block ?_
   refine loop_sx (σ := Nat × Nat) (fun (q, r) => q) (fun (q, r) => gl (dg M (n - 1)) (dg M (n - 2)) (dg u (at_ + n - 2)) q r = gl (dg M (n - 1)) (dg M (n - 2)) (dg u (at_ + n - 2)) ((dg u (at_ + n) * 18446744073709551616 + dg u (at_ + n - 1)) / (dg M (n - 1))) ((dg u (at_ + n) * 18446744073709551616 + dg u (at_ + n - 1)) % (dg M (n - 1))) ∧ q < 18446744073709551616 ∧ r < 18446744073709551616)
       (fun (q, r) => [(0, vX gd 0), (1, .s (.v (.slice (some ⟨gu, 0, none⟩) 19 cap))), (2, vI at_), (6, vW 0), (7, vW (dg M (n - 1))), (8, vW (dg u (at_ + n))), (10, vW q), (11, vW r)])
       (fun (q, r) => [])
       (((dg u (at_ + n) * 18446744073709551616 + dg u (at_ + n - 1)) / (dg M (n - 1)), (dg u (at_ + n) * 18446744073709551616 + dg u (at_ + n - 1)) % (dg M (n - 1)))) (⟨rfl, gs_q hb1p, Nat.lt_trans (Nat.mod_lt _ (by omega)) (dg_lt _ _)⟩) (hE.sub (by kernel_rfl) (by kernel_rfl)) ?_
   clear hE; rintro ⟨q, r⟩ γ ac wc ga hE
   replace ga : gl (dg M (n - 1)) (dg M (n - 2)) (dg u (at_ + n - 2)) q r = gl (dg M (n - 1)) (dg M (n - 2)) (dg u (at_ + n - 2)) ((dg u (at_ + n) * 18446744073709551616 + dg u (at_ + n - 1)) / (dg M (n - 1))) ((dg u (at_ + n) * 18446744073709551616 + dg u (at_ + n - 1)) % (dg M (n - 1))) ∧ q < 18446744073709551616 ∧ r < 18446744073709551616 := ga
   replace hE : Env _ _ _ w0 (lk [(0, vX gd 0), (1, .s (.v (.slice (some ⟨gu, 0, none⟩) 19 cap))), (2, vI at_), (6, vW 0), (7, vW (dg M (n - 1))), (8, vW (dg u (at_ + n))), (10, vW q), (11, vW r)]) (lk []) γ ac wc := hE
   obtain ⟨ga1, ga2, ga3⟩ := ga
   refine wp_block ?_
   refine sq_d hE [Rw 61 (vW q) [(10, vW q)], Rw 62 (vX gd 0) [(0, vX gd 0)], Rw 63 (vX gd 0) [(0, vX gd 0)], Rw 64 (vX gd 0) [(63, vX gd 0)], Rw 65 (vX gd 9) [(64, vX gd 0)], Rw 66 (vI n) [(65, vX gd 9)], Rw 67 (vI (n - 2)) [(66, vI n)], Rw 68 (vX gd 0) [(62, vX gd 0)], Rw 69 (vX gd 0) [(68, vX gd 0)], Rw 70 (vX gd (n - 2)) [(69, vX gd 0), (67, vI (n - 2))], Rw 71 (vW (dg M (n - 2))) [(70, vX gd (n - 2))], Rw 72 (.two (vW (q * (dg M (n - 2)) / 18446744073709551616)) (vW (q * (dg M (n - 2)) % 18446744073709551616))) [(61, vW q), (71, vW (dg M (n - 2)))], Rw 60 (.two (vW (q * (dg M (n - 2)) / 18446744073709551616)) (vW (q * (dg M (n - 2)) % 18446744073709551616))) [(72, .two (vW (q * (dg M (n - 2)) / 18446744073709551616)) (vW (q * (dg M (n - 2)) % 18446744073709551616)))], Rw 73 (vW (q * (dg M (n - 2)) / 18446744073709551616)) [(60, .two (vW (q * (dg M (n - 2)) / 18446744073709551616)) (vW (q * (dg M (n - 2)) % 18446744073709551616)))], Rw 74 (vW (q * (dg M (n - 2)) % 18446744073709551616)) [(60, .two (vW (q * (dg M (n - 2)) / 18446744073709551616)) (vW (q * (dg M (n - 2)) % 18446744073709551616)))], Rw 12 (vW (q * (dg M (n - 2)) / 18446744073709551616)) [(73, vW (q * (dg M (n - 2)) / 18446744073709551616))], Rw 13 (vW (q * (dg M (n - 2)) % 18446744073709551616)) [(74, vW (q * (dg M (n - 2)) % 18446744073709551616))]] [(0, vX gd 0), (1, .s (.v (.slice (some ⟨gu, 0, none⟩) 19 cap))), (2, vI at_), (6, vW 0), (7, vW (dg M (n - 1))), (8, vW (dg u (at_ + n))), (10, vW q), (11, vW r), (12, vW (q * (dg M (n - 2)) / 18446744073709551616)), (13, vW (q * (dg M (n - 2)) % 18446744073709551616))] [] ⟨tp, tp, tp, tp, tp, tlx1 (fun w hk => hk.get hd) on3, tE fun _ => wi_sub, tp, tp, txax0 ar35, trip_loadx1 70 gd (n - 2) 22 (U9 M ++ [(iN n), (iN s)]) 204 (.int .u64 ((dg M (n - 2) : Nat) : Int)) rfl rfl rfl rfl rfl rfl (fun w hk => hk.get hd) on22 (U9_get' (by omega)) rfl, tq fun w => mul64 q (dg M (n - 2)) (by omega) (dg_lt _ _) w, tp, tp, tp, tp, tp, trivial⟩ ?_
   clear hE; intro γ ac wc hE
   refine wp_seq ?_
   rcases Bool.eq_false_or_eq_true (decide (q * (dg M (n - 2)) / 18446744073709551616 < r)) with hb3 | hb3
   ·
    have hb3p := of_decide_eq_true hb3
    refine sq_t hE [Rw 75 (vW (q * (dg M (n - 2)) / 18446744073709551616)) [(12, vW (q * (dg M (n - 2)) / 18446744073709551616))], Rw 76 (vW r) [(11, vW r)], Rw 77 (vB true) [(75, vW (q * (dg M (n - 2)) / 18446744073709551616)), (76, vW r)], Rw 78 (vB true) [(77, vB true)], Rw 79 vU [(78, vB true)], Rw 80 vU [(78, vB true)], Rw 81 vU [(78, vB true)], Rw 82 vU [(78, vB true)], Rw 83 vU [(82, vU)], Rw 84 vU [(82, vU)], Rw 85 vU [(82, vU)], Rw 86 vU [(82, vU)], Rw 87 vU [(82, vU)], Rw 88 vU [(82, vU)], Rw 89 vU [(82, vU)], Rw 90 vU [(82, vU)], Rw 91 vU [(82, vU)], Rw 92 vU [(82, vU)], Rw 93 vU [(82, vU)], Rw 94 vU [(82, vU)], Rw 95 vU [(78, vB true)], Rw 96 (vB true) [(78, vB true), (95, vU)]] [(0, vX gd 0), (1, .s (.v (.slice (some ⟨gu, 0, none⟩) 19 cap))), (2, vI at_), (6, vW 0), (7, vW (dg M (n - 1))), (8, vW (dg u (at_ + n))), (10, vW q), (11, vW r), (96, vB true)] [] ⟨tp, tp, tE fun _ => (d_lss _ _).trans (congrArg Value.bool hb3), tp, tof, tof, tof, tof, tou, tou, tou, tou, tou, tou, tou, tou, tou, tou, tou, tou, tof, tp, trivial⟩ ?_
    clear hE; intro γ ac wc hE
    refine cond_sx hE rfl (fun _ => ?_) (fun h => by cases h)
    refine sq_t hE [Rw 97 (vW q) [(10, vW q)], Rw 6 (vW q) [(97, vW q)]] [(0, vX gd 0), (1, .s (.v (.slice (some ⟨gu, 0, none⟩) 19 cap))), (2, vI at_), (6, vW q), (7, vW (dg M (n - 1))), (8, vW (dg u (at_ + n))), (10, vW q), (11, vW r)] [] ⟨tp, tp, trivial⟩ ?_
    clear hE; intro γ ac wc hE
    refine wp_ret ?_
    refine then_ret ?_
    refine blk_ret ?_
    refine then_ret ?_
    refine blk_ret ?_
    have hs := gl_stop (top := dg M (n - 1)) (m2 := dg M (n - 2)) (u3 := dg u (at_ + n - 2)) (q := q) (r := r) (by omega)
    exact (end1 hE rfl (.tmp 6 (vW q) rfl) (⟨by rw [show gs M n u at_ = q by unfold gs; rw [if_neg hb1p, if_neg hb2p, ← ga1, hs]]; rfl, hE.keep.below⟩)).1
   ·
    have hb3p := of_decide_eq_false hb3
    rcases Bool.eq_false_or_eq_true (decide (q * (dg M (n - 2)) / 18446744073709551616 = r)) with hb4 | hb4
    ·
     have hb4p := of_decide_eq_true hb4
     refine sq_t hE [Rw 75 (vW (q * (dg M (n - 2)) / 18446744073709551616)) [(12, vW (q * (dg M (n - 2)) / 18446744073709551616))], Rw 76 (vW r) [(11, vW r)], Rw 77 (vB false) [(75, vW (q * (dg M (n - 2)) / 18446744073709551616)), (76, vW r)], Rw 78 (vB false) [(77, vB false)], Rw 79 (vW (q * (dg M (n - 2)) / 18446744073709551616)) [(12, vW (q * (dg M (n - 2)) / 18446744073709551616)), (78, vB false)], Rw 80 (vW r) [(11, vW r), (78, vB false)], Rw 81 (vB true) [(79, vW (q * (dg M (n - 2)) / 18446744073709551616)), (80, vW r), (78, vB false)], Rw 82 (vB true) [(81, vB true), (78, vB false)], Rw 83 (vW (q * (dg M (n - 2)) % 18446744073709551616)) [(13, vW (q * (dg M (n - 2)) % 18446744073709551616)), (82, vB true)], Rw 84 (.s (.v (.slice (some ⟨gu, 0, none⟩) 19 cap))) [(1, .s (.v (.slice (some ⟨gu, 0, none⟩) 19 cap))), (82, vB true)], Rw 85 (vI at_) [(2, vI at_), (82, vB true)], Rw 86 (vX gd 0) [(0, vX gd 0), (82, vB true)], Rw 87 (vX gd 0) [(86, vX gd 0), (82, vB true)], Rw 88 (vX gd 9) [(87, vX gd 0), (82, vB true)], Rw 89 (vI n) [(88, vX gd 9), (82, vB true)], Rw 90 (vI (at_ + n)) [(85, vI at_), (89, vI n), (82, vB true)], Rw 91 (vI ((at_ + n) - 2)) [(90, vI (at_ + n)), (82, vB true)], Rw 92 (vX gu ((at_ + n) - 2)) [(84, .s (.v (.slice (some ⟨gu, 0, none⟩) 19 cap))), (91, vI ((at_ + n) - 2)), (82, vB true)], Rw 93 (vW (dg u ((at_ + n) - 2))) [(92, vX gu ((at_ + n) - 2)), (82, vB true)], Rw 94 (vB (decide (q * (dg M (n - 2)) % 18446744073709551616 ≤ dg u ((at_ + n) - 2)))) [(83, vW (q * (dg M (n - 2)) % 18446744073709551616)), (93, vW (dg u ((at_ + n) - 2))), (82, vB true)], Rw 95 (vB (decide (q * (dg M (n - 2)) % 18446744073709551616 ≤ dg u ((at_ + n) - 2)))) [(82, vB true), (94, vB (decide (q * (dg M (n - 2)) % 18446744073709551616 ≤ dg u ((at_ + n) - 2)))), (78, vB false)], Rw 96 (vB (decide (q * (dg M (n - 2)) % 18446744073709551616 ≤ dg u ((at_ + n) - 2)))) [(78, vB false), (95, vB (decide (q * (dg M (n - 2)) % 18446744073709551616 ≤ dg u ((at_ + n) - 2))))]] [(0, vX gd 0), (1, .s (.v (.slice (some ⟨gu, 0, none⟩) 19 cap))), (2, vI at_), (6, vW 0), (7, vW (dg M (n - 1))), (8, vW (dg u (at_ + n))), (10, vW q), (11, vW r), (96, vB (decide (q * (dg M (n - 2)) % 18446744073709551616 ≤ dg u ((at_ + n) - 2))))] [] ⟨tp, tp, tE fun _ => (d_lss _ _).trans (congrArg Value.bool hb3), tp, ton tp, ton tp, ton (tE fun _ => (d_eql _ _).trans (congrArg Value.bool hb4)), ton tp, ton tp, ton tp, ton tp, ton tp, ton tp, ton tp, ton (tlx1 (fun w hk => hk.get hd) on3), ton (tE fun _ => wi_add), ton (tE fun _ => wi_sub), ton (txsx sl198), ton (trip_loadx1 92 gu ((at_ + n) - 2) 22 (Un 19 u) 206 (.int .u64 ((dg u ((at_ + n) - 2) : Nat) : Int)) rfl rfl rfl rfl rfl rfl (fun w hk => hk.get hu) on22 (Un_get (by omega)) rfl), ton (tE fun _ => d_leq _ _), ton tp, tp, trivial⟩ ?_
     clear hE; intro γ ac wc hE
     refine cond_sx hE rfl (fun hb5 => ?_) (fun hb5 => ?_)
     ·
      have hb5p := of_decide_eq_true hb5
      refine sq_t hE [Rw 97 (vW q) [(10, vW q)], Rw 6 (vW q) [(97, vW q)]] [(0, vX gd 0), (1, .s (.v (.slice (some ⟨gu, 0, none⟩) 19 cap))), (2, vI at_), (6, vW q), (7, vW (dg M (n - 1))), (8, vW (dg u (at_ + n))), (10, vW q), (11, vW r)] [] ⟨tp, tp, trivial⟩ ?_
      clear hE; intro γ ac wc hE
      refine wp_ret ?_
      refine then_ret ?_
      refine blk_ret ?_
      refine then_ret ?_
      refine blk_ret ?_
      have hs := gl_stop (top := dg M (n - 1)) (m2 := dg M (n - 2)) (u3 := dg u (at_ + n - 2)) (q := q) (r := r) (by omega)
      exact (end1 hE rfl (.tmp 6 (vW q) rfl) (⟨by rw [show gs M n u at_ = q by unfold gs; rw [if_neg hb1p, if_neg hb2p, ← ga1, hs]]; rfl, hE.keep.below⟩)).1
     ·
      have hb5p := of_decide_eq_false hb5
      refine wp_skip ?_
      refine then_normal ?_
      have hnc : ¬ (q * dg M (n - 2) / 18446744073709551616 < r ∨ (q * dg M (n - 2) / 18446744073709551616 = r ∧ q * dg M (n - 2) % 18446744073709551616 ≤ dg u (at_ + n - 2))) := by omega
      have hqp := gl_pos hnc
      refine sq_t hE [Rw 98 (vW q) [(10, vW q)], Rw 99 (vW (q - 1)) [(98, vW q)], Rw 10 (vW (q - 1)) [(99, vW (q - 1))]] [(0, vX gd 0), (1, .s (.v (.slice (some ⟨gu, 0, none⟩) 19 cap))), (2, vI at_), (6, vW 0), (7, vW (dg M (n - 1))), (8, vW (dg u (at_ + n))), (10, vW (q - 1)), (11, vW r)] [] ⟨tp, tE (x := .int .u64 (IntKind.u64.wrap (((q : Nat) : Int) - ((1 : Nat) : Int)))) fun _ => (wu_sub _ _ (by omega)).trans (congrArg (fun n : Nat => Value.int .u64 (n : Int)) (by omega)), tp, trivial⟩ ?_
      clear hE; intro γ ac wc hE
      refine sq_t hE [Rw 100 (vW r) [(11, vW r)], Rw 101 (vW (dg M (n - 1))) [(7, vW (dg M (n - 1)))], Rw 102 (vW ((r + (dg M (n - 1))) % 18446744073709551616)) [(100, vW r), (101, vW (dg M (n - 1)))], Rw 14 (vW ((r + (dg M (n - 1))) % 18446744073709551616)) [(102, vW ((r + (dg M (n - 1))) % 18446744073709551616))]] [(0, vX gd 0), (1, .s (.v (.slice (some ⟨gu, 0, none⟩) 19 cap))), (2, vI at_), (6, vW 0), (7, vW (dg M (n - 1))), (8, vW (dg u (at_ + n))), (10, vW (q - 1)), (11, vW r), (14, vW ((r + (dg M (n - 1))) % 18446744073709551616))] [] ⟨tp, tp, tE fun _ => wu_add _ _, tp, trivial⟩ ?_
      clear hE; intro γ ac wc hE
      refine wp_seq ?_
      refine sq_t hE [Rw 103 (vW ((r + (dg M (n - 1))) % 18446744073709551616)) [(14, vW ((r + (dg M (n - 1))) % 18446744073709551616))], Rw 104 (vW r) [(11, vW r)], Rw 105 (vB (decide ((r + (dg M (n - 1))) % 18446744073709551616 < r))) [(103, vW ((r + (dg M (n - 1))) % 18446744073709551616)), (104, vW r)]] [(0, vX gd 0), (1, .s (.v (.slice (some ⟨gu, 0, none⟩) 19 cap))), (2, vI at_), (6, vW 0), (7, vW (dg M (n - 1))), (8, vW (dg u (at_ + n))), (10, vW (q - 1)), (11, vW r), (14, vW ((r + (dg M (n - 1))) % 18446744073709551616)), (105, vB (decide ((r + (dg M (n - 1))) % 18446744073709551616 < r)))] [] ⟨tp, tp, tE fun _ => d_lss _ _, trivial⟩ ?_
      clear hE; intro γ ac wc hE
      refine cond_sx hE rfl (fun hb6 => ?_) (fun hb6 => ?_)
      ·
       have hb6p := of_decide_eq_true hb6
       refine sq_t hE [Rw 106 (vW (q - 1)) [(10, vW (q - 1))], Rw 6 (vW (q - 1)) [(106, vW (q - 1))]] [(0, vX gd 0), (1, .s (.v (.slice (some ⟨gu, 0, none⟩) 19 cap))), (2, vI at_), (6, vW (q - 1)), (7, vW (dg M (n - 1))), (8, vW (dg u (at_ + n))), (10, vW (q - 1)), (11, vW r), (14, vW ((r + (dg M (n - 1))) % 18446744073709551616))] [] ⟨tp, tp, trivial⟩ ?_
       clear hE; intro γ ac wc hE
       refine wp_ret ?_
       refine then_ret ?_
       refine blk_ret ?_
       refine then_ret ?_
       refine blk_ret ?_
       have hs := gl_over hnc (by assumption)
       exact (end1 hE rfl (.tmp 6 (vW (q - 1)) rfl) (⟨by rw [show gs M n u at_ = q - 1 by unfold gs; rw [if_neg hb1p, if_neg hb2p, ← ga1, hs]]; rfl, hE.keep.below⟩)).1
      ·
       have hb6p := of_decide_eq_false hb6
       refine wp_skip ?_
       refine then_normal ?_
       refine rg_t hE [Rw 107 (vW ((r + (dg M (n - 1))) % 18446744073709551616)) [(14, vW ((r + (dg M (n - 1))) % 18446744073709551616))], Rw 11 (vW ((r + (dg M (n - 1))) % 18446744073709551616)) [(107, vW ((r + (dg M (n - 1))) % 18446744073709551616))]] [(0, vX gd 0), (1, .s (.v (.slice (some ⟨gu, 0, none⟩) 19 cap))), (2, vI at_), (6, vW 0), (7, vW (dg M (n - 1))), (8, vW (dg u (at_ + n))), (10, vW (q - 1)), (11, vW ((r + (dg M (n - 1))) % 18446744073709551616)), (14, vW ((r + (dg M (n - 1))) % 18446744073709551616))] [] ⟨tp, tp, trivial⟩ ?_
       clear hE; intro γ ac wc hE
       refine blk_normal ?_
       refine then_normal ⟨(q - 1, (r + (dg M (n - 1))) % 18446744073709551616), (by show q - 1 < q; have := gl_pos hnc; omega), ⟨(gl_next hnc (by assumption)).symm.trans ga1, by omega, Nat.mod_lt _ (by decide)⟩, γ, hE.sub (by kernel_rfl) (by kernel_rfl)⟩
    ·
     have hb4p := of_decide_eq_false hb4
     refine sq_t hE [Rw 75 (vW (q * (dg M (n - 2)) / 18446744073709551616)) [(12, vW (q * (dg M (n - 2)) / 18446744073709551616))], Rw 76 (vW r) [(11, vW r)], Rw 77 (vB false) [(75, vW (q * (dg M (n - 2)) / 18446744073709551616)), (76, vW r)], Rw 78 (vB false) [(77, vB false)], Rw 79 (vW (q * (dg M (n - 2)) / 18446744073709551616)) [(12, vW (q * (dg M (n - 2)) / 18446744073709551616)), (78, vB false)], Rw 80 (vW r) [(11, vW r), (78, vB false)], Rw 81 (vB false) [(79, vW (q * (dg M (n - 2)) / 18446744073709551616)), (80, vW r), (78, vB false)], Rw 82 (vB false) [(81, vB false), (78, vB false)], Rw 83 vU [(82, vB false)], Rw 84 vU [(82, vB false)], Rw 85 vU [(82, vB false)], Rw 86 vU [(82, vB false)], Rw 87 vU [(82, vB false)], Rw 88 vU [(82, vB false)], Rw 89 vU [(82, vB false)], Rw 90 vU [(82, vB false)], Rw 91 vU [(82, vB false)], Rw 92 vU [(82, vB false)], Rw 93 vU [(82, vB false)], Rw 94 vU [(82, vB false)], Rw 95 (vB false) [(82, vB false), (94, vU), (78, vB false)], Rw 96 (vB false) [(78, vB false), (95, vB false)]] [(0, vX gd 0), (1, .s (.v (.slice (some ⟨gu, 0, none⟩) 19 cap))), (2, vI at_), (6, vW 0), (7, vW (dg M (n - 1))), (8, vW (dg u (at_ + n))), (10, vW q), (11, vW r), (96, vB false)] [] ⟨tp, tp, tE fun _ => (d_lss _ _).trans (congrArg Value.bool hb3), tp, ton tp, ton tp, ton (tE fun _ => (d_eql _ _).trans (congrArg Value.bool hb4)), ton tp, tof, tof, tof, tof, tof, tof, tof, tof, tof, tof, tof, tof, ton tp, tp, trivial⟩ ?_
     clear hE; intro γ ac wc hE
     refine cond_sx hE rfl (fun h => by cases h) (fun _ => ?_)
     refine wp_skip ?_
     refine then_normal ?_
     have hnc : ¬ (q * dg M (n - 2) / 18446744073709551616 < r ∨ (q * dg M (n - 2) / 18446744073709551616 = r ∧ q * dg M (n - 2) % 18446744073709551616 ≤ dg u (at_ + n - 2))) := by omega
     have hqp := gl_pos hnc
     refine sq_t hE [Rw 98 (vW q) [(10, vW q)], Rw 99 (vW (q - 1)) [(98, vW q)], Rw 10 (vW (q - 1)) [(99, vW (q - 1))]] [(0, vX gd 0), (1, .s (.v (.slice (some ⟨gu, 0, none⟩) 19 cap))), (2, vI at_), (6, vW 0), (7, vW (dg M (n - 1))), (8, vW (dg u (at_ + n))), (10, vW (q - 1)), (11, vW r)] [] ⟨tp, tE (x := .int .u64 (IntKind.u64.wrap (((q : Nat) : Int) - ((1 : Nat) : Int)))) fun _ => (wu_sub _ _ (by omega)).trans (congrArg (fun n : Nat => Value.int .u64 (n : Int)) (by omega)), tp, trivial⟩ ?_
     clear hE; intro γ ac wc hE
     refine sq_t hE [Rw 100 (vW r) [(11, vW r)], Rw 101 (vW (dg M (n - 1))) [(7, vW (dg M (n - 1)))], Rw 102 (vW ((r + (dg M (n - 1))) % 18446744073709551616)) [(100, vW r), (101, vW (dg M (n - 1)))], Rw 14 (vW ((r + (dg M (n - 1))) % 18446744073709551616)) [(102, vW ((r + (dg M (n - 1))) % 18446744073709551616))]] [(0, vX gd 0), (1, .s (.v (.slice (some ⟨gu, 0, none⟩) 19 cap))), (2, vI at_), (6, vW 0), (7, vW (dg M (n - 1))), (8, vW (dg u (at_ + n))), (10, vW (q - 1)), (11, vW r), (14, vW ((r + (dg M (n - 1))) % 18446744073709551616))] [] ⟨tp, tp, tE fun _ => wu_add _ _, tp, trivial⟩ ?_
     clear hE; intro γ ac wc hE
     refine wp_seq ?_
     refine sq_t hE [Rw 103 (vW ((r + (dg M (n - 1))) % 18446744073709551616)) [(14, vW ((r + (dg M (n - 1))) % 18446744073709551616))], Rw 104 (vW r) [(11, vW r)], Rw 105 (vB (decide ((r + (dg M (n - 1))) % 18446744073709551616 < r))) [(103, vW ((r + (dg M (n - 1))) % 18446744073709551616)), (104, vW r)]] [(0, vX gd 0), (1, .s (.v (.slice (some ⟨gu, 0, none⟩) 19 cap))), (2, vI at_), (6, vW 0), (7, vW (dg M (n - 1))), (8, vW (dg u (at_ + n))), (10, vW (q - 1)), (11, vW r), (14, vW ((r + (dg M (n - 1))) % 18446744073709551616)), (105, vB (decide ((r + (dg M (n - 1))) % 18446744073709551616 < r)))] [] ⟨tp, tp, tE fun _ => d_lss _ _, trivial⟩ ?_
     clear hE; intro γ ac wc hE
     refine cond_sx hE rfl (fun hb7 => ?_) (fun hb7 => ?_)
     ·
      have hb7p := of_decide_eq_true hb7
      refine sq_t hE [Rw 106 (vW (q - 1)) [(10, vW (q - 1))], Rw 6 (vW (q - 1)) [(106, vW (q - 1))]] [(0, vX gd 0), (1, .s (.v (.slice (some ⟨gu, 0, none⟩) 19 cap))), (2, vI at_), (6, vW (q - 1)), (7, vW (dg M (n - 1))), (8, vW (dg u (at_ + n))), (10, vW (q - 1)), (11, vW r), (14, vW ((r + (dg M (n - 1))) % 18446744073709551616))] [] ⟨tp, tp, trivial⟩ ?_
      clear hE; intro γ ac wc hE
      refine wp_ret ?_
      refine then_ret ?_
      refine blk_ret ?_
      refine then_ret ?_
      refine blk_ret ?_
      have hs := gl_over hnc (by assumption)
      exact (end1 hE rfl (.tmp 6 (vW (q - 1)) rfl) (⟨by rw [show gs M n u at_ = q - 1 by unfold gs; rw [if_neg hb1p, if_neg hb2p, ← ga1, hs]]; rfl, hE.keep.below⟩)).1
     ·
      have hb7p := of_decide_eq_false hb7
      refine wp_skip ?_
      refine then_normal ?_
      refine rg_t hE [Rw 107 (vW ((r + (dg M (n - 1))) % 18446744073709551616)) [(14, vW ((r + (dg M (n - 1))) % 18446744073709551616))], Rw 11 (vW ((r + (dg M (n - 1))) % 18446744073709551616)) [(107, vW ((r + (dg M (n - 1))) % 18446744073709551616))]] [(0, vX gd 0), (1, .s (.v (.slice (some ⟨gu, 0, none⟩) 19 cap))), (2, vI at_), (6, vW 0), (7, vW (dg M (n - 1))), (8, vW (dg u (at_ + n))), (10, vW (q - 1)), (11, vW ((r + (dg M (n - 1))) % 18446744073709551616)), (14, vW ((r + (dg M (n - 1))) % 18446744073709551616))] [] ⟨tp, tp, trivial⟩ ?_
      clear hE; intro γ ac wc hE
      refine blk_normal ?_
      refine then_normal ⟨(q - 1, (r + (dg M (n - 1))) % 18446744073709551616), (by show q - 1 < q; have := gl_pos hnc; omega), ⟨(gl_next hnc (by assumption)).symm.trans ga1, by omega, Nat.mod_lt _ (by decide)⟩, γ, hE.sub (by kernel_rfl) (by kernel_rfl)⟩
theorem div_take (gd gu M n s u at_ cap q : Nat) (hn : 1 ≤ n) (hn9 : n ≤ 9) (hat : at_ + n < 19) (hM : M < 2 ^ (64 * n)) (hu0 : u < 2 ^ (64 * (at_ + n + 1))) (hq : q < 18446744073709551616) (w0 : World) (hd : w0.heap[gd]? = some (dvO M n s)) (hu : w0.heap[gu]? = some (u19 u)) : Calls Try.prog 151 #[.pointer (some ⟨gd, 0, none⟩), .slice (some ⟨gu, 0, none⟩) 19 cap, .int .i64 at_, .int .u64 q] w0 fun e w => e = .returned (.bool (decide (tkb M u at_ q = 1))) ∧ Only gu w0 w ∧ w.heap[gu]? = some (u19 (tku M n u at_ q)) := by
 have hgd := lt_heap hd
 have hne : gu ≠ gd := ne_of_type (by decide) hu hd
 refine enter_e [(100, gu, (.sc (Un 19 u), 206))] [(0, vX gd 0), (1, .s (.sl 100 0 19 cap)), (2, vI at_), (3, vW q)] 85 Try.func151 rfl rfl (Nat.le_of_ble_eq_true (by kernel_rfl)) (by kernel_rfl) (by kernel_rfl) ⟨hu, trivial⟩ ⟨(fun _ h => by cases h), trivial⟩ ?_
 intro γ ac hE
 replace hE : Env _ _ _ w0 (lk [(0, vX gd 0), (1, .s (.sl 100 0 19 cap)), (2, vI at_), (3, vW q)]) (lk [(100, (.sc (Un 19 u), 206))]) γ ac w0 := hE
 refine sq_t hE [Rw 8 (vB false)] [(0, vX gd 0), (1, .s (.sl 100 0 19 cap)), (2, vI at_), (3, vW q), (8, vB false)] [(100, (.sc (Un 19 u), 206))] ⟨tp, trivial⟩ ?_
 clear hE; intro γ ac wc hE
 refine sq_t hE [Rw 9 (vW 0), Rw 10 (vW 0)] [(0, vX gd 0), (1, .s (.sl 100 0 19 cap)), (2, vI at_), (3, vW q), (8, vB false), (9, vW 0), (10, vW 0)] [(100, (.sc (Un 19 u), 206))] ⟨tp, tp, trivial⟩ ?_
 clear hE; intro γ ac wc hE
 refine wp_seq ?_
 refine sq_t hE [Rw 15 (vX gd 0) [(0, vX gd 0)], Rw 16 (vX gd 0) [(15, vX gd 0)], Rw 17 (vX gd 9) [(16, vX gd 0)], Rw 18 (vI n) [(17, vX gd 9)], Rw 19 (vI 0)] [(0, vX gd 0), (1, .s (.sl 100 0 19 cap)), (2, vI at_), (3, vW q), (8, vB false), (9, vW 0), (10, vW 0), (18, vI n), (19, vI 0)] [(100, (.sc (Un 19 u), 206))] ⟨tp, tp, tp, tlx1 (fun w hk => hk.get hd (ne_of_fx hne)) on3, tp, trivial⟩ ?_
 clear hE; intro γ ac wc hE
 refine wp_block ?_
 refine loop_sx (σ := Nat × Nat × Nat × Nat) (fun (i, V, br, ca) => n - i) (fun (i, V, br, ca) => i ≤ n ∧ V + q * (M % 2 ^ (64 * i)) * 2 ^ (64 * at_) = u + (br + ca) * 2 ^ (64 * (at_ + i)) ∧ V < 2 ^ (64 * (at_ + n + 1)) ∧ br ≤ 1 ∧ ca < 18446744073709551616)
     (fun (i, V, br, ca) => [(0, vX gd 0), (1, .s (.sl 100 0 19 cap)), (2, vI at_), (3, vW q), (8, vB false), (9, vW br), (10, vW ca), (18, vI n), (19, vI i)])
     (fun (i, V, br, ca) => [(100, (.sc (Un 19 V), 206))])
     ((0, u, 0, 0)) (⟨Nat.zero_le _, by simp [Nat.mod_one], hu0, by decide, by decide⟩) (hE.sub (by kernel_rfl) (by kernel_rfl)) ?_
 clear hE; rintro ⟨i, V, br, ca⟩ γ ac wc ga hE
 replace ga : i ≤ n ∧ V + q * (M % 2 ^ (64 * i)) * 2 ^ (64 * at_) = u + (br + ca) * 2 ^ (64 * (at_ + i)) ∧ V < 2 ^ (64 * (at_ + n + 1)) ∧ br ≤ 1 ∧ ca < 18446744073709551616 := ga
 replace hE : Env _ _ _ w0 (lk [(0, vX gd 0), (1, .s (.sl 100 0 19 cap)), (2, vI at_), (3, vW q), (8, vB false), (9, vW br), (10, vW ca), (18, vI n), (19, vI i)]) (lk [(100, (.sc (Un 19 V), 206))]) γ ac wc := hE
 obtain ⟨ga1, ga2, ga3, ga4, ga5⟩ := ga
 refine sq_t hE [Rw 20 (vB (decide (i < n))) [(19, vI i), (18, vI n)]] [(0, vX gd 0), (1, .s (.sl 100 0 19 cap)), (2, vI at_), (3, vW q), (8, vB false), (9, vW br), (10, vW ca), (18, vI n), (19, vI i), (20, vB (decide (i < n)))] [(100, (.sc (Un 19 V), 206))] ⟨tE fun _ => d_lss _ _, trivial⟩ ?_
 clear hE; intro γ ac wc hE
 refine wp_seq ?_
 refine cond_sx hE rfl (fun hb1 => ?_) (fun hb1 => ?_)
 ·
  have hb1p := of_decide_eq_true hb1
  refine wp_skip ?_
  refine then_normal ?_
  refine wp_seq ?_
  refine wp_block ?_
  refine sq_t hE [Rw 21 (vI i) [(19, vI i)], Rw 11 (vI i) [(21, vI i)]] [(0, vX gd 0), (1, .s (.sl 100 0 19 cap)), (2, vI at_), (3, vW q), (8, vB false), (9, vW br), (10, vW ca), (11, vI i), (18, vI n), (19, vI i)] [(100, (.sc (Un 19 V), 206))] ⟨tp, tp, trivial⟩ ?_
  clear hE; intro γ ac wc hE
  refine sq_t hE [Rw 23 (vW q) [(3, vW q)], Rw 24 (vX gd 0) [(0, vX gd 0)], Rw 25 (vI i) [(11, vI i)], Rw 26 (vX gd 0) [(24, vX gd 0)], Rw 27 (vX gd 0) [(26, vX gd 0)], Rw 28 (vX gd i) [(27, vX gd 0), (25, vI i)], Rw 29 (vW (dg M i)) [(28, vX gd i)], Rw 30 (.two (vW (q * (dg M i) / 18446744073709551616)) (vW (q * (dg M i) % 18446744073709551616))) [(23, vW q), (29, vW (dg M i))], Rw 22 (.two (vW (q * (dg M i) / 18446744073709551616)) (vW (q * (dg M i) % 18446744073709551616))) [(30, .two (vW (q * (dg M i) / 18446744073709551616)) (vW (q * (dg M i) % 18446744073709551616)))], Rw 31 (vW (q * (dg M i) / 18446744073709551616)) [(22, .two (vW (q * (dg M i) / 18446744073709551616)) (vW (q * (dg M i) % 18446744073709551616)))], Rw 32 (vW (q * (dg M i) % 18446744073709551616)) [(22, .two (vW (q * (dg M i) / 18446744073709551616)) (vW (q * (dg M i) % 18446744073709551616)))], Rw 12 (vW (q * (dg M i) / 18446744073709551616)) [(31, vW (q * (dg M i) / 18446744073709551616))], Rw 13 (vW (q * (dg M i) % 18446744073709551616)) [(32, vW (q * (dg M i) % 18446744073709551616))]] [(0, vX gd 0), (1, .s (.sl 100 0 19 cap)), (2, vI at_), (3, vW q), (8, vB false), (9, vW br), (10, vW ca), (11, vI i), (12, vW (q * (dg M i) / 18446744073709551616)), (13, vW (q * (dg M i) % 18446744073709551616)), (18, vI n), (19, vI i)] [(100, (.sc (Un 19 V), 206))] ⟨tp, tp, tp, tp, tp, txax0 ar35, trip_loadx1 28 gd i 22 (U9 M ++ [(iN n), (iN s)]) 204 (.int .u64 ((dg M i : Nat) : Int)) rfl rfl rfl rfl rfl rfl (fun w hk => hk.get hd (ne_of_fx hne)) on22 (U9_get' (by omega)) rfl, tq fun w => mul64 q (dg M i) (by omega) (dg_lt _ _) w, tp, tp, tp, tp, tp, trivial⟩ ?_
  clear hE; intro γ ac wc hE
  refine sq_t hE [Rw 14 (vW 0)] [(0, vX gd 0), (1, .s (.sl 100 0 19 cap)), (2, vI at_), (3, vW q), (8, vB false), (9, vW br), (10, vW ca), (11, vI i), (12, vW (q * (dg M i) / 18446744073709551616)), (13, vW (q * (dg M i) % 18446744073709551616)), (14, vW 0), (18, vI n), (19, vI i)] [(100, (.sc (Un 19 V), 206))] ⟨tp, trivial⟩ ?_
  clear hE; intro γ ac wc hE
  refine sq_t hE [Rw 34 (vW (q * (dg M i) % 18446744073709551616)) [(13, vW (q * (dg M i) % 18446744073709551616))], Rw 35 (vW ca) [(10, vW ca)], Rw 36 (.two (vW ((q * (dg M i) % 18446744073709551616 + ca + 0) % 18446744073709551616)) (vW ((q * (dg M i) % 18446744073709551616 + ca + 0) / 18446744073709551616))) [(34, vW (q * (dg M i) % 18446744073709551616)), (35, vW ca)], Rw 33 (.two (vW ((q * (dg M i) % 18446744073709551616 + ca + 0) % 18446744073709551616)) (vW ((q * (dg M i) % 18446744073709551616 + ca + 0) / 18446744073709551616))) [(36, .two (vW ((q * (dg M i) % 18446744073709551616 + ca + 0) % 18446744073709551616)) (vW ((q * (dg M i) % 18446744073709551616 + ca + 0) / 18446744073709551616)))], Rw 37 (vW ((q * (dg M i) % 18446744073709551616 + ca + 0) % 18446744073709551616)) [(33, .two (vW ((q * (dg M i) % 18446744073709551616 + ca + 0) % 18446744073709551616)) (vW ((q * (dg M i) % 18446744073709551616 + ca + 0) / 18446744073709551616)))], Rw 38 (vW ((q * (dg M i) % 18446744073709551616 + ca + 0) / 18446744073709551616)) [(33, .two (vW ((q * (dg M i) % 18446744073709551616 + ca + 0) % 18446744073709551616)) (vW ((q * (dg M i) % 18446744073709551616 + ca + 0) / 18446744073709551616)))], Rw 13 (vW ((q * (dg M i) % 18446744073709551616 + ca + 0) % 18446744073709551616)) [(37, vW ((q * (dg M i) % 18446744073709551616 + ca + 0) % 18446744073709551616))], Rw 14 (vW ((q * (dg M i) % 18446744073709551616 + ca + 0) / 18446744073709551616)) [(38, vW ((q * (dg M i) % 18446744073709551616 + ca + 0) / 18446744073709551616))]] [(0, vX gd 0), (1, .s (.sl 100 0 19 cap)), (2, vI at_), (3, vW q), (8, vB false), (9, vW br), (10, vW ca), (11, vI i), (12, vW (q * (dg M i) / 18446744073709551616)), (13, vW ((q * (dg M i) % 18446744073709551616 + ca + 0) % 18446744073709551616)), (14, vW ((q * (dg M i) % 18446744073709551616 + ca + 0) / 18446744073709551616)), (18, vI n), (19, vI i)] [(100, (.sc (Un 19 V), 206))] ⟨tp, tp, t_add64, tp, tp, tp, tp, tp, trivial⟩ ?_
  clear hE; intro γ ac wc hE
  refine sq_t hE [Rw 39 (vW (q * (dg M i) / 18446744073709551616)) [(12, vW (q * (dg M i) / 18446744073709551616))], Rw 40 (vW ((q * (dg M i) % 18446744073709551616 + ca + 0) / 18446744073709551616)) [(14, vW ((q * (dg M i) % 18446744073709551616 + ca + 0) / 18446744073709551616))], Rw 41 (vW (((q * (dg M i) / 18446744073709551616) + ((q * (dg M i) % 18446744073709551616 + ca + 0) / 18446744073709551616)) % 18446744073709551616)) [(39, vW (q * (dg M i) / 18446744073709551616)), (40, vW ((q * (dg M i) % 18446744073709551616 + ca + 0) / 18446744073709551616))], Rw 10 (vW (((q * (dg M i) / 18446744073709551616) + ((q * (dg M i) % 18446744073709551616 + ca + 0) / 18446744073709551616)) % 18446744073709551616)) [(41, vW (((q * (dg M i) / 18446744073709551616) + ((q * (dg M i) % 18446744073709551616 + ca + 0) / 18446744073709551616)) % 18446744073709551616))]] [(0, vX gd 0), (1, .s (.sl 100 0 19 cap)), (2, vI at_), (3, vW q), (8, vB false), (9, vW br), (10, vW (((q * (dg M i) / 18446744073709551616) + ((q * (dg M i) % 18446744073709551616 + ca + 0) / 18446744073709551616)) % 18446744073709551616)), (11, vI i), (13, vW ((q * (dg M i) % 18446744073709551616 + ca + 0) % 18446744073709551616)), (18, vI n), (19, vI i)] [(100, (.sc (Un 19 V), 206))] ⟨tp, tp, tE fun _ => wu_add _ _, tp, trivial⟩ ?_
  clear hE; intro γ ac wc hE
  refine rg_t hE [Rw 43 (.s (.sl 100 0 19 cap)) [(1, .s (.sl 100 0 19 cap))], Rw 44 (vI at_) [(2, vI at_)], Rw 45 (vI i) [(11, vI i)], Rw 46 (vI (at_ + i)) [(44, vI at_), (45, vI i)], Rw 47 (.s (.sl 100 0 19 cap)) [(1, .s (.sl 100 0 19 cap))], Rw 48 (vI at_) [(2, vI at_)], Rw 49 (vI i) [(11, vI i)], Rw 50 (vI (at_ + i)) [(48, vI at_), (49, vI i)], Rw 51 (vP 100 (at_ + i)) [(47, .s (.sl 100 0 19 cap)), (50, vI (at_ + i))], Rw 52 (vW (dg V (at_ + i))) [(51, vP 100 (at_ + i))] [(100, (.sc (Un 19 V), 206))], Rw 53 (vW ((q * (dg M i) % 18446744073709551616 + ca + 0) % 18446744073709551616)) [(13, vW ((q * (dg M i) % 18446744073709551616 + ca + 0) % 18446744073709551616))], Rw 54 (vW br) [(9, vW br)], Rw 55 (.two (vW ((dg V (at_ + i) + 18446744073709551616 - ((q * (dg M i) % 18446744073709551616 + ca + 0) % 18446744073709551616) - br) % 18446744073709551616)) (vW (if dg V (at_ + i) < (q * (dg M i) % 18446744073709551616 + ca + 0) % 18446744073709551616 + br then 1 else 0))) [(52, vW (dg V (at_ + i))), (53, vW ((q * (dg M i) % 18446744073709551616 + ca + 0) % 18446744073709551616)), (54, vW br)], Rw 42 (.two (vW ((dg V (at_ + i) + 18446744073709551616 - ((q * (dg M i) % 18446744073709551616 + ca + 0) % 18446744073709551616) - br) % 18446744073709551616)) (vW (if dg V (at_ + i) < (q * (dg M i) % 18446744073709551616 + ca + 0) % 18446744073709551616 + br then 1 else 0))) [(55, .two (vW ((dg V (at_ + i) + 18446744073709551616 - ((q * (dg M i) % 18446744073709551616 + ca + 0) % 18446744073709551616) - br) % 18446744073709551616)) (vW (if dg V (at_ + i) < (q * (dg M i) % 18446744073709551616 + ca + 0) % 18446744073709551616 + br then 1 else 0)))], Rw 56 (vW ((dg V (at_ + i) + 18446744073709551616 - ((q * (dg M i) % 18446744073709551616 + ca + 0) % 18446744073709551616) - br) % 18446744073709551616)) [(42, .two (vW ((dg V (at_ + i) + 18446744073709551616 - ((q * (dg M i) % 18446744073709551616 + ca + 0) % 18446744073709551616) - br) % 18446744073709551616)) (vW (if dg V (at_ + i) < (q * (dg M i) % 18446744073709551616 + ca + 0) % 18446744073709551616 + br then 1 else 0)))], Rw 57 (vW (if dg V (at_ + i) < (q * (dg M i) % 18446744073709551616 + ca + 0) % 18446744073709551616 + br then 1 else 0)) [(42, .two (vW ((dg V (at_ + i) + 18446744073709551616 - ((q * (dg M i) % 18446744073709551616 + ca + 0) % 18446744073709551616) - br) % 18446744073709551616)) (vW (if dg V (at_ + i) < (q * (dg M i) % 18446744073709551616 + ca + 0) % 18446744073709551616 + br then 1 else 0)))], Rw 58 (vP 100 (at_ + i)) [(43, .s (.sl 100 0 19 cap)), (46, vI (at_ + i))], Rz [(58, vP 100 (at_ + i)), (56, vW ((dg V (at_ + i) + 18446744073709551616 - ((q * (dg M i) % 18446744073709551616 + ca + 0) % 18446744073709551616) - br) % 18446744073709551616))] [(100, (.sc (Un 19 V), 206))] [(100, (.sc (Un 19 (setw V (at_ + i) ((dg V (at_ + i) + 18446744073709551616 - ((q * (dg M i) % 18446744073709551616 + ca + 0) % 18446744073709551616) - br) % 18446744073709551616))), 206))], Rw 9 (vW (if dg V (at_ + i) < (q * (dg M i) % 18446744073709551616 + ca + 0) % 18446744073709551616 + br then 1 else 0)) [(57, vW (if dg V (at_ + i) < (q * (dg M i) % 18446744073709551616 + ca + 0) % 18446744073709551616 + br then 1 else 0))]] [(0, vX gd 0), (1, .s (.sl 100 0 19 cap)), (2, vI at_), (3, vW q), (8, vB false), (9, vW (if dg V (at_ + i) < (q * (dg M i) % 18446744073709551616 + ca + 0) % 18446744073709551616 + br then 1 else 0)), (10, vW (((q * (dg M i) / 18446744073709551616) + ((q * (dg M i) % 18446744073709551616 + ca + 0) / 18446744073709551616)) % 18446744073709551616)), (11, vI i), (13, vW ((q * (dg M i) % 18446744073709551616 + ca + 0) % 18446744073709551616)), (18, vI n), (19, vI i)] [(100, (.sc (Un 19 (setw V (at_ + i) ((dg V (at_ + i) + 18446744073709551616 - ((q * (dg M i) % 18446744073709551616 + ca + 0) % 18446744073709551616) - br) % 18446744073709551616))), 206))] ⟨tp, tp, tp, tE fun _ => wi_add, tp, tp, tp, tE fun _ => wi_add, txs sl198, tlW on22, tp, tp, t_sub64, tp, tp, tp, txs sl198, tsW sz22 (hdd := (Nat.mod_lt _ (by decide))), tp, trivial⟩ ?_
  clear hE; intro γ ac wc hE
  refine blk_normal ?_
  refine then_normal ?_
  refine rg_t hE [Rw 59 (vI (i + 1)) [(19, vI i)], Rw 19 (vI (i + 1)) [(59, vI (i + 1))]] [(0, vX gd 0), (1, .s (.sl 100 0 19 cap)), (2, vI at_), (3, vW q), (8, vB false), (9, vW (if dg V (at_ + i) < (q * (dg M i) % 18446744073709551616 + ca + 0) % 18446744073709551616 + br then 1 else 0)), (10, vW (((q * (dg M i) / 18446744073709551616) + ((q * (dg M i) % 18446744073709551616 + ca + 0) / 18446744073709551616)) % 18446744073709551616)), (11, vI i), (13, vW ((q * (dg M i) % 18446744073709551616 + ca + 0) % 18446744073709551616)), (18, vI n), (19, vI (i + 1))] [(100, (.sc (Un 19 (setw V (at_ + i) ((dg V (at_ + i) + 18446744073709551616 - ((q * (dg M i) % 18446744073709551616 + ca + 0) % 18446744073709551616) - br) % 18446744073709551616))), 206))] ⟨tE fun _ => wi_add, tp, trivial⟩ ?_
  clear hE; intro γ ac wc hE
  refine then_normal ⟨(i + 1, setw V (at_ + i) ((dg V (at_ + i) + 18446744073709551616 - ((q * (dg M i) % 18446744073709551616 + ca + 0) % 18446744073709551616) - br) % 18446744073709551616), (if dg V (at_ + i) < (q * (dg M i) % 18446744073709551616 + ca + 0) % 18446744073709551616 + br then 1 else 0), ((q * (dg M i) / 18446744073709551616) + ((q * (dg M i) % 18446744073709551616 + ca + 0) / 18446744073709551616)) % 18446744073709551616), (by show n - (i + 1) < n - i; omega), ⟨by omega, tk_step ga2 (sub_one (dg_lt _ _) (Nat.mod_lt _ (by decide)) ga4) (tk_word hq (dg_lt _ _) ga5), setw_lt ga3 (Nat.mod_lt _ (by decide)) (by omega), ite_le _, Nat.mod_lt _ (by decide)⟩, γ, hE.sub (by kernel_rfl) (by kernel_rfl)⟩
 ·
  have hb1p := of_decide_eq_false hb1
  have hin : i = n := by omega
  rw [hin] at ga2
  refine wp_exit ?_
  refine then_exit ?_
  refine then_exit ?_
  refine blk_hit ?_
  refine then_normal ?_
  refine sq_d hE [Rw 61 (.s (.sl 100 0 19 cap)) [(1, .s (.sl 100 0 19 cap))], Rw 62 (vI at_) [(2, vI at_)], Rw 63 (vX gd 0) [(0, vX gd 0)], Rw 64 (vX gd 0) [(63, vX gd 0)], Rw 65 (vX gd 9) [(64, vX gd 0)], Rw 66 (vI n) [(65, vX gd 9)], Rw 67 (vI (at_ + n)) [(62, vI at_), (66, vI n)], Rw 68 (.s (.sl 100 0 19 cap)) [(1, .s (.sl 100 0 19 cap))], Rw 69 (vI at_) [(2, vI at_)], Rw 70 (vX gd 0) [(0, vX gd 0)], Rw 71 (vX gd 0) [(70, vX gd 0)], Rw 72 (vX gd 9) [(71, vX gd 0)], Rw 73 (vI n) [(72, vX gd 9)], Rw 74 (vI (at_ + n)) [(69, vI at_), (73, vI n)], Rw 75 (vP 100 (at_ + n)) [(68, .s (.sl 100 0 19 cap)), (74, vI (at_ + n))], Rw 76 (vW (dg V (at_ + n))) [(75, vP 100 (at_ + n))] [(100, (.sc (Un 19 V), 206))], Rw 77 (vW ca) [(10, vW ca)], Rw 78 (vW br) [(9, vW br)], Rw 79 (.two (vW ((dg V (at_ + n) + 18446744073709551616 - ca - br) % 18446744073709551616)) (vW (if dg V (at_ + n) < ca + br then 1 else 0))) [(76, vW (dg V (at_ + n))), (77, vW ca), (78, vW br)], Rw 60 (.two (vW ((dg V (at_ + n) + 18446744073709551616 - ca - br) % 18446744073709551616)) (vW (if dg V (at_ + n) < ca + br then 1 else 0))) [(79, .two (vW ((dg V (at_ + n) + 18446744073709551616 - ca - br) % 18446744073709551616)) (vW (if dg V (at_ + n) < ca + br then 1 else 0)))], Rw 80 (vW ((dg V (at_ + n) + 18446744073709551616 - ca - br) % 18446744073709551616)) [(60, .two (vW ((dg V (at_ + n) + 18446744073709551616 - ca - br) % 18446744073709551616)) (vW (if dg V (at_ + n) < ca + br then 1 else 0)))], Rw 81 (vW (if dg V (at_ + n) < ca + br then 1 else 0)) [(60, .two (vW ((dg V (at_ + n) + 18446744073709551616 - ca - br) % 18446744073709551616)) (vW (if dg V (at_ + n) < ca + br then 1 else 0)))], Rw 82 (vP 100 (at_ + n)) [(61, .s (.sl 100 0 19 cap)), (67, vI (at_ + n))], Rz [(82, vP 100 (at_ + n)), (80, vW ((dg V (at_ + n) + 18446744073709551616 - ca - br) % 18446744073709551616))] [(100, (.sc (Un 19 V), 206))] [(100, (.sc (Un 19 (setw V (at_ + n) ((dg V (at_ + n) + 18446744073709551616 - ca - br) % 18446744073709551616))), 206))], Rw 9 (vW (if dg V (at_ + n) < ca + br then 1 else 0)) [(81, vW (if dg V (at_ + n) < ca + br then 1 else 0))]] [(0, vX gd 0), (1, .s (.sl 100 0 19 cap)), (2, vI at_), (3, vW q), (8, vB false), (9, vW (if dg V (at_ + n) < ca + br then 1 else 0)), (10, vW ca), (18, vI n), (19, vI i)] [(100, (.sc (Un 19 (setw V (at_ + n) ((dg V (at_ + n) + 18446744073709551616 - ca - br) % 18446744073709551616))), 206))] ⟨tp, tp, tp, tp, tp, tlx1 (fun w hk => hk.get hd (ne_of_fx hne)) on3, tE fun _ => wi_add, tp, tp, tp, tp, tp, tlx1 (fun w hk => hk.get hd (ne_of_fx hne)) on3, tE fun _ => wi_add, txs sl198, tlW on22, tp, tp, t_sub64, tp, tp, tp, txs sl198, tsW sz22 (hdd := (Nat.mod_lt _ (by decide))), tp, trivial⟩ ?_
  clear hE; intro γ ac wc hE
  refine sq_t hE [Rw 83 (vW (if dg V (at_ + n) < ca + br then 1 else 0)) [(9, vW (if dg V (at_ + n) < ca + br then 1 else 0))], Rw 84 (vB (decide ((if dg V (at_ + n) < ca + br then 1 else 0) = 1))) [(83, vW (if dg V (at_ + n) < ca + br then 1 else 0))], Rw 8 (vB (decide ((if dg V (at_ + n) < ca + br then 1 else 0) = 1))) [(84, vB (decide ((if dg V (at_ + n) < ca + br then 1 else 0) = 1)))]] [(0, vX gd 0), (1, .s (.sl 100 0 19 cap)), (2, vI at_), (3, vW q), (8, vB (decide ((if dg V (at_ + n) < ca + br then 1 else 0) = 1))), (9, vW (if dg V (at_ + n) < ca + br then 1 else 0)), (10, vW ca), (18, vI n), (19, vI i)] [(100, (.sc (Un 19 (setw V (at_ + n) ((dg V (at_ + n) + 18446744073709551616 - ca - br) % 18446744073709551616))), 206))] ⟨tp, tE fun _ => d_eql _ _, tp, trivial⟩ ?_
  clear hE; intro γ ac wc hE
  refine wp_ret ?_
  have hf := tk_end (M := M) (u := u) (q := q) (b := (if dg V (at_ + n) < ca + br then 1 else 0)) (V := setw V (at_ + n) ((dg V (at_ + n) + 18446744073709551616 - ca - br) % 18446744073709551616)) (setw_lt ga3 (Nat.mod_lt _ (by decide)) (by omega)) (ite_le _) (tk_last hM ga2 (sub_one (dg_lt _ _) ga5 ga4))
  exact (end1 hE rfl (.tmp 8 (vB (decide ((if dg V (at_ + n) < ca + br then 1 else 0) = 1))) rfl) (⟨by rw [hf.1]; rfl, Keep.only hE.keep, by have h := own_end hE (n := 19) (x := setw V (at_ + n) ((dg V (at_ + n) + 18446744073709551616 - ca - br) % 18446744073709551616)) rfl; rw [hf.2] at h; exact h⟩)).1
theorem div_back (gd gu M n s u at_ cap : Nat) (hn : 1 ≤ n) (hn9 : n ≤ 9) (hat : at_ + n < 19) (hM : M < 2 ^ (64 * n)) (hu0 : u < 2 ^ (64 * (at_ + n + 1))) (w0 : World) (hd : w0.heap[gd]? = some (dvO M n s)) (hu : w0.heap[gu]? = some (u19 u)) : Calls Try.prog 152 #[.pointer (some ⟨gd, 0, none⟩), .slice (some ⟨gu, 0, none⟩) 19 cap, .int .i64 at_] w0 fun e w => e = .returned (.bool (decide (bkb M n u at_ = 1))) ∧ Only gu w0 w ∧ w.heap[gu]? = some (u19 (bku M n u at_)) := by
 have hgd := lt_heap hd
 have hne : gu ≠ gd := ne_of_type (by decide) hu hd
 refine enter_e [(100, gu, (.sc (Un 19 u), 206))] [(0, vX gd 0), (1, .s (.sl 100 0 19 cap)), (2, vI at_)] 63 Try.func152 rfl rfl (Nat.le_of_ble_eq_true (by kernel_rfl)) (by kernel_rfl) (by kernel_rfl) ⟨hu, trivial⟩ ⟨(fun _ h => by cases h), trivial⟩ ?_
 intro γ ac hE
 replace hE : Env _ _ _ w0 (lk [(0, vX gd 0), (1, .s (.sl 100 0 19 cap)), (2, vI at_)]) (lk [(100, (.sc (Un 19 u), 206))]) γ ac w0 := hE
 refine sq_t hE [Rw 6 (vB false)] [(0, vX gd 0), (1, .s (.sl 100 0 19 cap)), (2, vI at_), (6, vB false)] [(100, (.sc (Un 19 u), 206))] ⟨tp, trivial⟩ ?_
 clear hE; intro γ ac wc hE
 refine sq_t hE [Rw 7 (vW 0)] [(0, vX gd 0), (1, .s (.sl 100 0 19 cap)), (2, vI at_), (6, vB false), (7, vW 0)] [(100, (.sc (Un 19 u), 206))] ⟨tp, trivial⟩ ?_
 clear hE; intro γ ac wc hE
 refine wp_seq ?_
 refine sq_t hE [Rw 9 (vX gd 0) [(0, vX gd 0)], Rw 10 (vX gd 0) [(9, vX gd 0)], Rw 11 (vX gd 9) [(10, vX gd 0)], Rw 12 (vI n) [(11, vX gd 9)], Rw 13 (vI 0)] [(0, vX gd 0), (1, .s (.sl 100 0 19 cap)), (2, vI at_), (6, vB false), (7, vW 0), (12, vI n), (13, vI 0)] [(100, (.sc (Un 19 u), 206))] ⟨tp, tp, tp, tlx1 (fun w hk => hk.get hd (ne_of_fx hne)) on3, tp, trivial⟩ ?_
 clear hE; intro γ ac wc hE
 refine wp_block ?_
 refine loop_sx (σ := Nat × Nat × Nat) (fun (i, V, c) => n - i) (fun (i, V, c) => i ≤ n ∧ V + c * 2 ^ (64 * (at_ + i)) = u + M % 2 ^ (64 * i) * 2 ^ (64 * at_) ∧ V < 2 ^ (64 * (at_ + n + 1)) ∧ c ≤ 1)
     (fun (i, V, c) => [(0, vX gd 0), (1, .s (.sl 100 0 19 cap)), (2, vI at_), (6, vB false), (7, vW c), (12, vI n), (13, vI i)])
     (fun (i, V, c) => [(100, (.sc (Un 19 V), 206))])
     ((0, u, 0)) (⟨Nat.zero_le _, by simp [Nat.mod_one], hu0, by decide⟩) (hE.sub (by kernel_rfl) (by kernel_rfl)) ?_
 clear hE; rintro ⟨i, V, c⟩ γ ac wc ga hE
 replace ga : i ≤ n ∧ V + c * 2 ^ (64 * (at_ + i)) = u + M % 2 ^ (64 * i) * 2 ^ (64 * at_) ∧ V < 2 ^ (64 * (at_ + n + 1)) ∧ c ≤ 1 := ga
 replace hE : Env _ _ _ w0 (lk [(0, vX gd 0), (1, .s (.sl 100 0 19 cap)), (2, vI at_), (6, vB false), (7, vW c), (12, vI n), (13, vI i)]) (lk [(100, (.sc (Un 19 V), 206))]) γ ac wc := hE
 obtain ⟨ga1, ga2, ga3, ga4⟩ := ga
 refine sq_t hE [Rw 14 (vB (decide (i < n))) [(13, vI i), (12, vI n)]] [(0, vX gd 0), (1, .s (.sl 100 0 19 cap)), (2, vI at_), (6, vB false), (7, vW c), (12, vI n), (13, vI i), (14, vB (decide (i < n)))] [(100, (.sc (Un 19 V), 206))] ⟨tE fun _ => d_lss _ _, trivial⟩ ?_
 clear hE; intro γ ac wc hE
 refine wp_seq ?_
 refine cond_sx hE rfl (fun hb1 => ?_) (fun hb1 => ?_)
 ·
  have hb1p := of_decide_eq_true hb1
  refine wp_skip ?_
  refine then_normal ?_
  refine wp_seq ?_
  refine wp_block ?_
  refine sq_t hE [Rw 15 (vI i) [(13, vI i)], Rw 8 (vI i) [(15, vI i)]] [(0, vX gd 0), (1, .s (.sl 100 0 19 cap)), (2, vI at_), (6, vB false), (7, vW c), (8, vI i), (12, vI n), (13, vI i)] [(100, (.sc (Un 19 V), 206))] ⟨tp, tp, trivial⟩ ?_
  clear hE; intro γ ac wc hE
  refine rg_d hE [Rw 17 (.s (.sl 100 0 19 cap)) [(1, .s (.sl 100 0 19 cap))], Rw 18 (vI at_) [(2, vI at_)], Rw 19 (vI i) [(8, vI i)], Rw 20 (vI (at_ + i)) [(18, vI at_), (19, vI i)], Rw 21 (.s (.sl 100 0 19 cap)) [(1, .s (.sl 100 0 19 cap))], Rw 22 (vI at_) [(2, vI at_)], Rw 23 (vI i) [(8, vI i)], Rw 24 (vI (at_ + i)) [(22, vI at_), (23, vI i)], Rw 25 (vP 100 (at_ + i)) [(21, .s (.sl 100 0 19 cap)), (24, vI (at_ + i))], Rw 26 (vW (dg V (at_ + i))) [(25, vP 100 (at_ + i))] [(100, (.sc (Un 19 V), 206))], Rw 27 (vX gd 0) [(0, vX gd 0)], Rw 28 (vI i) [(8, vI i)], Rw 29 (vX gd 0) [(27, vX gd 0)], Rw 30 (vX gd 0) [(29, vX gd 0)], Rw 31 (vX gd i) [(30, vX gd 0), (28, vI i)], Rw 32 (vW (dg M i)) [(31, vX gd i)], Rw 33 (vW c) [(7, vW c)], Rw 34 (.two (vW ((dg V (at_ + i) + dg M i + c) % 18446744073709551616)) (vW ((dg V (at_ + i) + dg M i + c) / 18446744073709551616))) [(26, vW (dg V (at_ + i))), (32, vW (dg M i)), (33, vW c)], Rw 16 (.two (vW ((dg V (at_ + i) + dg M i + c) % 18446744073709551616)) (vW ((dg V (at_ + i) + dg M i + c) / 18446744073709551616))) [(34, .two (vW ((dg V (at_ + i) + dg M i + c) % 18446744073709551616)) (vW ((dg V (at_ + i) + dg M i + c) / 18446744073709551616)))], Rw 35 (vW ((dg V (at_ + i) + dg M i + c) % 18446744073709551616)) [(16, .two (vW ((dg V (at_ + i) + dg M i + c) % 18446744073709551616)) (vW ((dg V (at_ + i) + dg M i + c) / 18446744073709551616)))], Rw 36 (vW ((dg V (at_ + i) + dg M i + c) / 18446744073709551616)) [(16, .two (vW ((dg V (at_ + i) + dg M i + c) % 18446744073709551616)) (vW ((dg V (at_ + i) + dg M i + c) / 18446744073709551616)))], Rw 37 (vP 100 (at_ + i)) [(17, .s (.sl 100 0 19 cap)), (20, vI (at_ + i))], Rz [(37, vP 100 (at_ + i)), (35, vW ((dg V (at_ + i) + dg M i + c) % 18446744073709551616))] [(100, (.sc (Un 19 V), 206))] [(100, (.sc (Un 19 (setw V (at_ + i) ((dg V (at_ + i) + dg M i + c) % 18446744073709551616))), 206))], Rw 7 (vW ((dg V (at_ + i) + dg M i + c) / 18446744073709551616)) [(36, vW ((dg V (at_ + i) + dg M i + c) / 18446744073709551616))]] [(0, vX gd 0), (1, .s (.sl 100 0 19 cap)), (2, vI at_), (6, vB false), (7, vW ((dg V (at_ + i) + dg M i + c) / 18446744073709551616)), (12, vI n), (13, vI i)] [(100, (.sc (Un 19 (setw V (at_ + i) ((dg V (at_ + i) + dg M i + c) % 18446744073709551616))), 206))] ⟨tp, tp, tp, tE fun _ => wi_add, tp, tp, tp, tE fun _ => wi_add, txs sl198, tlW on22, tp, tp, tp, tp, txax0 ar35, trip_loadx1 31 gd i 22 (U9 M ++ [(iN n), (iN s)]) 204 (.int .u64 ((dg M i : Nat) : Int)) rfl rfl rfl rfl rfl rfl (fun w hk => hk.get hd (ne_of_fx hne)) on22 (U9_get' (by omega)) rfl, tp, t_add64, tp, tp, tp, txs sl198, tsW sz22 (hdd := (Nat.mod_lt _ (by decide))), tp, trivial⟩ ?_
  clear hE; intro γ ac wc hE
  refine blk_normal ?_
  refine then_normal ?_
  refine rg_t hE [Rw 38 (vI (i + 1)) [(13, vI i)], Rw 13 (vI (i + 1)) [(38, vI (i + 1))]] [(0, vX gd 0), (1, .s (.sl 100 0 19 cap)), (2, vI at_), (6, vB false), (7, vW ((dg V (at_ + i) + dg M i + c) / 18446744073709551616)), (12, vI n), (13, vI (i + 1))] [(100, (.sc (Un 19 (setw V (at_ + i) ((dg V (at_ + i) + dg M i + c) % 18446744073709551616))), 206))] ⟨tE fun _ => wi_add, tp, trivial⟩ ?_
  clear hE; intro γ ac wc hE
  refine then_normal ⟨(i + 1, setw V (at_ + i) ((dg V (at_ + i) + dg M i + c) % 18446744073709551616), (dg V (at_ + i) + dg M i + c) / 18446744073709551616), (by show n - (i + 1) < n - i; omega), ⟨by omega, bk_step ga2 (add_one _), setw_lt ga3 (Nat.mod_lt _ (by decide)) (by omega), add_le (dg_lt _ _) (dg_lt _ _) ga4⟩, γ, hE.sub (by kernel_rfl) (by kernel_rfl)⟩
 ·
  have hb1p := of_decide_eq_false hb1
  have hin : i = n := by omega
  rw [hin] at ga2
  refine wp_exit ?_
  refine then_exit ?_
  refine then_exit ?_
  refine blk_hit ?_
  refine then_normal ?_
  refine sq_d hE [Rw 40 (.s (.sl 100 0 19 cap)) [(1, .s (.sl 100 0 19 cap))], Rw 41 (vI at_) [(2, vI at_)], Rw 42 (vX gd 0) [(0, vX gd 0)], Rw 43 (vX gd 0) [(42, vX gd 0)], Rw 44 (vX gd 9) [(43, vX gd 0)], Rw 45 (vI n) [(44, vX gd 9)], Rw 46 (vI (at_ + n)) [(41, vI at_), (45, vI n)], Rw 47 (.s (.sl 100 0 19 cap)) [(1, .s (.sl 100 0 19 cap))], Rw 48 (vI at_) [(2, vI at_)], Rw 49 (vX gd 0) [(0, vX gd 0)], Rw 50 (vX gd 0) [(49, vX gd 0)], Rw 51 (vX gd 9) [(50, vX gd 0)], Rw 52 (vI n) [(51, vX gd 9)], Rw 53 (vI (at_ + n)) [(48, vI at_), (52, vI n)], Rw 54 (vP 100 (at_ + n)) [(47, .s (.sl 100 0 19 cap)), (53, vI (at_ + n))], Rw 55 (vW (dg V (at_ + n))) [(54, vP 100 (at_ + n))] [(100, (.sc (Un 19 V), 206))], Rw 56 (vW c) [(7, vW c)], Rw 57 (.two (vW ((dg V (at_ + n) + 0 + c) % 18446744073709551616)) (vW ((dg V (at_ + n) + 0 + c) / 18446744073709551616))) [(55, vW (dg V (at_ + n))), (56, vW c)], Rw 39 (.two (vW ((dg V (at_ + n) + 0 + c) % 18446744073709551616)) (vW ((dg V (at_ + n) + 0 + c) / 18446744073709551616))) [(57, .two (vW ((dg V (at_ + n) + 0 + c) % 18446744073709551616)) (vW ((dg V (at_ + n) + 0 + c) / 18446744073709551616)))], Rw 58 (vW ((dg V (at_ + n) + 0 + c) % 18446744073709551616)) [(39, .two (vW ((dg V (at_ + n) + 0 + c) % 18446744073709551616)) (vW ((dg V (at_ + n) + 0 + c) / 18446744073709551616)))], Rw 59 (vW ((dg V (at_ + n) + 0 + c) / 18446744073709551616)) [(39, .two (vW ((dg V (at_ + n) + 0 + c) % 18446744073709551616)) (vW ((dg V (at_ + n) + 0 + c) / 18446744073709551616)))], Rw 60 (vP 100 (at_ + n)) [(40, .s (.sl 100 0 19 cap)), (46, vI (at_ + n))], Rz [(60, vP 100 (at_ + n)), (58, vW ((dg V (at_ + n) + 0 + c) % 18446744073709551616))] [(100, (.sc (Un 19 V), 206))] [(100, (.sc (Un 19 (setw V (at_ + n) ((dg V (at_ + n) + 0 + c) % 18446744073709551616))), 206))], Rw 7 (vW ((dg V (at_ + n) + 0 + c) / 18446744073709551616)) [(59, vW ((dg V (at_ + n) + 0 + c) / 18446744073709551616))]] [(0, vX gd 0), (1, .s (.sl 100 0 19 cap)), (2, vI at_), (6, vB false), (7, vW ((dg V (at_ + n) + 0 + c) / 18446744073709551616)), (12, vI n), (13, vI i)] [(100, (.sc (Un 19 (setw V (at_ + n) ((dg V (at_ + n) + 0 + c) % 18446744073709551616))), 206))] ⟨tp, tp, tp, tp, tp, tlx1 (fun w hk => hk.get hd (ne_of_fx hne)) on3, tE fun _ => wi_add, tp, tp, tp, tp, tp, tlx1 (fun w hk => hk.get hd (ne_of_fx hne)) on3, tE fun _ => wi_add, txs sl198, tlW on22, tp, t_add64, tp, tp, tp, txs sl198, tsW sz22 (hdd := (Nat.mod_lt _ (by decide))), tp, trivial⟩ ?_
  clear hE; intro γ ac wc hE
  refine sq_t hE [Rw 61 (vW ((dg V (at_ + n) + 0 + c) / 18446744073709551616)) [(7, vW ((dg V (at_ + n) + 0 + c) / 18446744073709551616))], Rw 62 (vB (decide ((dg V (at_ + n) + 0 + c) / 18446744073709551616 = 1))) [(61, vW ((dg V (at_ + n) + 0 + c) / 18446744073709551616))], Rw 6 (vB (decide ((dg V (at_ + n) + 0 + c) / 18446744073709551616 = 1))) [(62, vB (decide ((dg V (at_ + n) + 0 + c) / 18446744073709551616 = 1)))]] [(0, vX gd 0), (1, .s (.sl 100 0 19 cap)), (2, vI at_), (6, vB (decide ((dg V (at_ + n) + 0 + c) / 18446744073709551616 = 1))), (7, vW ((dg V (at_ + n) + 0 + c) / 18446744073709551616)), (12, vI n), (13, vI i)] [(100, (.sc (Un 19 (setw V (at_ + n) ((dg V (at_ + n) + 0 + c) % 18446744073709551616))), 206))] ⟨tp, tE fun _ => d_eql _ _, tp, trivial⟩ ?_
  clear hE; intro γ ac wc hE
  refine wp_ret ?_
  have hf := bk_end (M := M) (u := u) (c := (dg V (at_ + n) + 0 + c) / 18446744073709551616) (V := setw V (at_ + n) ((dg V (at_ + n) + 0 + c) % 18446744073709551616)) (setw_lt ga3 (Nat.mod_lt _ (by decide)) (by omega)) (bk_last hM ga2 (add_one _))
  exact (end1 hE rfl (.tmp 6 (vB (decide ((dg V (at_ + n) + 0 + c) / 18446744073709551616 = 1))) rfl) (⟨by rw [hf.1]; rfl, Keep.only hE.keep, by have h := own_end hE (n := 19) (x := setw V (at_ + n) ((dg V (at_ + n) + 0 + c) % 18446744073709551616)) rfl; rw [hf.2] at h; exact h⟩)).1
end Go.Proofs.Ytddfimfgcfgpbaa
