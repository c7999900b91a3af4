/-
  Long division: divide and of.
-/
import Derived.Test.YtddfimfgcfgpbaaSTf
import Derived.Test.YtddfimfgcfgpbaaSDx
namespace Go.Proofs.Ytddfimfgcfgpbaa
open Sx
open Go.RowKit (Below)
set_option exponentiation.threshold 2000
theorem obj19 {w : World} {γ : Nat → Nat} {g u : Nat} (h : w.heap[g]? = some (Ct.obj γ (.sc (Un 19 u), 206))) : w.heap[g]? = some (u19 u) := by
  rw [Ct.obj, Cn.cs, Un_den γ] at h; exact h
theorem shr_word0 (u s i : Nat) (hs : s < 64) : dg u i / 2 ^ s ||| dg u (i + 1) * 2 ^ (64 - s) % 18446744073709551616 = dg (u / 2 ^ s) i := by
  have h := shr_word u 0 s i hs
  rw [Nat.mul_zero, Nat.zero_add, Nat.add_zero] at h
  exact h
theorem shr_word00 (u s i : Nat) (hs : s = 0) : dg u i / 2 ^ s = dg (u / 2 ^ s) i := by subst hs; simp
theorem Xfull {X i L s : Nat} (hX : X < 2 ^ (64 * L)) (h : i = L) : X % 2 ^ (64 * i) * 2 ^ s = X * 2 ^ s := by rw [h, Nat.mod_eq_of_lt hX]
theorem up0 (X s : Nat) : X % 2 ^ (64 * 0) * 2 ^ s = 0 := by simp [Nat.mod_one]
def dvS (m : Nat) : Nat := 64 - Lib.bitLen (dg m (nw m - 1))
theorem dvOk {m : Nat} (h0 : 0 < m) (hm : m < 2 ^ 576) : DvOk m (m * 2 ^ dvS m) (nw m) (dvS m) := dvOk_of h0 hm
theorem of_word {m M j d : Nat} (hj : 0 < j) (hd : d = dg M (j - 1)) : U9 (setw (mixw m M j) (j - 1) d) = U9 (mixw m M (j - 1)) := by
  refine U9_congr (fun i _ => ?_)
  rw [dg_setw _ _ _ _ (hd ▸ dg_lt _ _), dg_mixw, dg_mixw]
  by_cases h1 : i = j - 1
  · subst h1; simp [hd]
  · by_cases h2 : i < j - 1
    · rw [if_neg h1, if_pos (by omega), if_pos h2]
    · rw [if_neg h1, if_neg (by omega), if_neg h2]
theorem of_start {m M n : Nat} (hm : m < 2 ^ (64 * n)) (hM : M < 2 ^ (64 * n)) : U9 m = U9 (mixw m M n) := U9_congr (fun i _ => by
  rw [dg_mixw]
  split
  · rfl
  · rw [dg_big hm (by omega), dg_big hM (by omega)])
theorem of_d0 {m S j : Nat} (hj : 0 < j) (h : ¬ 0 < j - 1 ∨ ¬ 0 < S) : dg (mixw m (m * 2 ^ S) j) (j - 1) * 2 ^ S % 18446744073709551616 = dg (m * 2 ^ S) (j - 1) := by
  rw [dg_mixw, if_pos (by omega)]
  rcases h with h | h
  · rw [show j - 1 = 0 by omega]; exact shl_word0
  · rw [show S = 0 by omega]; simp [Nat.mod_eq_of_lt (dg_lt m (j - 1))]
theorem of_d1 {m S j : Nat} (h1 : 0 < j - 1) (hS : 0 < S) (h2 : S < 64) : dg (setw (mixw m (m * 2 ^ S) j) (j - 1) (dg (mixw m (m * 2 ^ S) j) (j - 1) * 2 ^ S % 18446744073709551616)) (j - 1) ||| dg (setw (mixw m (m * 2 ^ S) j) (j - 1) (dg (mixw m (m * 2 ^ S) j) (j - 1) * 2 ^ S % 18446744073709551616)) (j - 1 - 1) / 2 ^ (64 - S) = dg (m * 2 ^ S) (j - 1) := by
  obtain ⟨i, rfl⟩ : ∃ i, j = i + 2 := ⟨j - 2, by omega⟩
  have hl : dg (mixw m (m * 2 ^ S) (i + 2)) (i + 2 - 1) * 2 ^ S % 18446744073709551616 < 18446744073709551616 := Nat.mod_lt _ (by decide)
  rw [dg_setw_self _ _ _ hl, dg_setw _ _ _ _ hl, if_neg (by omega), dg_mixw, dg_mixw, if_pos (by omega), if_pos (by omega)]
  exact shl_word hS h2
theorem DvOk.M0 {m M n s : Nat} (D : DvOk m M n s) : 0 < M := by rw [D.eq]; exact Nat.mul_pos D.pos (Nat.pow_pos (by decide))
theorem div_divide (gd gw X m M n s L cap T : Nat) (cs : List Sc) (D : DvOk m M n s) (hL : L ≤ 18) (hX : X < 2 ^ (64 * L)) (hc : ∀ i, i < L → cs[i]? = some (inN .u64 (dg X i))) (w0 : World) (hd : w0.heap[gd]? = some (dvO M n s)) (hw : w0.heap[gw]? = some (.cells (cs.map (Sc.den fun _ => 0)).toArray T (0, 0))) : Calls Try.prog 144 #[.pointer (some ⟨gd, 0, none⟩), .slice (some ⟨gw, 0, none⟩) L cap] w0 fun e w => e = .returned (.tuple #[.agg ((Un 18 (X / m)).map (Sc.den fun _ => 0)).toArray, nv (X % m)]) ∧ Below w0.heap.size w0 w := by
 have hgd := lt_heap hd
 have hgw := lt_heap hw
 have hn1 := D.n1
 have hn9 := D.n9
 have hs63 := D.s63
 refine enter_sx [(0, vX gd 0), (1, .s (.v (.slice (some ⟨gw, 0, none⟩) L cap)))] 124 Try.func144 rfl rfl (Nat.le_of_ble_eq_true (by kernel_rfl)) (fun γ => by kernel_rfl) ?_
 intro γ ac hE
 refine sq_t hE [Rw 4 (vP 4 0) [] [] [(4, (.sc (Un 18 0), 194))], Rw 5 (vP 5 0) [] [] [(5, (.sc (U9 0), 37))]] [(0, vX gd 0), (1, .s (.v (.slice (some ⟨gw, 0, none⟩) L cap))), (4, vP 4 0), (5, vP 5 0)] [(4, (.sc (Un 18 0), 194)), (5, (.sc (U9 0), 37))] ⟨ta zt194, ta zt37, trivial⟩ ?_
 clear hE; intro γ ac wc hE
 refine sq_t hE [Rw 6 (vP 6 0) [] [] [(6, (.sc (Un 19 0), 206))]] [(0, vX gd 0), (1, .s (.v (.slice (some ⟨gw, 0, none⟩) L cap))), (4, vP 4 0), (5, vP 5 0), (6, vP 6 0)] [(4, (.sc (Un 18 0), 194)), (5, (.sc (U9 0), 37)), (6, (.sc (Un 19 0), 206))] ⟨ta zt206, trivial⟩ ?_
 clear hE; intro γ ac wc hE
 refine sq_t hE [Rw 7 (vP 7 0) [] [] [(7, (.sc (Un 18 0), 194))]] [(0, vX gd 0), (1, .s (.v (.slice (some ⟨gw, 0, none⟩) L cap))), (4, vP 4 0), (5, vP 5 0), (6, vP 6 0), (7, vP 7 0)] [(4, (.sc (Un 18 0), 194)), (5, (.sc (U9 0), 37)), (6, (.sc (Un 19 0), 206)), (7, (.sc (Un 18 0), 194))] ⟨ta zt194, trivial⟩ ?_
 clear hE; intro γ ac wc hE
 refine wp_seq ?_
 refine sq_t hE [Rw 15 (.s (.v (.slice (some ⟨gw, 0, none⟩) L cap))) [(1, .s (.v (.slice (some ⟨gw, 0, none⟩) L cap)))], Rw 16 (vI L) [(15, .s (.v (.slice (some ⟨gw, 0, none⟩) L cap)))], Rw 17 (vI 0)] [(0, vX gd 0), (1, .s (.v (.slice (some ⟨gw, 0, none⟩) L cap))), (4, vP 4 0), (5, vP 5 0), (6, vP 6 0), (7, vP 7 0), (15, .s (.v (.slice (some ⟨gw, 0, none⟩) L cap))), (16, vI L), (17, vI 0)] [(4, (.sc (Un 18 0), 194)), (5, (.sc (U9 0), 37)), (6, (.sc (Un 19 0), 206)), (7, (.sc (Un 18 0), 194))] ⟨tp, tp, tp, trivial⟩ ?_
 clear hE; intro γ ac wc hE
 refine wp_block ?_
 refine loop_sx (σ := Nat) (fun i => L - i) (fun i => i ≤ L)
     (fun i => [(0, vX gd 0), (1, .s (.v (.slice (some ⟨gw, 0, none⟩) L cap))), (4, vP 4 0), (5, vP 5 0), (6, vP 6 0), (7, vP 7 0), (15, .s (.v (.slice (some ⟨gw, 0, none⟩) L cap))), (16, vI L), (17, vI i)])
     (fun i => [(4, (.sc (Un 18 0), 194)), (5, (.sc (U9 0), 37)), (6, (.sc (Un 19 (X % 2 ^ (64 * i) * 2 ^ s)), 206)), (7, (.sc (Un 18 0), 194))])
     (0) (by omega) (hE.sub (by kernel_rfl) (by rw [up0]; kernel_rfl)) ?_
 clear hE; intro i γ ac wc hG hE
 refine sq_t hE [Rw 18 (vB (decide (i < L))) [(17, vI i), (16, vI L)]] [(0, vX gd 0), (1, .s (.v (.slice (some ⟨gw, 0, none⟩) L cap))), (4, vP 4 0), (5, vP 5 0), (6, vP 6 0), (7, vP 7 0), (15, .s (.v (.slice (some ⟨gw, 0, none⟩) L cap))), (16, vI L), (17, vI i), (18, vB (decide (i < L)))] [(4, (.sc (Un 18 0), 194)), (5, (.sc (U9 0), 37)), (6, (.sc (Un 19 (X % 2 ^ (64 * i) * 2 ^ s)), 206)), (7, (.sc (Un 18 0), 194))] ⟨tE fun _ => d_lss _ _, trivial⟩ ?_
 clear hE; intro γ ac wc hE
 refine wp_seq ?_
 refine cond_sx hE rfl (fun hb1 => ?_) (fun hb1 => ?_)
 ·
  have hb1p := of_decide_eq_true hb1
  refine wp_skip ?_
  refine then_normal ?_
  refine wp_seq ?_
  refine wp_block ?_
  refine sq_t hE [Rw 19 (vI i) [(17, vI i)], Rw 20 (vX gw i) [(15, .s (.v (.slice (some ⟨gw, 0, none⟩) L cap))), (17, vI i)], Rw 21 (vW (dg X i)) [(20, vX gw i)], Rw 8 (vI i) [(19, vI i)], Rw 9 (vW (dg X i)) [(21, vW (dg X i))]] [(0, vX gd 0), (1, .s (.v (.slice (some ⟨gw, 0, none⟩) L cap))), (4, vP 4 0), (5, vP 5 0), (6, vP 6 0), (7, vP 7 0), (8, vI i), (9, vW (dg X i)), (15, .s (.v (.slice (some ⟨gw, 0, none⟩) L cap))), (16, vI L), (17, vI i)] [(4, (.sc (Un 18 0), 194)), (5, (.sc (U9 0), 37)), (6, (.sc (Un 19 (X % 2 ^ (64 * i) * 2 ^ s)), 206)), (7, (.sc (Un 18 0), 194))] ⟨tp, txsx sl198, trip_loadx1 20 gw i 22 (cs) T (.int .u64 ((dg X i : Nat) : Int)) rfl rfl rfl rfl rfl rfl (fun w hk => hk.get hw) on22 (hc _ (by omega)) rfl, tp, tp, trivial⟩ ?_
  clear hE; intro γ ac wc hE
  refine sq_d hE [Rw 22 (vI i) [(8, vI i)], Rw 23 (vP 6 i) [(6, vP 6 0), (22, vI i)], Rw 24 (vW (dg (X % 2 ^ (64 * i) * 2 ^ s) i)) [(23, vP 6 i)] [(6, (.sc (Un 19 (X % 2 ^ (64 * i) * 2 ^ s)), 206))], Rw 25 (vW (dg X i)) [(9, vW (dg X i))], Rw 26 (vX gd 0) [(0, vX gd 0)], Rw 27 (vX gd 0) [(26, vX gd 0)], Rw 28 (vX gd 10) [(27, vX gd 0)], Rw 29 (vI s) [(28, vX gd 10)], Rw 30 (vW ((dg X i) * 2 ^ s % 18446744073709551616)) [(25, vW (dg X i)), (29, vI s)], Rw 31 (vW ((dg (X % 2 ^ (64 * i) * 2 ^ s) i) ||| ((dg X i) * 2 ^ s % 18446744073709551616))) [(24, vW (dg (X % 2 ^ (64 * i) * 2 ^ s) i)), (30, vW ((dg X i) * 2 ^ s % 18446744073709551616))], Rw 32 (vP 6 i) [(6, vP 6 0), (22, vI i)], Rz [(32, vP 6 i), (31, vW ((dg (X % 2 ^ (64 * i) * 2 ^ s) i) ||| ((dg X i) * 2 ^ s % 18446744073709551616)))] [(6, (.sc (Un 19 (X % 2 ^ (64 * i) * 2 ^ s)), 206))] [(6, (.sc (Un 19 (setw (X % 2 ^ (64 * i) * 2 ^ s) i ((dg (X % 2 ^ (64 * i) * 2 ^ s) i) ||| ((dg X i) * 2 ^ s % 18446744073709551616)))), 206))]] [(0, vX gd 0), (1, .s (.v (.slice (some ⟨gw, 0, none⟩) L cap))), (4, vP 4 0), (5, vP 5 0), (6, vP 6 0), (7, vP 7 0), (8, vI i), (9, vW (dg X i)), (15, .s (.v (.slice (some ⟨gw, 0, none⟩) L cap))), (16, vI L), (17, vI i)] [(4, (.sc (Un 18 0), 194)), (5, (.sc (U9 0), 37)), (6, (.sc (Un 19 (setw (X % 2 ^ (64 * i) * 2 ^ s) i ((dg (X % 2 ^ (64 * i) * 2 ^ s) i) ||| ((dg X i) * 2 ^ s % 18446744073709551616)))), 206)), (7, (.sc (Un 18 0), 194))] ⟨tp, txa0 ar206, tlW on22, tp, tp, tp, tp, tlx1 (fun w hk => hk.get hd) on3, t_shl_u64, t_or_u64 (ha := (dg_lt _ _)) (hb := (Nat.mod_lt _ (by decide))), txa0 ar206, tsW sz22 (hdd := (or_lt (dg_lt _ _) (Nat.mod_lt _ (by decide)))), trivial⟩ ?_
  clear hE; intro γ ac wc hE
  refine sq_t hE [Rw 33 (vX gd 0) [(0, vX gd 0)], Rw 34 (vX gd 0) [(33, vX gd 0)], Rw 35 (vX gd 10) [(34, vX gd 0)], Rw 36 (vI s) [(35, vX gd 10)], Rw 37 (vB (decide (0 < s))) [(36, vI s)]] [(0, vX gd 0), (1, .s (.v (.slice (some ⟨gw, 0, none⟩) L cap))), (4, vP 4 0), (5, vP 5 0), (6, vP 6 0), (7, vP 7 0), (8, vI i), (9, vW (dg X i)), (15, .s (.v (.slice (some ⟨gw, 0, none⟩) L cap))), (16, vI L), (17, vI i), (37, vB (decide (0 < s)))] [(4, (.sc (Un 18 0), 194)), (5, (.sc (U9 0), 37)), (6, (.sc (Un 19 (setw (X % 2 ^ (64 * i) * 2 ^ s) i ((dg (X % 2 ^ (64 * i) * 2 ^ s) i) ||| ((dg X i) * 2 ^ s % 18446744073709551616)))), 206)), (7, (.sc (Un 18 0), 194))] ⟨tp, tp, tp, tlx1 (fun w hk => hk.get hd) on3, tE fun _ => d_gtr _ _, trivial⟩ ?_
  clear hE; intro γ ac wc hE
  refine cond_sx hE rfl (fun hb2 => ?_) (fun hb2 => ?_)
  ·
   have hb2p := of_decide_eq_true hb2
   refine rg_t hE [Rw 38 (vI i) [(8, vI i)], Rw 39 (vI (i + 1)) [(38, vI i)], Rw 40 (vW (dg X i)) [(9, vW (dg X i))], Rw 41 (vX gd 0) [(0, vX gd 0)], Rw 42 (vX gd 0) [(41, vX gd 0)], Rw 43 (vX gd 10) [(42, vX gd 0)], Rw 44 (vI s) [(43, vX gd 10)], Rw 45 (vI (64 - s)) [(44, vI s)], Rw 46 (vW ((dg X i) / 2 ^ (64 - s))) [(40, vW (dg X i)), (45, vI (64 - s))], Rw 47 (vP 6 (i + 1)) [(6, vP 6 0), (39, vI (i + 1))], Rz [(47, vP 6 (i + 1)), (46, vW ((dg X i) / 2 ^ (64 - s)))] [(6, (.sc (Un 19 (setw (X % 2 ^ (64 * i) * 2 ^ s) i ((dg (X % 2 ^ (64 * i) * 2 ^ s) i) ||| ((dg X i) * 2 ^ s % 18446744073709551616)))), 206))] [(6, (.sc (Un 19 (setw (setw (X % 2 ^ (64 * i) * 2 ^ s) i ((dg (X % 2 ^ (64 * i) * 2 ^ s) i) ||| ((dg X i) * 2 ^ s % 18446744073709551616))) (i + 1) ((dg X i) / 2 ^ (64 - s)))), 206))]] [(0, vX gd 0), (1, .s (.v (.slice (some ⟨gw, 0, none⟩) L cap))), (4, vP 4 0), (5, vP 5 0), (6, vP 6 0), (7, vP 7 0), (8, vI i), (9, vW (dg X i)), (15, .s (.v (.slice (some ⟨gw, 0, none⟩) L cap))), (16, vI L), (17, vI i)] [(4, (.sc (Un 18 0), 194)), (5, (.sc (U9 0), 37)), (6, (.sc (Un 19 (setw (setw (X % 2 ^ (64 * i) * 2 ^ s) i ((dg (X % 2 ^ (64 * i) * 2 ^ s) i) ||| ((dg X i) * 2 ^ s % 18446744073709551616))) (i + 1) ((dg X i) / 2 ^ (64 - s)))), 206)), (7, (.sc (Un 18 0), 194))] ⟨tp, tE fun _ => wi_add, tp, tp, tp, tp, tlx1 (fun w hk => hk.get hd) on3, tE fun _ => wi_sub, t_shr_u64, txa0 ar206, tsW sz22 (hdd := (shr_lt _ _ _)), trivial⟩ ?_
   clear hE; intro γ ac wc hE
   refine blk_normal ?_
   refine then_normal ?_
   refine rg_t hE [Rw 48 (vI (i + 1)) [(17, vI i)], Rw 17 (vI (i + 1)) [(48, vI (i + 1))]] [(0, vX gd 0), (1, .s (.v (.slice (some ⟨gw, 0, none⟩) L cap))), (4, vP 4 0), (5, vP 5 0), (6, vP 6 0), (7, vP 7 0), (8, vI i), (9, vW (dg X i)), (15, .s (.v (.slice (some ⟨gw, 0, none⟩) L cap))), (16, vI L), (17, vI (i + 1))] [(4, (.sc (Un 18 0), 194)), (5, (.sc (U9 0), 37)), (6, (.sc (Un 19 (setw (setw (X % 2 ^ (64 * i) * 2 ^ s) i ((dg (X % 2 ^ (64 * i) * 2 ^ s) i) ||| ((dg X i) * 2 ^ s % 18446744073709551616))) (i + 1) ((dg X i) / 2 ^ (64 - s)))), 206)), (7, (.sc (Un 18 0), 194))] ⟨tE fun _ => wi_add, tp, trivial⟩ ?_
   clear hE; intro γ ac wc hE
   refine then_normal ⟨i + 1, by omega, by omega, γ, hE.sub (by kernel_rfl) (by rw [show X % 2 ^ (64 * (i + 1)) * 2 ^ s = setw (setw (X % 2 ^ (64 * i) * 2 ^ s) i ((dg (X % 2 ^ (64 * i) * 2 ^ s) i) ||| ((dg X i) * 2 ^ s % 18446744073709551616))) (i + 1) ((dg X i) / 2 ^ (64 - s)) from (up_step hs63 (by assumption)).symm]; kernel_rfl)⟩
  ·
   have hb2p := of_decide_eq_false hb2
   refine wp_skip ?_
   refine blk_normal ?_
   refine then_normal ?_
   refine rg_t hE [Rw 48 (vI (i + 1)) [(17, vI i)], Rw 17 (vI (i + 1)) [(48, vI (i + 1))]] [(0, vX gd 0), (1, .s (.v (.slice (some ⟨gw, 0, none⟩) L cap))), (4, vP 4 0), (5, vP 5 0), (6, vP 6 0), (7, vP 7 0), (8, vI i), (9, vW (dg X i)), (15, .s (.v (.slice (some ⟨gw, 0, none⟩) L cap))), (16, vI L), (17, vI (i + 1))] [(4, (.sc (Un 18 0), 194)), (5, (.sc (U9 0), 37)), (6, (.sc (Un 19 (setw (X % 2 ^ (64 * i) * 2 ^ s) i ((dg (X % 2 ^ (64 * i) * 2 ^ s) i) ||| ((dg X i) * 2 ^ s % 18446744073709551616)))), 206)), (7, (.sc (Un 18 0), 194))] ⟨tE fun _ => wi_add, tp, trivial⟩ ?_
   clear hE; intro γ ac wc hE
   refine then_normal ⟨i + 1, by omega, by omega, γ, hE.sub (by kernel_rfl) (by rw [show X % 2 ^ (64 * (i + 1)) * 2 ^ s = setw (X % 2 ^ (64 * i) * 2 ^ s) i ((dg (X % 2 ^ (64 * i) * 2 ^ s) i) ||| ((dg X i) * 2 ^ s % 18446744073709551616)) from (up_step0 (by omega)).symm]; kernel_rfl)⟩
 ·
  have hb1p := of_decide_eq_false hb1
  refine wp_exit ?_
  refine then_exit ?_
  refine then_exit ?_
  refine blk_hit ?_
  refine then_normal ?_
  refine wp_seq ?_
  refine sq_t hE [Rw 49 (.s (.v (.slice (some ⟨gw, 0, none⟩) L cap))) [(1, .s (.v (.slice (some ⟨gw, 0, none⟩) L cap)))], Rw 50 (vI L) [(49, .s (.v (.slice (some ⟨gw, 0, none⟩) L cap)))], Rw 51 (vX gd 0) [(0, vX gd 0)], Rw 52 (vX gd 0) [(51, vX gd 0)], Rw 53 (vX gd 9) [(52, vX gd 0)], Rw 54 (vI n) [(53, vX gd 9)], Rw 55 (.s (inI .i64 (((L : Nat) : Int) - ((n : Nat) : Int)))) [(50, vI L), (54, vI n)], Rw 10 (.s (inI .i64 (((L : Nat) : Int) - ((n : Nat) : Int)))) [(55, .s (inI .i64 (((L : Nat) : Int) - ((n : Nat) : Int))))]] [(0, vX gd 0), (1, .s (.v (.slice (some ⟨gw, 0, none⟩) L cap))), (4, vP 4 0), (5, vP 5 0), (6, vP 6 0), (7, vP 7 0), (10, .s (inI .i64 (((L : Nat) : Int) - ((n : Nat) : Int)))), (15, .s (.v (.slice (some ⟨gw, 0, none⟩) L cap))), (16, vI L), (17, vI i)] [(4, (.sc (Un 18 0), 194)), (5, (.sc (U9 0), 37)), (6, (.sc (Un 19 (X % 2 ^ (64 * i) * 2 ^ s)), 206)), (7, (.sc (Un 18 0), 194))] ⟨tp, tp, tp, tp, tp, tlx1 (fun w hk => hk.get hd) on3, tE (x := .int .i64 (IntKind.i64.wrap (((L : Nat) : Int) - ((n : Nat) : Int)))) fun _ => wri_i64 (by omega) (by omega), tp, trivial⟩ ?_
  clear hE; intro γ ac wc hE
  refine wp_block ?_
  refine loop_sx (σ := Int × Nat × Nat) (fun (z, u, Q) => (z + 1).toNat) (fun (z, u, Q) => QuI (X * 2 ^ s) M (z + 1).toNat u Q ∧ z + n ≤ L)
      (fun (z, u, Q) => [(0, vX gd 0), (1, .s (.v (.slice (some ⟨gw, 0, none⟩) L cap))), (4, vP 4 0), (5, vP 5 0), (6, vP 6 0), (7, vP 7 0), (10, .s (inI .i64 z)), (15, .s (.v (.slice (some ⟨gw, 0, none⟩) L cap))), (16, vI L), (17, vI i)])
      (fun (z, u, Q) => [(4, (.sc (Un 18 0), 194)), (5, (.sc (U9 0), 37)), (6, (.sc (Un 19 u), 206)), (7, (.sc (Un 18 Q), 194))])
      ((((L : Nat) : Int) - ((n : Nat) : Int), X * 2 ^ s, 0)) (⟨quI_start D hX (by omega), by omega⟩) (hE.sub (by kernel_rfl) (by dsimp only; rw [← Xfull (s := s) hX (show i = L by omega)]; kernel_rfl)) ?_
  clear hE; rintro ⟨z, u, Q⟩ γ ac wc gz hE
  replace gz : QuI (X * 2 ^ s) M (z + 1).toNat u Q ∧ z + n ≤ L := gz
  replace hE : Env _ _ _ w0 (lk [(0, vX gd 0), (1, .s (.v (.slice (some ⟨gw, 0, none⟩) L cap))), (4, vP 4 0), (5, vP 5 0), (6, vP 6 0), (7, vP 7 0), (10, .s (inI .i64 z)), (15, .s (.v (.slice (some ⟨gw, 0, none⟩) L cap))), (16, vI L), (17, vI i)]) (lk [(4, (.sc (Un 18 0), 194)), (5, (.sc (U9 0), 37)), (6, (.sc (Un 19 u), 206)), (7, (.sc (Un 18 Q), 194))]) γ ac wc := hE
  refine wp_seq ?_
  refine sq_t hE [Rw 56 (.s (inI .i64 z)) [(10, .s (inI .i64 z))], Rw 57 (vB (decide (0 ≤ z))) [(56, .s (inI .i64 z))]] [(0, vX gd 0), (1, .s (.v (.slice (some ⟨gw, 0, none⟩) L cap))), (4, vP 4 0), (5, vP 5 0), (6, vP 6 0), (7, vP 7 0), (10, .s (inI .i64 z)), (15, .s (.v (.slice (some ⟨gw, 0, none⟩) L cap))), (16, vI L), (17, vI i), (57, vB (decide (0 ≤ z)))] [(4, (.sc (Un 18 0), 194)), (5, (.sc (U9 0), 37)), (6, (.sc (Un 19 u), 206)), (7, (.sc (Un 18 Q), 194))] ⟨tp, tE (x := .bool (decide (z ≥ ((0 : Nat) : Int)))) fun _ => (congrArg Value.bool (decide_eq_decide.2 (by omega))), trivial⟩ ?_
  clear hE; intro γ ac wc hE
  refine cond_sx hE rfl (fun hb3 => ?_) (fun hb3 => ?_)
  ·
   have hb3p := of_decide_eq_true hb3
   obtain ⟨at_, rfl⟩ := Int.eq_ofNat_of_zero_le hb3p
   have gq : QuI (X * 2 ^ s) M (at_ + 1) u Q := gz.1
   have gwi := quI_window D.lt gq
   have gs1 := gs_spec D.n1 D.lt D.ge gwi.1
   have gat : at_ + n ≤ L := by omega
   replace hE : Env _ _ _ w0 (lk [(0, vX gd 0), (1, .s (.v (.slice (some ⟨gw, 0, none⟩) L cap))), (4, vP 4 0), (5, vP 5 0), (6, vP 6 0), (7, vP 7 0), (10, vI at_), (15, .s (.v (.slice (some ⟨gw, 0, none⟩) L cap))), (16, vI L), (17, vI i)]) (lk [(4, (.sc (Un 18 0), 194)), (5, (.sc (U9 0), 37)), (6, (.sc (Un 19 u), 206)), (7, (.sc (Un 18 Q), 194))]) γ ac wc := hE.sub (by kernel_rfl) (by kernel_rfl)
   refine wp_skip ?_
   refine then_normal ?_
   refine wp_seq ?_
   refine wp_block ?_
   refine sq_t hE [Rw 60 (vX gd 0) [(0, vX gd 0)], Rw 61 (.s (.sl 6 0 19 19)) [(6, vP 6 0)], Rw 62 (vI at_) [(10, vI at_)], Rw 63 (vW (gs M n u at_)) [(60, vX gd 0), (61, .s (.sl 6 0 19 19)), (62, vI at_)] [(6, (.sc (Un 19 u), 206))], Rw 11 (vW (gs M n u at_)) [(63, vW (gs M n u at_))]] [(0, vX gd 0), (1, .s (.v (.slice (some ⟨gw, 0, none⟩) L cap))), (4, vP 4 0), (5, vP 5 0), (6, vP 6 0), (7, vP 7 0), (10, vI at_), (11, vW (gs M n u at_)), (15, .s (.v (.slice (some ⟨gw, 0, none⟩) L cap))), (16, vI L), (17, vI i)] [(4, (.sc (Un 18 0), 194)), (5, (.sc (U9 0), 37)), (6, (.sc (Un 19 u), 206)), (7, (.sc (Un 18 Q), 194))] ⟨tp, tp, tp, tt fun γ w hk hf hks => div_guess gd (γ 6) M n s u at_ 19 D.n1 D.n9 (by omega) w (hk.get hd) (obj19 (hks _ (.head _))), tp, trivial⟩ ?_
   clear hE; intro γ ac wc hE
   refine wp_seq ?_
   refine sq_t hE [Rw 64 (vX gd 0) [(0, vX gd 0)], Rw 65 (.s (.sl 6 0 19 19)) [(6, vP 6 0)], Rw 66 (vI at_) [(10, vI at_)], Rw 67 (vW (gs M n u at_)) [(11, vW (gs M n u at_))], Rw 68 (vB (decide (tkb M u at_ (gs M n u at_) = 1))) [(64, vX gd 0), (65, .s (.sl 6 0 19 19)), (66, vI at_), (67, vW (gs M n u at_))] [(6, (.sc (Un 19 u), 206))] [] [(6, (.sc (Un 19 (tku M n u at_ (gs M n u at_))), 206))], Rw 12 (vB (decide (tkb M u at_ (gs M n u at_) = 1))) [(68, vB (decide (tkb M u at_ (gs M n u at_) = 1)))]] [(0, vX gd 0), (1, .s (.v (.slice (some ⟨gw, 0, none⟩) L cap))), (4, vP 4 0), (5, vP 5 0), (6, vP 6 0), (7, vP 7 0), (10, vI at_), (11, vW (gs M n u at_)), (12, vB (decide (tkb M u at_ (gs M n u at_) = 1))), (15, .s (.v (.slice (some ⟨gw, 0, none⟩) L cap))), (16, vI L), (17, vI i)] [(4, (.sc (Un 18 0), 194)), (5, (.sc (U9 0), 37)), (6, (.sc (Un 19 (tku M n u at_ (gs M n u at_))), 206)), (7, (.sc (Un 18 Q), 194))] ⟨tp, tp, tp, tp, tc fun γ w hk hf hks => (div_take gd (γ 6) M n s u at_ 19 (gs M n u at_) D.n1 D.n9 (by omega) D.lt gwi.2 gs1.2 w (hk.get hd) (obj19 (hks _ (.head _)))).mono (fun e w' ⟨h1, h2, h3⟩ => ⟨γ, Eff.onlyU 6 19 _ 206 rfl rfl h2 h3, h1⟩), tp, trivial⟩ ?_
   clear hE; intro γ ac wc hE
   refine wp_block ?_
   refine loop_sx (σ := Nat × Nat) (fun (x, V) => x) (fun (x, V) => DgI M n u at_ x V)
       (fun (x, V) => [(0, vX gd 0), (1, .s (.v (.slice (some ⟨gw, 0, none⟩) L cap))), (4, vP 4 0), (5, vP 5 0), (6, vP 6 0), (7, vP 7 0), (10, vI at_), (11, vW x), (12, vB (decide (u / 2 ^ (64 * at_) / M < x))), (15, .s (.v (.slice (some ⟨gw, 0, none⟩) L cap))), (16, vI L), (17, vI i)])
       (fun (x, V) => [(4, (.sc (Un 18 0), 194)), (5, (.sc (U9 0), 37)), (6, (.sc (Un 19 V), 206)), (7, (.sc (Un 18 Q), 194))])
       ((gs M n u at_, tku M n u at_ (gs M n u at_))) ((dgI_start D.M0 D.lt gwi.2 gs1.1 gs1.2)) (hE.sub (by dsimp only; rw [← tkb_iff D.M0]; kernel_rfl) (by kernel_rfl)) ?_
   clear hE; rintro ⟨x, V⟩ γ ac wc gi hE
   replace gi : DgI M n u at_ x V := gi
   replace hE : Env _ _ _ w0 (lk [(0, vX gd 0), (1, .s (.v (.slice (some ⟨gw, 0, none⟩) L cap))), (4, vP 4 0), (5, vP 5 0), (6, vP 6 0), (7, vP 7 0), (10, vI at_), (11, vW x), (12, vB (decide (u / 2 ^ (64 * at_) / M < x))), (15, .s (.v (.slice (some ⟨gw, 0, none⟩) L cap))), (16, vI L), (17, vI i)]) (lk [(4, (.sc (Un 18 0), 194)), (5, (.sc (U9 0), 37)), (6, (.sc (Un 19 V), 206)), (7, (.sc (Un 18 Q), 194))]) γ ac wc := hE
   obtain ⟨gi1, gi2, gi3, gi4⟩ := id gi
   refine wp_seq ?_
   refine sq_t hE [Rw 69 (vB (decide (u / 2 ^ (64 * at_) / M < x))) [(12, vB (decide (u / 2 ^ (64 * at_) / M < x)))]] [(0, vX gd 0), (1, .s (.v (.slice (some ⟨gw, 0, none⟩) L cap))), (4, vP 4 0), (5, vP 5 0), (6, vP 6 0), (7, vP 7 0), (10, vI at_), (11, vW x), (12, vB (decide (u / 2 ^ (64 * at_) / M < x))), (15, .s (.v (.slice (some ⟨gw, 0, none⟩) L cap))), (16, vI L), (17, vI i), (69, vB (decide (u / 2 ^ (64 * at_) / M < x)))] [(4, (.sc (Un 18 0), 194)), (5, (.sc (U9 0), 37)), (6, (.sc (Un 19 V), 206)), (7, (.sc (Un 18 Q), 194))] ⟨tp, trivial⟩ ?_
   clear hE; intro γ ac wc hE
   refine cond_sx hE rfl (fun hb4 => ?_) (fun hb4 => ?_)
   ·
    have hb4p := of_decide_eq_true hb4
    have hbk := dgI_back D.M0 gwi.2 gi hb4p
    refine wp_skip ?_
    refine then_normal ?_
    refine wp_seq ?_
    refine wp_block ?_
    refine rg_t hE [Rw 75 (vW x) [(11, vW x)], Rw 76 (vW (x - 1)) [(75, vW x)], Rw 11 (vW (x - 1)) [(76, vW (x - 1))]] [(0, vX gd 0), (1, .s (.v (.slice (some ⟨gw, 0, none⟩) L cap))), (4, vP 4 0), (5, vP 5 0), (6, vP 6 0), (7, vP 7 0), (10, vI at_), (11, vW (x - 1)), (12, vB (decide (u / 2 ^ (64 * at_) / M < x))), (15, .s (.v (.slice (some ⟨gw, 0, none⟩) L cap))), (16, vI L), (17, vI i)] [(4, (.sc (Un 18 0), 194)), (5, (.sc (U9 0), 37)), (6, (.sc (Un 19 V), 206)), (7, (.sc (Un 18 Q), 194))] ⟨tp, tE (x := .int .u64 (IntKind.u64.wrap (((x : Nat) : Int) - ((1 : Nat) : Int)))) fun _ => (wu_sub _ _ (by omega)).trans (congrArg (fun n : Nat => Value.int .u64 (n : Int)) (by have := hbk.1; omega)), tp, trivial⟩ ?_
    clear hE; intro γ ac wc hE
    refine blk_normal ?_
    refine then_normal ?_
    refine rg_t hE [Rw 70 (vX gd 0) [(0, vX gd 0)], Rw 71 (.s (.sl 6 0 19 19)) [(6, vP 6 0)], Rw 72 (vI at_) [(10, vI at_)], Rw 73 (vB (decide (bkb M n V at_ = 1))) [(70, vX gd 0), (71, .s (.sl 6 0 19 19)), (72, vI at_)] [(6, (.sc (Un 19 V), 206))] [] [(6, (.sc (Un 19 (bku M n V at_)), 206))], Rw 74 (vB (!(decide (bkb M n V at_ = 1)))) [(73, vB (decide (bkb M n V at_ = 1)))], Rw 12 (vB (!(decide (bkb M n V at_ = 1)))) [(74, vB (!(decide (bkb M n V at_ = 1))))]] [(0, vX gd 0), (1, .s (.v (.slice (some ⟨gw, 0, none⟩) L cap))), (4, vP 4 0), (5, vP 5 0), (6, vP 6 0), (7, vP 7 0), (10, vI at_), (11, vW (x - 1)), (12, vB (!(decide (bkb M n V at_ = 1)))), (15, .s (.v (.slice (some ⟨gw, 0, none⟩) L cap))), (16, vI L), (17, vI i)] [(4, (.sc (Un 18 0), 194)), (5, (.sc (U9 0), 37)), (6, (.sc (Un 19 (bku M n V at_)), 206)), (7, (.sc (Un 18 Q), 194))] ⟨tp, tp, tp, tc fun γ w hk hf hks => (div_back gd (γ 6) M n s V at_ 19 D.n1 D.n9 (by omega) D.lt gi3 w (hk.get hd) (obj19 (hks _ (.head _)))).mono (fun e w' ⟨h1, h2, h3⟩ => ⟨γ, Eff.onlyU 6 19 _ 206 rfl rfl h2 h3, h1⟩), tp, tp, trivial⟩ ?_
    clear hE; intro γ ac wc hE
    refine then_normal ⟨(x - 1, bku M n V at_), (by show x - 1 < x; have := hbk.1; omega), hbk.2.1, γ, hE.sub (by dsimp only; rw [← hbk.2.2]; kernel_rfl) (by kernel_rfl)⟩
   ·
    have hb4p := of_decide_eq_false hb4
    have hxq := hb4p
    refine wp_exit ?_
    refine then_exit ?_
    refine then_exit ?_
    refine blk_hit ?_
    refine then_normal ?_
    refine rg_t hE [Rw 77 (vI at_) [(10, vI at_)], Rw 78 (vW x) [(11, vW x)], Rw 79 (vP 7 0) [(7, vP 7 0)], Rw 80 (vP 7 at_) [(79, vP 7 0), (77, vI at_)], Rz [(80, vP 7 at_), (78, vW x)] [(7, (.sc (Un 18 Q), 194))] [(7, (.sc (Un 18 (setw Q at_ x)), 194))]] [(0, vX gd 0), (1, .s (.v (.slice (some ⟨gw, 0, none⟩) L cap))), (4, vP 4 0), (5, vP 5 0), (6, vP 6 0), (7, vP 7 0), (10, vI at_), (11, vW x), (12, vB (decide (u / 2 ^ (64 * at_) / M < x))), (15, .s (.v (.slice (some ⟨gw, 0, none⟩) L cap))), (16, vI L), (17, vI i)] [(4, (.sc (Un 18 0), 194)), (5, (.sc (U9 0), 37)), (6, (.sc (Un 19 V), 206)), (7, (.sc (Un 18 (setw Q at_ x)), 194))] ⟨tp, tp, tp, txa0 ar192, tsW sz22, trivial⟩ ?_
    clear hE; intro γ ac wc hE
    refine blk_normal ?_
    refine then_normal ?_
    refine rg_t hE [Rw 58 (vI at_) [(10, vI at_)], Rw 59 (.s (inI .i64 (((at_ : Nat) : Int) - ((1 : Nat) : Int)))) [(58, vI at_)], Rw 10 (.s (inI .i64 (((at_ : Nat) : Int) - ((1 : Nat) : Int)))) [(59, .s (inI .i64 (((at_ : Nat) : Int) - ((1 : Nat) : Int))))]] [(0, vX gd 0), (1, .s (.v (.slice (some ⟨gw, 0, none⟩) L cap))), (4, vP 4 0), (5, vP 5 0), (6, vP 6 0), (7, vP 7 0), (10, .s (inI .i64 (((at_ : Nat) : Int) - ((1 : Nat) : Int)))), (11, vW x), (12, vB (decide (u / 2 ^ (64 * at_) / M < x))), (15, .s (.v (.slice (some ⟨gw, 0, none⟩) L cap))), (16, vI L), (17, vI i)] [(4, (.sc (Un 18 0), 194)), (5, (.sc (U9 0), 37)), (6, (.sc (Un 19 V), 206)), (7, (.sc (Un 18 (setw Q at_ x)), 194))] ⟨tp, tE (x := .int .i64 (IntKind.i64.wrap (((at_ : Nat) : Int) - ((1 : Nat) : Int)))) fun _ => wri_i64 (by omega) (by omega), tp, trivial⟩ ?_
    clear hE; intro γ ac wc hE
    refine then_normal ⟨(((at_ : Nat) : Int) - 1, V, setw Q at_ x), (by show (((at_ : Nat) : Int) - 1 + 1).toNat < (((at_ : Nat) : Int) + 1).toNat; omega), ⟨by rw [show (((at_ : Nat) : Int) - 1 + 1).toNat = at_ by omega]; exact quI_step D.M0 gq gi hxq, by omega⟩, γ, hE.sub (by kernel_rfl) (by kernel_rfl)⟩
  ·
   have hb3p := of_decide_eq_false hb3
   have gq := gz.1
   rw [show (z + 1).toNat = 0 by omega] at gq
   have ge := quI_end D gq
   refine wp_exit ?_
   refine then_exit ?_
   refine then_exit ?_
   refine blk_hit ?_
   refine then_normal ?_
   refine sq_t hE [Rw 13 (vP 13 0) [] [] [(13, (.sc (U9 0), 37))]] [(0, vX gd 0), (1, .s (.v (.slice (some ⟨gw, 0, none⟩) L cap))), (4, vP 4 0), (5, vP 5 0), (6, vP 6 0), (7, vP 7 0), (10, .s (inI .i64 z)), (13, vP 13 0), (15, .s (.v (.slice (some ⟨gw, 0, none⟩) L cap))), (16, vI L), (17, vI i)] [(4, (.sc (Un 18 0), 194)), (5, (.sc (U9 0), 37)), (6, (.sc (Un 19 u), 206)), (7, (.sc (Un 18 Q), 194)), (13, (.sc (U9 0), 37))] ⟨ta zt37, trivial⟩ ?_
   clear hE; intro γ ac wc hE
   refine wp_seq ?_
   refine sq_t hE [Rw 81 (vX gd 0) [(0, vX gd 0)], Rw 82 (vX gd 0) [(81, vX gd 0)], Rw 83 (vX gd 9) [(82, vX gd 0)], Rw 84 (vI n) [(83, vX gd 9)], Rw 85 (vI 0)] [(0, vX gd 0), (1, .s (.v (.slice (some ⟨gw, 0, none⟩) L cap))), (4, vP 4 0), (5, vP 5 0), (6, vP 6 0), (7, vP 7 0), (10, .s (inI .i64 z)), (13, vP 13 0), (15, .s (.v (.slice (some ⟨gw, 0, none⟩) L cap))), (16, vI L), (17, vI i), (84, vI n), (85, vI 0)] [(4, (.sc (Un 18 0), 194)), (5, (.sc (U9 0), 37)), (6, (.sc (Un 19 u), 206)), (7, (.sc (Un 18 Q), 194)), (13, (.sc (U9 0), 37))] ⟨tp, tp, tp, tlx1 (fun w hk => hk.get hd) on3, tp, trivial⟩ ?_
   clear hE; intro γ ac wc hE
   refine wp_block ?_
   refine loop_sx (σ := Nat) (fun j => n - j) (fun j => j ≤ n)
       (fun j => [(0, vX gd 0), (1, .s (.v (.slice (some ⟨gw, 0, none⟩) L cap))), (4, vP 4 0), (5, vP 5 0), (6, vP 6 0), (7, vP 7 0), (10, .s (inI .i64 z)), (13, vP 13 0), (15, .s (.v (.slice (some ⟨gw, 0, none⟩) L cap))), (16, vI L), (17, vI i), (84, vI n), (85, vI j)])
       (fun j => [(4, (.sc (Un 18 0), 194)), (5, (.sc (U9 0), 37)), (6, (.sc (Un 19 u), 206)), (7, (.sc (Un 18 Q), 194)), (13, (.sc (U9 (mixw (u / 2 ^ s) 0 j)), 37))])
       (0) (by omega) (hE.sub (by kernel_rfl) (by rw [← U9_mix0]; kernel_rfl)) ?_
   clear hE; intro j γ ac wc hG4 hE
   refine sq_t hE [Rw 86 (vB (decide (j < n))) [(85, vI j), (84, vI n)]] [(0, vX gd 0), (1, .s (.v (.slice (some ⟨gw, 0, none⟩) L cap))), (4, vP 4 0), (5, vP 5 0), (6, vP 6 0), (7, vP 7 0), (10, .s (inI .i64 z)), (13, vP 13 0), (15, .s (.v (.slice (some ⟨gw, 0, none⟩) L cap))), (16, vI L), (17, vI i), (84, vI n), (85, vI j), (86, vB (decide (j < n)))] [(4, (.sc (Un 18 0), 194)), (5, (.sc (U9 0), 37)), (6, (.sc (Un 19 u), 206)), (7, (.sc (Un 18 Q), 194)), (13, (.sc (U9 (mixw (u / 2 ^ s) 0 j)), 37))] ⟨tE fun _ => d_lss _ _, trivial⟩ ?_
   clear hE; intro γ ac wc hE
   refine wp_seq ?_
   refine cond_sx hE rfl (fun hb5 => ?_) (fun hb5 => ?_)
   ·
    have hb5p := of_decide_eq_true hb5
    refine wp_skip ?_
    refine then_normal ?_
    refine wp_seq ?_
    refine wp_block ?_
    refine sq_t hE [Rw 87 (vI j) [(85, vI j)], Rw 14 (vI j) [(87, vI j)]] [(0, vX gd 0), (1, .s (.v (.slice (some ⟨gw, 0, none⟩) L cap))), (4, vP 4 0), (5, vP 5 0), (6, vP 6 0), (7, vP 7 0), (10, .s (inI .i64 z)), (13, vP 13 0), (14, vI j), (15, .s (.v (.slice (some ⟨gw, 0, none⟩) L cap))), (16, vI L), (17, vI i), (84, vI n), (85, vI j)] [(4, (.sc (Un 18 0), 194)), (5, (.sc (U9 0), 37)), (6, (.sc (Un 19 u), 206)), (7, (.sc (Un 18 Q), 194)), (13, (.sc (U9 (mixw (u / 2 ^ s) 0 j)), 37))] ⟨tp, tp, trivial⟩ ?_
    clear hE; intro γ ac wc hE
    refine sq_d hE [Rw 88 (vI j) [(14, vI j)], Rw 89 (vI j) [(14, vI j)], Rw 90 (vP 6 j) [(6, vP 6 0), (89, vI j)], Rw 91 (vW (dg u j)) [(90, vP 6 j)] [(6, (.sc (Un 19 u), 206))], Rw 92 (vX gd 0) [(0, vX gd 0)], Rw 93 (vX gd 0) [(92, vX gd 0)], Rw 94 (vX gd 10) [(93, vX gd 0)], Rw 95 (vI s) [(94, vX gd 10)], Rw 96 (vW ((dg u j) / 2 ^ s)) [(91, vW (dg u j)), (95, vI s)], Rw 97 (vP 13 0) [(13, vP 13 0)], Rw 98 (vP 13 j) [(97, vP 13 0), (88, vI j)], Rz [(98, vP 13 j), (96, vW ((dg u j) / 2 ^ s))] [(13, (.sc (U9 (mixw (u / 2 ^ s) 0 j)), 37))] [(13, (.sc (U9 (setw (mixw (u / 2 ^ s) 0 j) j ((dg u j) / 2 ^ s))), 37))]] [(0, vX gd 0), (1, .s (.v (.slice (some ⟨gw, 0, none⟩) L cap))), (4, vP 4 0), (5, vP 5 0), (6, vP 6 0), (7, vP 7 0), (10, .s (inI .i64 z)), (13, vP 13 0), (14, vI j), (15, .s (.v (.slice (some ⟨gw, 0, none⟩) L cap))), (16, vI L), (17, vI i), (84, vI n), (85, vI j)] [(4, (.sc (Un 18 0), 194)), (5, (.sc (U9 0), 37)), (6, (.sc (Un 19 u), 206)), (7, (.sc (Un 18 Q), 194)), (13, (.sc (U9 (setw (mixw (u / 2 ^ s) 0 j) j ((dg u j) / 2 ^ s))), 37))] ⟨tp, tp, txa0 ar206, tlW on22, tp, tp, tp, tlx1 (fun w hk => hk.get hd) on3, t_shr_u64, tp, txa0 ar35, tsU sz22 (hdd := (shr_lt _ _ _)), trivial⟩ ?_
    clear hE; intro γ ac wc hE
    refine sq_t hE [Rw 99 (vX gd 0) [(0, vX gd 0)], Rw 100 (vX gd 0) [(99, vX gd 0)], Rw 101 (vX gd 10) [(100, vX gd 0)], Rw 102 (vI s) [(101, vX gd 10)], Rw 103 (vB (decide (0 < s))) [(102, vI s)]] [(0, vX gd 0), (1, .s (.v (.slice (some ⟨gw, 0, none⟩) L cap))), (4, vP 4 0), (5, vP 5 0), (6, vP 6 0), (7, vP 7 0), (10, .s (inI .i64 z)), (13, vP 13 0), (14, vI j), (15, .s (.v (.slice (some ⟨gw, 0, none⟩) L cap))), (16, vI L), (17, vI i), (84, vI n), (85, vI j), (103, vB (decide (0 < s)))] [(4, (.sc (Un 18 0), 194)), (5, (.sc (U9 0), 37)), (6, (.sc (Un 19 u), 206)), (7, (.sc (Un 18 Q), 194)), (13, (.sc (U9 (setw (mixw (u / 2 ^ s) 0 j) j ((dg u j) / 2 ^ s))), 37))] ⟨tp, tp, tp, tlx1 (fun w hk => hk.get hd) on3, tE fun _ => d_gtr _ _, trivial⟩ ?_
    clear hE; intro γ ac wc hE
    refine cond_sx hE rfl (fun hb6 => ?_) (fun hb6 => ?_)
    ·
     have hb6p := of_decide_eq_true hb6
     refine rg_d hE [Rw 104 (vI j) [(14, vI j)], Rw 105 (vP 13 0) [(13, vP 13 0)], Rw 106 (vP 13 j) [(105, vP 13 0), (104, vI j)], Rw 107 (vW (dg (setw (mixw (u / 2 ^ s) 0 j) j ((dg u j) / 2 ^ s)) j)) [(106, vP 13 j)] [(13, (.sc (U9 (setw (mixw (u / 2 ^ s) 0 j) j ((dg u j) / 2 ^ s))), 37))], Rw 108 (vI j) [(14, vI j)], Rw 109 (vI (j + 1)) [(108, vI j)], Rw 110 (vP 6 (j + 1)) [(6, vP 6 0), (109, vI (j + 1))], Rw 111 (vW (dg u (j + 1))) [(110, vP 6 (j + 1))] [(6, (.sc (Un 19 u), 206))], Rw 112 (vX gd 0) [(0, vX gd 0)], Rw 113 (vX gd 0) [(112, vX gd 0)], Rw 114 (vX gd 10) [(113, vX gd 0)], Rw 115 (vI s) [(114, vX gd 10)], Rw 116 (vI (64 - s)) [(115, vI s)], Rw 117 (vW ((dg u (j + 1)) * 2 ^ (64 - s) % 18446744073709551616)) [(111, vW (dg u (j + 1))), (116, vI (64 - s))], Rw 118 (vW ((dg (setw (mixw (u / 2 ^ s) 0 j) j ((dg u j) / 2 ^ s)) j) ||| ((dg u (j + 1)) * 2 ^ (64 - s) % 18446744073709551616))) [(107, vW (dg (setw (mixw (u / 2 ^ s) 0 j) j ((dg u j) / 2 ^ s)) j)), (117, vW ((dg u (j + 1)) * 2 ^ (64 - s) % 18446744073709551616))], Rw 119 (vP 13 0) [(13, vP 13 0)], Rw 120 (vP 13 j) [(119, vP 13 0), (104, vI j)], Rz [(120, vP 13 j), (118, vW ((dg (setw (mixw (u / 2 ^ s) 0 j) j ((dg u j) / 2 ^ s)) j) ||| ((dg u (j + 1)) * 2 ^ (64 - s) % 18446744073709551616)))] [(13, (.sc (U9 (setw (mixw (u / 2 ^ s) 0 j) j ((dg u j) / 2 ^ s))), 37))] [(13, (.sc (U9 (setw (setw (mixw (u / 2 ^ s) 0 j) j ((dg u j) / 2 ^ s)) j ((dg (setw (mixw (u / 2 ^ s) 0 j) j ((dg u j) / 2 ^ s)) j) ||| ((dg u (j + 1)) * 2 ^ (64 - s) % 18446744073709551616)))), 37))]] [(0, vX gd 0), (1, .s (.v (.slice (some ⟨gw, 0, none⟩) L cap))), (4, vP 4 0), (5, vP 5 0), (6, vP 6 0), (7, vP 7 0), (10, .s (inI .i64 z)), (13, vP 13 0), (14, vI j), (15, .s (.v (.slice (some ⟨gw, 0, none⟩) L cap))), (16, vI L), (17, vI i), (84, vI n), (85, vI j)] [(4, (.sc (Un 18 0), 194)), (5, (.sc (U9 0), 37)), (6, (.sc (Un 19 u), 206)), (7, (.sc (Un 18 Q), 194)), (13, (.sc (U9 (setw (setw (mixw (u / 2 ^ s) 0 j) j ((dg u j) / 2 ^ s)) j ((dg (setw (mixw (u / 2 ^ s) 0 j) j ((dg u j) / 2 ^ s)) j) ||| ((dg u (j + 1)) * 2 ^ (64 - s) % 18446744073709551616)))), 37))] ⟨tp, tp, txa0 ar35, tlU on22, tp, tE fun _ => wi_add, txa0 ar206, tlW on22, tp, tp, tp, tlx1 (fun w hk => hk.get hd) on3, tE fun _ => wi_sub, t_shl_u64, t_or_u64 (ha := (dg_lt _ _)) (hb := (Nat.mod_lt _ (by decide))), tp, txa0 ar35, tsU sz22 (hdd := (or_lt (dg_lt _ _) (Nat.mod_lt _ (by decide)))), trivial⟩ ?_
     clear hE; intro γ ac wc hE
     refine blk_normal ?_
     refine then_normal ?_
     refine rg_t hE [Rw 121 (vI (j + 1)) [(85, vI j)], Rw 85 (vI (j + 1)) [(121, vI (j + 1))]] [(0, vX gd 0), (1, .s (.v (.slice (some ⟨gw, 0, none⟩) L cap))), (4, vP 4 0), (5, vP 5 0), (6, vP 6 0), (7, vP 7 0), (10, .s (inI .i64 z)), (13, vP 13 0), (14, vI j), (15, .s (.v (.slice (some ⟨gw, 0, none⟩) L cap))), (16, vI L), (17, vI i), (84, vI n), (85, vI (j + 1))] [(4, (.sc (Un 18 0), 194)), (5, (.sc (U9 0), 37)), (6, (.sc (Un 19 u), 206)), (7, (.sc (Un 18 Q), 194)), (13, (.sc (U9 (setw (setw (mixw (u / 2 ^ s) 0 j) j ((dg u j) / 2 ^ s)) j ((dg (setw (mixw (u / 2 ^ s) 0 j) j ((dg u j) / 2 ^ s)) j) ||| ((dg u (j + 1)) * 2 ^ (64 - s) % 18446744073709551616)))), 37))] ⟨tE fun _ => wi_add, tp, trivial⟩ ?_
     clear hE; intro γ ac wc hE
     refine then_normal ⟨j + 1, by omega, by omega, γ, hE.sub (by kernel_rfl) (by rw [setw_setw _ _ _ _ (shr_lt _ _ _) (or_lt (dg_lt _ _) (Nat.mod_lt _ (by decide))), ← setw_mixw (s := u / 2 ^ s) (x := 0) (i := j) (d := ((dg (setw (mixw (u / 2 ^ s) 0 j) j ((dg u j) / 2 ^ s)) j) ||| ((dg u (j + 1)) * 2 ^ (64 - s) % 18446744073709551616))) (by rw [dg_setw_self _ _ _ (shr_lt _ _ _), shr_word0 u s j (by omega)])]; kernel_rfl)⟩
    ·
     have hb6p := of_decide_eq_false hb6
     refine wp_skip ?_
     refine blk_normal ?_
     refine then_normal ?_
     refine rg_t hE [Rw 121 (vI (j + 1)) [(85, vI j)], Rw 85 (vI (j + 1)) [(121, vI (j + 1))]] [(0, vX gd 0), (1, .s (.v (.slice (some ⟨gw, 0, none⟩) L cap))), (4, vP 4 0), (5, vP 5 0), (6, vP 6 0), (7, vP 7 0), (10, .s (inI .i64 z)), (13, vP 13 0), (14, vI j), (15, .s (.v (.slice (some ⟨gw, 0, none⟩) L cap))), (16, vI L), (17, vI i), (84, vI n), (85, vI (j + 1))] [(4, (.sc (Un 18 0), 194)), (5, (.sc (U9 0), 37)), (6, (.sc (Un 19 u), 206)), (7, (.sc (Un 18 Q), 194)), (13, (.sc (U9 (setw (mixw (u / 2 ^ s) 0 j) j ((dg u j) / 2 ^ s))), 37))] ⟨tE fun _ => wi_add, tp, trivial⟩ ?_
     clear hE; intro γ ac wc hE
     refine then_normal ⟨j + 1, by omega, by omega, γ, hE.sub (by kernel_rfl) (by rw [← setw_mixw (s := u / 2 ^ s) (x := 0) (i := j) (d := ((dg u j) / 2 ^ s)) (shr_word00 u s j (by omega))]; kernel_rfl)⟩
   ·
    have hb5p := of_decide_eq_false hb5
    refine wp_exit ?_
    refine then_exit ?_
    refine then_exit ?_
    refine blk_hit ?_
    refine then_normal ?_
    refine sq_d hE [Rw 122 (.agg (Un 18 Q)) [(7, vP 7 0)] [(7, (.sc (Un 18 Q), 194))], Rw 123 (.agg (U9 (mixw (u / 2 ^ s) 0 j))) [(13, vP 13 0)] [(13, (.sc (U9 (mixw (u / 2 ^ s) 0 j)), 37))], Rz [(4, vP 4 0), (122, .agg (Un 18 Q))] [(4, (.sc (Un 18 0), 194))] [(4, (.sc (Un 18 Q), 194))], Rz [(5, vP 5 0), (123, .agg (U9 (mixw (u / 2 ^ s) 0 j)))] [(5, (.sc (U9 0), 37))] [(5, (.sc (U9 (mixw (u / 2 ^ s) 0 j)), 37))]] [(0, vX gd 0), (1, .s (.v (.slice (some ⟨gw, 0, none⟩) L cap))), (4, vP 4 0), (5, vP 5 0), (6, vP 6 0), (7, vP 7 0), (10, .s (inI .i64 z)), (13, vP 13 0), (15, .s (.v (.slice (some ⟨gw, 0, none⟩) L cap))), (16, vI L), (17, vI i), (84, vI n), (85, vI j)] [(4, (.sc (Un 18 Q), 194)), (5, (.sc (U9 (mixw (u / 2 ^ s) 0 j)), 37)), (6, (.sc (Un 19 u), 206)), (7, (.sc (Un 18 Q), 194)), (13, (.sc (U9 (mixw (u / 2 ^ s) 0 j)), 37))] ⟨tl ag194, tl ag37, ts sz194, ts sz37, trivial⟩ ?_
    clear hE; intro γ ac wc hE
    refine wp_ret ?_
    have hi : j = n := by omega
    exact (end2 hE rfl (.cells 4 4 0 194 194 (Un 18 Q) (Un 18 Q) rfl rfl ag194 (by kernel_rfl)) (.cells 5 5 0 37 37 (U9 (mixw (u / 2 ^ s) 0 j)) (U9 (mixw (u / 2 ^ s) 0 j)) rfl rfl ag37 (by kernel_rfl)) (⟨by rw [show U9 (mixw (u / 2 ^ s) 0 j) = U9 (X % m) by rw [hi]; exact rest_end D ge.2, ge.1]; rfl, hE.keep.below⟩)).1
theorem div_of (g m : Nat) (h0 : 0 < m) (hm : m < 2 ^ 576) (w0 : World) (hx : w0.heap[g]? = some (.cells ((U9 m).map (Sc.den fun _ => 0)).toArray 37 (0, 0))) : Calls Try.prog 141 #[.pointer (some ⟨g, 0, none⟩)] w0 fun e w => ∃ gd, e = .returned (.pointer (some ⟨gd, 0, none⟩)) ∧ w0.heap.size ≤ gd ∧ w.heap[gd]? = some (dvO (m * 2 ^ dvS m) (nw m) (dvS m)) ∧ Below w0.heap.size w0 w := by
 have hg := lt_heap hx
 have hnp : 0 < nw m := Nat.pos_of_ne_zero (fun h => by have := (nw_zero hm).1 h; omega)
 have hn9 := nw_le m
 have hlb : ∀ x i, Lib.bitLen (dg x i) ≤ 64 := fun x i => Lib.bitLen_le _ 64 (by decide) (dg_lt _ _)
 refine enter_sx [(0, vX g 0)] 86 Try.func141 rfl rfl (Nat.le_of_ble_eq_true (by kernel_rfl)) (fun γ => by kernel_rfl) ?_
 intro γ ac hE
 refine sq_t hE [Rw 2 (.s (.v (.pointer none)))] [(0, vX g 0), (2, .s (.v (.pointer none)))] [] ⟨tp, trivial⟩ ?_
 clear hE; intro γ ac wc hE
 refine sq_d hE [Rw 5 (vX g 0) [(0, vX g 0)], Rw 6 (vX g 0) [(5, vX g 0)], Rw 7 (vX g 0) [(6, vX g 0)], Rw 8 (.agg (U9 m)) [(7, vX g 0)], Rw 9 (vX g 0) [(0, vX g 0)], Rw 10 (vX g 0) [(9, vX g 0)], Rw 11 (vX g 0) [(10, vX g 0)], Rw 12 (.s (.v (.slice (some ⟨g, 0, none⟩) 9 9))) [(11, vX g 0)], Rw 13 (vI (nw m)) [(12, .s (.v (.slice (some ⟨g, 0, none⟩) 9 9)))], Rw 14 (.agg (U9 m ++ [(iN (nw m)), (iN 0)])) [(8, .agg (U9 m)), (13, vI (nw m))], Rw 15 (vP 15 0) [(14, .agg (U9 m ++ [(iN (nw m)), (iN 0)]))] [] [(15, (.sc (U9 m ++ [(iN (nw m)), (iN 0)]), 204))], Rw 3 (vP 15 0) [(15, vP 15 0)]] [(2, .s (.v (.pointer none))), (3, vP 15 0)] [(15, (.sc (U9 m ++ [(iN (nw m)), (iN 0)]), 204))] ⟨tp, tp, tp, tlx (fun w hk => hk.get hx) ag35, tp, tp, tp, tp, tt fun γ w hk hf hks => div_length g m 9 9 37 (U9 m) (by decide) (fun i h => U9_get h) w (hk.get hx), tp, tb, tp, trivial⟩ ?_
 clear hE; intro γ ac wc hE
 refine sq_d hE [Rw 16 (vP 15 0) [(3, vP 15 0)], Rw 17 (vP 15 0) [(3, vP 15 0)], Rw 18 (vP 15 0) [(3, vP 15 0)], Rw 19 (vP 15 0) [(18, vP 15 0)], Rw 20 (vP 15 9) [(19, vP 15 0)], Rw 21 (vI (nw m)) [(20, vP 15 9)] [(15, (.sc (U9 m ++ [(iN (nw m)), (iN 0)]), 204))], Rw 22 (vI ((nw m) - 1)) [(21, vI (nw m))], Rw 23 (vP 15 0) [(17, vP 15 0)], Rw 24 (vP 15 0) [(23, vP 15 0)], Rw 25 (vP 15 ((nw m) - 1)) [(24, vP 15 0), (22, vI ((nw m) - 1))], Rw 26 (vW (dg m ((nw m) - 1))) [(25, vP 15 ((nw m) - 1))] [(15, (.sc (U9 m ++ [(iN (nw m)), (iN 0)]), 204))], Rw 27 (vI (64 - Lib.bitLen (dg m ((nw m) - 1)))) [(26, vW (dg m ((nw m) - 1)))], Rw 28 (vP 15 0) [(16, vP 15 0)], Rw 29 (vP 15 10) [(28, vP 15 0)], Rz [(29, vP 15 10), (27, vI (64 - Lib.bitLen (dg m ((nw m) - 1))))] [(15, (.sc (U9 m ++ [(iN (nw m)), (iN 0)]), 204))] [(15, (.sc (U9 m ++ [(iN (nw m)), (iN (64 - Lib.bitLen (dg m ((nw m) - 1))))]), 204))]] [(2, .s (.v (.pointer none))), (3, vP 15 0)] [(15, (.sc (U9 m ++ [(iN (nw m)), (iN (64 - Lib.bitLen (dg m ((nw m) - 1))))]), 204))] ⟨tp, tp, tp, tp, tp, tl1 on3, tE fun _ => wi_sub, tp, tp, txa0 ar35, tlU' on22, tq fun w => lz64 (dg m ((nw m) - 1)) (dg_lt _ _) w, tp, tp, ts sz3, trivial⟩ ?_
 clear hE; intro γ ac wc hE
 obtain ⟨S, hS⟩ : ∃ z : Nat, z = 64 - Lib.bitLen (dg m (nw m - 1)) := ⟨_, rfl⟩
 rw [← hS] at hE
 have D : DvOk m (m * 2 ^ S) (nw m) S := by rw [hS]; exact dvOk_of h0 hm
 have hs63 := D.s63
 refine wp_seq ?_
 refine sq_t hE [Rw 30 (vP 15 0) [(3, vP 15 0)], Rw 31 (vP 15 0) [(30, vP 15 0)], Rw 32 (vP 15 9) [(31, vP 15 0)], Rw 33 (vI (nw m)) [(32, vP 15 9)] [(15, (.sc (U9 m ++ [(iN (nw m)), (iN S)]), 204))], Rw 34 (vI ((nw m) - 1)) [(33, vI (nw m))], Rw 4 (vI ((nw m) - 1)) [(34, vI ((nw m) - 1))]] [(2, .s (.v (.pointer none))), (3, vP 15 0), (4, vI ((nw m) - 1))] [(15, (.sc (U9 m ++ [(iN (nw m)), (iN S)]), 204))] ⟨tp, tp, tp, tl1 on3, tE fun _ => wi_sub, tp, trivial⟩ ?_
 clear hE; intro γ ac wc hE
 refine wp_block ?_
 refine loop_sx (σ := Nat) (fun j => j) (fun j => j ≤ nw m)
     (fun j => [(2, .s (.v (.pointer none))), (3, vP 15 0), (4, .s (inI .i64 (((j : Nat) : Int) - 1)))])
     (fun j => [(15, (.sc (U9 (mixw m (m * 2 ^ S) j) ++ [(iN (nw m)), (iN S)]), 204))])
     (nw m) (by omega) (hE.sub (by rw [show (((nw m : Nat) : Int) - 1) = ((nw m - 1 : Nat) : Int) by omega]; kernel_rfl) (by rw [← of_start (nw_lt hm) D.lt]; kernel_rfl)) ?_
 clear hE; intro j γ ac wc hG hE
 refine wp_seq ?_
 refine sq_t hE [Rw 35 (.s (inI .i64 (((j : Nat) : Int) - 1))) [(4, .s (inI .i64 (((j : Nat) : Int) - 1)))], Rw 36 (vB (decide (0 < j))) [(35, .s (inI .i64 (((j : Nat) : Int) - 1)))]] [(2, .s (.v (.pointer none))), (3, vP 15 0), (4, .s (inI .i64 (((j : Nat) : Int) - 1))), (36, vB (decide (0 < j)))] [(15, (.sc (U9 (mixw m (m * 2 ^ S) j) ++ [(iN (nw m)), (iN S)]), 204))] ⟨tp, tE (x := .bool (decide ((((j : Nat) : Int) - 1) ≥ ((0 : Nat) : Int)))) fun _ => (congrArg Value.bool (decide_eq_decide.2 (by omega))), trivial⟩ ?_
 clear hE; intro γ ac wc hE
 refine cond_sx hE rfl (fun hb1 => ?_) (fun hb1 => ?_)
 ·
  have hb1p := of_decide_eq_true hb1
  have hi : ((j : Nat) : Int) - 1 = ((j - 1 : Nat) : Int) := by omega
  rw [hi] at hE
  refine wp_skip ?_
  refine then_normal ?_
  refine wp_seq ?_
  refine wp_block ?_
  refine sq_d hE [Rw 39 (vP 15 0) [(3, vP 15 0)], Rw 40 (vI (j - 1)) [(4, vI (j - 1))], Rw 41 (vP 15 0) [(39, vP 15 0)], Rw 42 (vP 15 0) [(41, vP 15 0)], Rw 43 (vP 15 (j - 1)) [(42, vP 15 0), (40, vI (j - 1))], Rw 44 (vW (dg (mixw m (m * 2 ^ S) j) (j - 1))) [(43, vP 15 (j - 1))] [(15, (.sc (U9 (mixw m (m * 2 ^ S) j) ++ [(iN (nw m)), (iN S)]), 204))], Rw 45 (vP 15 0) [(3, vP 15 0)], Rw 46 (vP 15 0) [(45, vP 15 0)], Rw 47 (vP 15 10) [(46, vP 15 0)], Rw 48 (vI S) [(47, vP 15 10)] [(15, (.sc (U9 (mixw m (m * 2 ^ S) j) ++ [(iN (nw m)), (iN S)]), 204))], Rw 49 (vW ((dg (mixw m (m * 2 ^ S) j) (j - 1)) * 2 ^ S % 18446744073709551616)) [(44, vW (dg (mixw m (m * 2 ^ S) j) (j - 1))), (48, vI S)], Rw 50 (vP 15 0) [(39, vP 15 0)], Rw 51 (vP 15 0) [(50, vP 15 0)], Rw 52 (vP 15 (j - 1)) [(51, vP 15 0), (40, vI (j - 1))], Rz [(52, vP 15 (j - 1)), (49, vW ((dg (mixw m (m * 2 ^ S) j) (j - 1)) * 2 ^ S % 18446744073709551616))] [(15, (.sc (U9 (mixw m (m * 2 ^ S) j) ++ [(iN (nw m)), (iN S)]), 204))] [(15, (.sc (U9 (setw (mixw m (m * 2 ^ S) j) (j - 1) ((dg (mixw m (m * 2 ^ S) j) (j - 1)) * 2 ^ S % 18446744073709551616)) ++ [(iN (nw m)), (iN S)]), 204))]] [(2, .s (.v (.pointer none))), (3, vP 15 0), (4, vI (j - 1))] [(15, (.sc (U9 (setw (mixw m (m * 2 ^ S) j) (j - 1) ((dg (mixw m (m * 2 ^ S) j) (j - 1)) * 2 ^ S % 18446744073709551616)) ++ [(iN (nw m)), (iN S)]), 204))] ⟨tp, tp, tp, tp, txa0 ar35, tlU' on22, tp, tp, tp, tl1 on3, t_shl_u64, tp, tp, txa0 ar35, tsU' sz22 (hdd := (Nat.mod_lt _ (by decide))), trivial⟩ ?_
  clear hE; intro γ ac wc hE
  rcases Bool.eq_false_or_eq_true (decide (0 < j - 1)) with hb2 | hb2
  ·
   have hb2p := of_decide_eq_true hb2
   refine sq_t hE [Rw 53 (vI (j - 1)) [(4, vI (j - 1))], Rw 54 (vB true) [(53, vI (j - 1))], Rw 55 (vB true) [(54, vB true)], Rw 56 (vP 15 0) [(3, vP 15 0), (55, vB true)], Rw 57 (vP 15 0) [(56, vP 15 0), (55, vB true)], Rw 58 (vP 15 10) [(57, vP 15 0), (55, vB true)], Rw 59 (vI S) [(58, vP 15 10), (55, vB true)] [(15, (.sc (U9 (setw (mixw m (m * 2 ^ S) j) (j - 1) ((dg (mixw m (m * 2 ^ S) j) (j - 1)) * 2 ^ S % 18446744073709551616)) ++ [(iN (nw m)), (iN S)]), 204))], Rw 60 (vB (decide (0 < S))) [(59, vI S), (55, vB true)], Rw 61 (vB (decide (0 < S))) [(55, vB true), (60, vB (decide (0 < S)))]] [(2, .s (.v (.pointer none))), (3, vP 15 0), (4, vI (j - 1)), (61, vB (decide (0 < S)))] [(15, (.sc (U9 (setw (mixw m (m * 2 ^ S) j) (j - 1) ((dg (mixw m (m * 2 ^ S) j) (j - 1)) * 2 ^ S % 18446744073709551616)) ++ [(iN (nw m)), (iN S)]), 204))] ⟨tp, tE fun _ => (d_gtr _ _).trans (congrArg Value.bool hb2), tp, ton tp, ton tp, ton tp, ton (tl1 on3), ton (tE fun _ => d_gtr _ _), tp, trivial⟩ ?_
   clear hE; intro γ ac wc hE
   refine cond_sx hE rfl (fun hb3 => ?_) (fun hb3 => ?_)
   ·
    have hb3p := of_decide_eq_true hb3
    refine rg_d hE [Rw 62 (vP 15 0) [(3, vP 15 0)], Rw 63 (vI (j - 1)) [(4, vI (j - 1))], Rw 64 (vP 15 0) [(62, vP 15 0)], Rw 65 (vP 15 0) [(64, vP 15 0)], Rw 66 (vP 15 (j - 1)) [(65, vP 15 0), (63, vI (j - 1))], Rw 67 (vW (dg (setw (mixw m (m * 2 ^ S) j) (j - 1) ((dg (mixw m (m * 2 ^ S) j) (j - 1)) * 2 ^ S % 18446744073709551616)) (j - 1))) [(66, vP 15 (j - 1))] [(15, (.sc (U9 (setw (mixw m (m * 2 ^ S) j) (j - 1) ((dg (mixw m (m * 2 ^ S) j) (j - 1)) * 2 ^ S % 18446744073709551616)) ++ [(iN (nw m)), (iN S)]), 204))], Rw 68 (vP 15 0) [(3, vP 15 0)], Rw 69 (vI (j - 1)) [(4, vI (j - 1))], Rw 70 (vI ((j - 1) - 1)) [(69, vI (j - 1))], Rw 71 (vP 15 0) [(68, vP 15 0)], Rw 72 (vP 15 0) [(71, vP 15 0)], Rw 73 (vP 15 ((j - 1) - 1)) [(72, vP 15 0), (70, vI ((j - 1) - 1))], Rw 74 (vW (dg (setw (mixw m (m * 2 ^ S) j) (j - 1) ((dg (mixw m (m * 2 ^ S) j) (j - 1)) * 2 ^ S % 18446744073709551616)) ((j - 1) - 1))) [(73, vP 15 ((j - 1) - 1))] [(15, (.sc (U9 (setw (mixw m (m * 2 ^ S) j) (j - 1) ((dg (mixw m (m * 2 ^ S) j) (j - 1)) * 2 ^ S % 18446744073709551616)) ++ [(iN (nw m)), (iN S)]), 204))], Rw 75 (vP 15 0) [(3, vP 15 0)], Rw 76 (vP 15 0) [(75, vP 15 0)], Rw 77 (vP 15 10) [(76, vP 15 0)], Rw 78 (vI S) [(77, vP 15 10)] [(15, (.sc (U9 (setw (mixw m (m * 2 ^ S) j) (j - 1) ((dg (mixw m (m * 2 ^ S) j) (j - 1)) * 2 ^ S % 18446744073709551616)) ++ [(iN (nw m)), (iN S)]), 204))], Rw 79 (vI (64 - S)) [(78, vI S)], Rw 80 (vW ((dg (setw (mixw m (m * 2 ^ S) j) (j - 1) ((dg (mixw m (m * 2 ^ S) j) (j - 1)) * 2 ^ S % 18446744073709551616)) ((j - 1) - 1)) / 2 ^ (64 - S))) [(74, vW (dg (setw (mixw m (m * 2 ^ S) j) (j - 1) ((dg (mixw m (m * 2 ^ S) j) (j - 1)) * 2 ^ S % 18446744073709551616)) ((j - 1) - 1))), (79, vI (64 - S))], Rw 81 (vW ((dg (setw (mixw m (m * 2 ^ S) j) (j - 1) ((dg (mixw m (m * 2 ^ S) j) (j - 1)) * 2 ^ S % 18446744073709551616)) (j - 1)) ||| ((dg (setw (mixw m (m * 2 ^ S) j) (j - 1) ((dg (mixw m (m * 2 ^ S) j) (j - 1)) * 2 ^ S % 18446744073709551616)) ((j - 1) - 1)) / 2 ^ (64 - S)))) [(67, vW (dg (setw (mixw m (m * 2 ^ S) j) (j - 1) ((dg (mixw m (m * 2 ^ S) j) (j - 1)) * 2 ^ S % 18446744073709551616)) (j - 1))), (80, vW ((dg (setw (mixw m (m * 2 ^ S) j) (j - 1) ((dg (mixw m (m * 2 ^ S) j) (j - 1)) * 2 ^ S % 18446744073709551616)) ((j - 1) - 1)) / 2 ^ (64 - S)))], Rw 82 (vP 15 0) [(62, vP 15 0)], Rw 83 (vP 15 0) [(82, vP 15 0)], Rw 84 (vP 15 (j - 1)) [(83, vP 15 0), (63, vI (j - 1))], Rz [(84, vP 15 (j - 1)), (81, vW ((dg (setw (mixw m (m * 2 ^ S) j) (j - 1) ((dg (mixw m (m * 2 ^ S) j) (j - 1)) * 2 ^ S % 18446744073709551616)) (j - 1)) ||| ((dg (setw (mixw m (m * 2 ^ S) j) (j - 1) ((dg (mixw m (m * 2 ^ S) j) (j - 1)) * 2 ^ S % 18446744073709551616)) ((j - 1) - 1)) / 2 ^ (64 - S))))] [(15, (.sc (U9 (setw (mixw m (m * 2 ^ S) j) (j - 1) ((dg (mixw m (m * 2 ^ S) j) (j - 1)) * 2 ^ S % 18446744073709551616)) ++ [(iN (nw m)), (iN S)]), 204))] [(15, (.sc (U9 (setw (setw (mixw m (m * 2 ^ S) j) (j - 1) ((dg (mixw m (m * 2 ^ S) j) (j - 1)) * 2 ^ S % 18446744073709551616)) (j - 1) ((dg (setw (mixw m (m * 2 ^ S) j) (j - 1) ((dg (mixw m (m * 2 ^ S) j) (j - 1)) * 2 ^ S % 18446744073709551616)) (j - 1)) ||| ((dg (setw (mixw m (m * 2 ^ S) j) (j - 1) ((dg (mixw m (m * 2 ^ S) j) (j - 1)) * 2 ^ S % 18446744073709551616)) ((j - 1) - 1)) / 2 ^ (64 - S)))) ++ [(iN (nw m)), (iN S)]), 204))]] [(2, .s (.v (.pointer none))), (3, vP 15 0), (4, vI (j - 1))] [(15, (.sc (U9 (setw (setw (mixw m (m * 2 ^ S) j) (j - 1) ((dg (mixw m (m * 2 ^ S) j) (j - 1)) * 2 ^ S % 18446744073709551616)) (j - 1) ((dg (setw (mixw m (m * 2 ^ S) j) (j - 1) ((dg (mixw m (m * 2 ^ S) j) (j - 1)) * 2 ^ S % 18446744073709551616)) (j - 1)) ||| ((dg (setw (mixw m (m * 2 ^ S) j) (j - 1) ((dg (mixw m (m * 2 ^ S) j) (j - 1)) * 2 ^ S % 18446744073709551616)) ((j - 1) - 1)) / 2 ^ (64 - S)))) ++ [(iN (nw m)), (iN S)]), 204))] ⟨tp, tp, tp, tp, txa0 ar35, tlU' on22, tp, tp, tE fun _ => wi_sub, tp, tp, txa0 ar35, tlU' on22, tp, tp, tp, tl1 on3, tE fun _ => wi_sub, t_shr_u64, t_or_u64 (ha := (dg_lt _ _)) (hb := (Nat.lt_of_le_of_lt (Nat.div_le_self _ _) (dg_lt _ _))), tp, tp, txa0 ar35, tsU' sz22 (hdd := (or_lt (dg_lt _ _) (shr_lt _ _ _))), trivial⟩ ?_
    clear hE; intro γ ac wc hE
    refine blk_normal ?_
    refine then_normal ?_
    refine rg_t hE [Rw 37 (vI (j - 1)) [(4, vI (j - 1))], Rw 38 (.s (inI .i64 (((j - 1 : Nat) : Int) - ((1 : Nat) : Int)))) [(37, vI (j - 1))], Rw 4 (.s (inI .i64 (((j - 1 : Nat) : Int) - ((1 : Nat) : Int)))) [(38, .s (inI .i64 (((j - 1 : Nat) : Int) - ((1 : Nat) : Int))))]] [(2, .s (.v (.pointer none))), (3, vP 15 0), (4, .s (inI .i64 (((j - 1 : Nat) : Int) - ((1 : Nat) : Int))))] [(15, (.sc (U9 (setw (setw (mixw m (m * 2 ^ S) j) (j - 1) ((dg (mixw m (m * 2 ^ S) j) (j - 1)) * 2 ^ S % 18446744073709551616)) (j - 1) ((dg (setw (mixw m (m * 2 ^ S) j) (j - 1) ((dg (mixw m (m * 2 ^ S) j) (j - 1)) * 2 ^ S % 18446744073709551616)) (j - 1)) ||| ((dg (setw (mixw m (m * 2 ^ S) j) (j - 1) ((dg (mixw m (m * 2 ^ S) j) (j - 1)) * 2 ^ S % 18446744073709551616)) ((j - 1) - 1)) / 2 ^ (64 - S)))) ++ [(iN (nw m)), (iN S)]), 204))] ⟨tp, tE (x := .int .i64 (IntKind.i64.wrap (((j - 1 : Nat) : Int) - ((1 : Nat) : Int)))) fun _ => wri_i64 (by omega) (by omega), tp, trivial⟩ ?_
    clear hE; intro γ ac wc hE
    refine then_normal ⟨j - 1, by omega, by omega, γ, hE.sub (by kernel_rfl) (by rw [show U9 (mixw m (m * 2 ^ S) (j - 1)) = U9 (setw (setw (mixw m (m * 2 ^ S) j) (j - 1) ((dg (mixw m (m * 2 ^ S) j) (j - 1)) * 2 ^ S % 18446744073709551616)) (j - 1) ((dg (setw (mixw m (m * 2 ^ S) j) (j - 1) ((dg (mixw m (m * 2 ^ S) j) (j - 1)) * 2 ^ S % 18446744073709551616)) (j - 1)) ||| ((dg (setw (mixw m (m * 2 ^ S) j) (j - 1) ((dg (mixw m (m * 2 ^ S) j) (j - 1)) * 2 ^ S % 18446744073709551616)) ((j - 1) - 1)) / 2 ^ (64 - S)))) from (of_word hb1p (of_d1 (by assumption) (by assumption) (by omega))).symm.trans (setw_setw _ _ _ _ (Nat.mod_lt _ (by decide)) (or_lt (dg_lt _ _) (shr_lt _ _ _))).symm]; kernel_rfl)⟩
   ·
    have hb3p := of_decide_eq_false hb3
    refine wp_skip ?_
    refine blk_normal ?_
    refine then_normal ?_
    refine rg_t hE [Rw 37 (vI (j - 1)) [(4, vI (j - 1))], Rw 38 (.s (inI .i64 (((j - 1 : Nat) : Int) - ((1 : Nat) : Int)))) [(37, vI (j - 1))], Rw 4 (.s (inI .i64 (((j - 1 : Nat) : Int) - ((1 : Nat) : Int)))) [(38, .s (inI .i64 (((j - 1 : Nat) : Int) - ((1 : Nat) : Int))))]] [(2, .s (.v (.pointer none))), (3, vP 15 0), (4, .s (inI .i64 (((j - 1 : Nat) : Int) - ((1 : Nat) : Int))))] [(15, (.sc (U9 (setw (mixw m (m * 2 ^ S) j) (j - 1) ((dg (mixw m (m * 2 ^ S) j) (j - 1)) * 2 ^ S % 18446744073709551616)) ++ [(iN (nw m)), (iN S)]), 204))] ⟨tp, tE (x := .int .i64 (IntKind.i64.wrap (((j - 1 : Nat) : Int) - ((1 : Nat) : Int)))) fun _ => wri_i64 (by omega) (by omega), tp, trivial⟩ ?_
    clear hE; intro γ ac wc hE
    refine then_normal ⟨j - 1, by omega, by omega, γ, hE.sub (by kernel_rfl) (by rw [show U9 (mixw m (m * 2 ^ S) (j - 1)) = U9 (setw (mixw m (m * 2 ^ S) j) (j - 1) ((dg (mixw m (m * 2 ^ S) j) (j - 1)) * 2 ^ S % 18446744073709551616)) from (of_word hb1p (of_d0 hb1p (by first | exact .inl (by assumption) | exact .inr (by assumption)))).symm]; kernel_rfl)⟩
  ·
   have hb2p := of_decide_eq_false hb2
   refine sq_t hE [Rw 53 (vI (j - 1)) [(4, vI (j - 1))], Rw 54 (vB false) [(53, vI (j - 1))], Rw 55 (vB false) [(54, vB false)], Rw 56 vU [(55, vB false)], Rw 57 vU [(55, vB false)], Rw 58 vU [(55, vB false)], Rw 59 vU [(55, vB false)], Rw 60 vU [(55, vB false)], Rw 61 (vB false) [(55, vB false), (60, vU)]] [(2, .s (.v (.pointer none))), (3, vP 15 0), (4, vI (j - 1)), (61, vB false)] [(15, (.sc (U9 (setw (mixw m (m * 2 ^ S) j) (j - 1) ((dg (mixw m (m * 2 ^ S) j) (j - 1)) * 2 ^ S % 18446744073709551616)) ++ [(iN (nw m)), (iN S)]), 204))] ⟨tp, tE fun _ => (d_gtr _ _).trans (congrArg Value.bool hb2), tp, tof, tof, tof, tof, tof, tp, trivial⟩ ?_
   clear hE; intro γ ac wc hE
   refine cond_sx hE rfl (fun h => by cases h) (fun _ => ?_)
   refine wp_skip ?_
   refine blk_normal ?_
   refine then_normal ?_
   refine rg_t hE [Rw 37 (vI (j - 1)) [(4, vI (j - 1))], Rw 38 (.s (inI .i64 (((j - 1 : Nat) : Int) - ((1 : Nat) : Int)))) [(37, vI (j - 1))], Rw 4 (.s (inI .i64 (((j - 1 : Nat) : Int) - ((1 : Nat) : Int)))) [(38, .s (inI .i64 (((j - 1 : Nat) : Int) - ((1 : Nat) : Int))))]] [(2, .s (.v (.pointer none))), (3, vP 15 0), (4, .s (inI .i64 (((j - 1 : Nat) : Int) - ((1 : Nat) : Int))))] [(15, (.sc (U9 (setw (mixw m (m * 2 ^ S) j) (j - 1) ((dg (mixw m (m * 2 ^ S) j) (j - 1)) * 2 ^ S % 18446744073709551616)) ++ [(iN (nw m)), (iN S)]), 204))] ⟨tp, tE (x := .int .i64 (IntKind.i64.wrap (((j - 1 : Nat) : Int) - ((1 : Nat) : Int)))) fun _ => wri_i64 (by omega) (by omega), tp, trivial⟩ ?_
   clear hE; intro γ ac wc hE
   refine then_normal ⟨j - 1, by omega, by omega, γ, hE.sub (by kernel_rfl) (by rw [show U9 (mixw m (m * 2 ^ S) (j - 1)) = U9 (setw (mixw m (m * 2 ^ S) j) (j - 1) ((dg (mixw m (m * 2 ^ S) j) (j - 1)) * 2 ^ S % 18446744073709551616)) from (of_word hb1p (of_d0 hb1p (by first | exact .inl (by assumption) | exact .inr (by assumption)))).symm]; kernel_rfl)⟩
 ·
  have hb1p := of_decide_eq_false hb1
  refine wp_exit ?_
  refine then_exit ?_
  refine then_exit ?_
  refine blk_hit ?_
  refine then_normal ?_
  refine sq_t hE [Rw 85 (vP 15 0) [(3, vP 15 0)], Rw 2 (vP 15 0) [(85, vP 15 0)]] [(2, vP 15 0), (3, vP 15 0), (4, .s (inI .i64 (((j : Nat) : Int) - 1)))] [(15, (.sc (U9 (mixw m (m * 2 ^ S) j) ++ [(iN (nw m)), (iN S)]), 204))] ⟨tp, tp, trivial⟩ ?_
  clear hE; intro γ ac wc hE
  refine wp_ret ?_
  have hj : j = 0 := by omega
  subst hj
  have hh := Ct.sc_at (hE.heap 15 _ rfl)
  have hO := hE.new (k := 15) rfl
  exact (end1 hE rfl (.tmp 2 (vP 15 0) rfl) (⟨γ 15, rfl, hO, hh.trans (by rw [← U9_mix0, show dvS m = S from hS.symm]; rfl), hE.keep.below⟩)).1
end Go.Proofs.Ytddfimfgcfgpbaa
