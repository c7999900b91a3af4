/-
  field.Hex, field.prime, curve.rows.
-/
import Derived.Test.YtddfimfgcfgpbaaSTf
import Derived.Test.YtddfimfgcfgpbaaSDz
import Derived.Test.YtddfimfgcfgpbaaSWp
import Derived.Test.YtddfimfgcfgpbaaSSt
namespace Go.Proofs.Ytddfimfgcfgpbaa
open Sx
open Go.RowKit (Below)
set_option exponentiation.threshold 2000
def hexd (c : Nat) : Nat := if 97 ≤ c then ((c + (256 - 97)) % 256 + 10) % 18446744073709551616 else (c + (256 - 48)) % 256
def hexL (s : ByteArray) : Nat → Nat
  | 0 => 0
  | i + 1 => setw (hexL s i) (i / 16) (dg (hexL s i) (i / 16) ||| hexd (byt s (s.size - 1 - i)) * 2 ^ (4 * (i % 16)) % 18446744073709551616)
def hexF (s : ByteArray) : Nat := hexL s s.size
theorem hexL1 {s : ByteArray} {i : Nat} (h : 97 ≤ byt s (s.size - 1 - i)) : hexL s (i + 1) = setw (hexL s i) (i / 16) (dg (hexL s i) (i / 16) ||| (((byt s (s.size - 1 - i) + (256 - 97)) % 256 + 10) % 18446744073709551616) * 2 ^ (4 * (i % 16)) % 18446744073709551616) := by
  rw [hexL, hexd, if_pos h]
theorem hexL2 {s : ByteArray} {i : Nat} (h : ¬ 97 ≤ byt s (s.size - 1 - i)) : hexL s (i + 1) = setw (hexL s i) (i / 16) (dg (hexL s i) (i / 16) ||| ((byt s (s.size - 1 - i) + (256 - 48)) % 256) * 2 ^ (4 * (i % 16)) % 18446744073709551616) := by
  rw [hexL, hexd, if_neg h]
theorem setw_lt9 {y i d : Nat} (hy : y < 2 ^ 576) (hd : d < 18446744073709551616) (h : i < 9) : setw y i d < 2 ^ 576 := setw_lt (n := 9) hy hd h
theorem hexL_lt (s : ByteArray) : ∀ i, i ≤ 144 → hexL s i < 2 ^ 576
  | 0, _ => Nat.pow_pos (by decide)
  | i + 1, h => setw_lt9 (hexL_lt s i (by omega)) (or_lt (dg_lt _ _) (Nat.mod_lt _ (by decide))) (by omega)
theorem hexF_lt {s : ByteArray} (h : s.size ≤ 144) : hexF s < 2 ^ 576 := hexL_lt s _ h
theorem field_Hex (s : ByteArray) (hs : s.size ≤ 144) (w0 : World) : Calls Try.prog 102 #[.string s] w0 fun e w => e = .returned (nv (hexF s)) ∧ Below w0.heap.size w0 w := by
 refine enter_sx [(0, .s (st s))] 47 Try.func102 rfl rfl (Nat.le_of_ble_eq_true (by kernel_rfl)) (fun γ => by kernel_rfl) ?_
 intro γ ac hE
 refine sq_t hE [Rw 2 (vP 2 0) [] [] [(2, (.sc (U9 0), 37))]] [(0, .s (st s)), (2, vP 2 0)] [(2, (.sc (U9 0), 37))] ⟨ta zt37, trivial⟩ ?_
 clear hE; intro γ ac wc hE
 refine sq_t hE [Rw 3 (vP 3 0) [] [] [(3, (.sc (U9 0), 37))]] [(0, .s (st s)), (2, vP 2 0), (3, vP 3 0)] [(2, (.sc (U9 0), 37)), (3, (.sc (U9 0), 37))] ⟨ta zt37, trivial⟩ ?_
 clear hE; intro γ ac wc hE
 refine wp_seq ?_
 refine sq_t hE [Rw 7 (.s (st s)) [(0, .s (st s))], Rw 8 (vI s.size) [(7, .s (st s))], Rw 9 (vI 0)] [(0, .s (st s)), (2, vP 2 0), (3, vP 3 0), (8, vI s.size), (9, vI 0)] [(2, (.sc (U9 0), 37)), (3, (.sc (U9 0), 37))] ⟨tp, tp, tp, trivial⟩ ?_
 clear hE; intro γ ac wc hE
 refine wp_block ?_
 refine loop_sx (σ := Nat) (fun i => s.size - i) (fun i => i ≤ s.size)
     (fun i => [(0, .s (st s)), (2, vP 2 0), (3, vP 3 0), (8, vI s.size), (9, vI i)])
     (fun i => [(2, (.sc (U9 0), 37)), (3, (.sc (U9 (hexL s i)), 37))])
     (0) (by omega) (hE.sub (by kernel_rfl) (by kernel_rfl)) ?_
 clear hE; intro i γ ac wc hG hE
 refine sq_t hE [Rw 10 (vB (decide (i < s.size))) [(9, vI i), (8, vI s.size)]] [(0, .s (st s)), (2, vP 2 0), (3, vP 3 0), (8, vI s.size), (9, vI i), (10, vB (decide (i < s.size)))] [(2, (.sc (U9 0), 37)), (3, (.sc (U9 (hexL s i)), 37))] ⟨tE fun _ => d_lss _ _, trivial⟩ ?_
 clear hE; intro γ ac wc hE
 refine wp_seq ?_
 refine cond_sx hE rfl (fun hb1 => ?_) (fun hb1 => ?_)
 ·
  have hb1p := of_decide_eq_true hb1
  refine wp_skip ?_
  refine then_normal ?_
  refine wp_seq ?_
  refine wp_block ?_
  refine sq_t hE [Rw 11 (vI i) [(9, vI i)], Rw 4 (vI i) [(11, vI i)]] [(0, .s (st s)), (2, vP 2 0), (3, vP 3 0), (4, vI i), (8, vI s.size), (9, vI i)] [(2, (.sc (U9 0), 37)), (3, (.sc (U9 (hexL s i)), 37))] ⟨tp, tp, trivial⟩ ?_
  clear hE; intro γ ac wc hE
  refine sq_t hE [Rw 12 (.s (st s)) [(0, .s (st s))], Rw 13 (vI s.size) [(12, .s (st s))], Rw 14 (vI (s.size - 1)) [(13, vI s.size)], Rw 15 (vI i) [(4, vI i)], Rw 16 (vI ((s.size - 1) - i)) [(14, vI (s.size - 1)), (15, vI i)], Rw 5 (vI ((s.size - 1) - i)) [(16, vI ((s.size - 1) - i))]] [(0, .s (st s)), (2, vP 2 0), (3, vP 3 0), (4, vI i), (5, vI ((s.size - 1) - i)), (8, vI s.size), (9, vI i)] [(2, (.sc (U9 0), 37)), (3, (.sc (U9 (hexL s i)), 37))] ⟨tp, tp, tE fun _ => wi_sub, tp, tE fun _ => wi_sub, tp, trivial⟩ ?_
  clear hE; intro γ ac wc hE
  refine sq_t hE [Rw 17 (.s (st s)) [(0, .s (st s))], Rw 18 (vI ((s.size - 1) - i)) [(5, vI ((s.size - 1) - i))], Rw 19 (.s (inN .u8 (byt s ((s.size - 1) - i)))) [(17, .s (st s)), (18, vI ((s.size - 1) - i))], Rw 20 (.s (inN .u8 (((byt s ((s.size - 1) - i)) + (256 - 48)) % 256))) [(19, .s (inN .u8 (byt s ((s.size - 1) - i))))], Rw 21 (vW (((byt s ((s.size - 1) - i)) + (256 - 48)) % 256)) [(20, .s (inN .u8 (((byt s ((s.size - 1) - i)) + (256 - 48)) % 256)))], Rw 6 (vW (((byt s ((s.size - 1) - i)) + (256 - 48)) % 256)) [(21, vW (((byt s ((s.size - 1) - i)) + (256 - 48)) % 256))]] [(0, .s (st s)), (2, vP 2 0), (3, vP 3 0), (4, vI i), (5, vI ((s.size - 1) - i)), (6, vW (((byt s ((s.size - 1) - i)) + (256 - 48)) % 256)), (8, vI s.size), (9, vI i)] [(2, (.sc (U9 0), 37)), (3, (.sc (U9 (hexL s i)), 37))] ⟨tp, tp, tix str9, tE fun _ => wu8_sub _ _ (by omega), tE fun _ => wr_u64 rfl (by omega), tp, trivial⟩ ?_
  clear hE; intro γ ac wc hE
  refine wp_seq ?_
  refine sq_t hE [Rw 22 (.s (st s)) [(0, .s (st s))], Rw 23 (vI ((s.size - 1) - i)) [(5, vI ((s.size - 1) - i))], Rw 24 (.s (inN .u8 (byt s ((s.size - 1) - i)))) [(22, .s (st s)), (23, vI ((s.size - 1) - i))], Rw 25 (vB (decide (97 ≤ byt s ((s.size - 1) - i)))) [(24, .s (inN .u8 (byt s ((s.size - 1) - i))))]] [(0, .s (st s)), (2, vP 2 0), (3, vP 3 0), (4, vI i), (5, vI ((s.size - 1) - i)), (6, vW (((byt s ((s.size - 1) - i)) + (256 - 48)) % 256)), (8, vI s.size), (9, vI i), (25, vB (decide (97 ≤ byt s ((s.size - 1) - i))))] [(2, (.sc (U9 0), 37)), (3, (.sc (U9 (hexL s i)), 37))] ⟨tp, tp, tix str9, tE fun _ => d_geq _ _, trivial⟩ ?_
  clear hE; intro γ ac wc hE
  refine cond_sx hE rfl (fun hb2 => ?_) (fun hb2 => ?_)
  ·
   have hb2p := of_decide_eq_true hb2
   refine rg_t hE [Rw 26 (.s (st s)) [(0, .s (st s))], Rw 27 (vI ((s.size - 1) - i)) [(5, vI ((s.size - 1) - i))], Rw 28 (.s (inN .u8 (byt s ((s.size - 1) - i)))) [(26, .s (st s)), (27, vI ((s.size - 1) - i))], Rw 29 (.s (inN .u8 (((byt s ((s.size - 1) - i)) + (256 - 97)) % 256))) [(28, .s (inN .u8 (byt s ((s.size - 1) - i))))], Rw 30 (vW (((byt s ((s.size - 1) - i)) + (256 - 97)) % 256)) [(29, .s (inN .u8 (((byt s ((s.size - 1) - i)) + (256 - 97)) % 256)))], Rw 31 (vW (((((byt s ((s.size - 1) - i)) + (256 - 97)) % 256) + 10) % 18446744073709551616)) [(30, vW (((byt s ((s.size - 1) - i)) + (256 - 97)) % 256))], Rw 6 (vW (((((byt s ((s.size - 1) - i)) + (256 - 97)) % 256) + 10) % 18446744073709551616)) [(31, vW (((((byt s ((s.size - 1) - i)) + (256 - 97)) % 256) + 10) % 18446744073709551616))]] [(0, .s (st s)), (2, vP 2 0), (3, vP 3 0), (4, vI i), (5, vI ((s.size - 1) - i)), (6, vW (((((byt s ((s.size - 1) - i)) + (256 - 97)) % 256) + 10) % 18446744073709551616)), (8, vI s.size), (9, vI i)] [(2, (.sc (U9 0), 37)), (3, (.sc (U9 (hexL s i)), 37))] ⟨tp, tp, tix str9, tE fun _ => wu8_sub _ _ (by omega), tE fun _ => wr_u64 rfl (by omega), tE fun _ => wu_add _ _, tp, trivial⟩ ?_
   clear hE; intro γ ac wc hE
   refine then_normal ?_
   refine rg_d hE [Rw 32 (vI i) [(4, vI i)], Rw 33 (vI (i / 16)) [(32, vI i)], Rw 34 (vP 3 0) [(3, vP 3 0)], Rw 35 (vP 3 (i / 16)) [(34, vP 3 0), (33, vI (i / 16))], Rw 36 (vW (dg (hexL s i) (i / 16))) [(35, vP 3 (i / 16))] [(3, (.sc (U9 (hexL s i)), 37))], Rw 37 (vW (((((byt s ((s.size - 1) - i)) + (256 - 97)) % 256) + 10) % 18446744073709551616)) [(6, vW (((((byt s ((s.size - 1) - i)) + (256 - 97)) % 256) + 10) % 18446744073709551616))], Rw 38 (vI i) [(4, vI i)], Rw 39 (vI (i % 16)) [(38, vI i)], Rw 40 (vI (4 * (i % 16))) [(39, vI (i % 16))], Rw 41 (vW ((((((byt s ((s.size - 1) - i)) + (256 - 97)) % 256) + 10) % 18446744073709551616) * 2 ^ (4 * (i % 16)) % 18446744073709551616)) [(37, vW (((((byt s ((s.size - 1) - i)) + (256 - 97)) % 256) + 10) % 18446744073709551616)), (40, vI (4 * (i % 16)))], Rw 42 (vW ((dg (hexL s i) (i / 16)) ||| ((((((byt s ((s.size - 1) - i)) + (256 - 97)) % 256) + 10) % 18446744073709551616) * 2 ^ (4 * (i % 16)) % 18446744073709551616))) [(36, vW (dg (hexL s i) (i / 16))), (41, vW ((((((byt s ((s.size - 1) - i)) + (256 - 97)) % 256) + 10) % 18446744073709551616) * 2 ^ (4 * (i % 16)) % 18446744073709551616))], Rw 43 (vP 3 0) [(3, vP 3 0)], Rw 44 (vP 3 (i / 16)) [(43, vP 3 0), (33, vI (i / 16))], Rz [(44, vP 3 (i / 16)), (42, vW ((dg (hexL s i) (i / 16)) ||| ((((((byt s ((s.size - 1) - i)) + (256 - 97)) % 256) + 10) % 18446744073709551616) * 2 ^ (4 * (i % 16)) % 18446744073709551616)))] [(3, (.sc (U9 (hexL s i)), 37))] [(3, (.sc (U9 (setw (hexL s i) (i / 16) ((dg (hexL s i) (i / 16)) ||| ((((((byt s ((s.size - 1) - i)) + (256 - 97)) % 256) + 10) % 18446744073709551616) * 2 ^ (4 * (i % 16)) % 18446744073709551616)))), 37))]] [(0, .s (st s)), (2, vP 2 0), (3, vP 3 0), (4, vI i), (5, vI ((s.size - 1) - i)), (8, vI s.size), (9, vI i)] [(2, (.sc (U9 0), 37)), (3, (.sc (U9 (setw (hexL s i) (i / 16) ((dg (hexL s i) (i / 16)) ||| ((((((byt s ((s.size - 1) - i)) + (256 - 97)) % 256) + 10) % 18446744073709551616) * 2 ^ (4 * (i % 16)) % 18446744073709551616)))), 37))] ⟨tp, t_quo_i64, tp, txa0 ar35, tlU on22, tp, tp, t_rem_i64, tE fun _ => wi_mul, t_shl_u64, t_or_u64 (ha := (dg_lt _ _)) (hb := (Nat.mod_lt _ (by decide))), tp, txa0 ar35, tsU sz22 (hdd := (or_lt (dg_lt _ _) (Nat.mod_lt _ (by decide)))), trivial⟩ ?_
   clear hE; intro γ ac wc hE
   refine blk_normal ?_
   refine then_normal ?_
   refine rg_t hE [Rw 45 (vI (i + 1)) [(9, vI i)], Rw 9 (vI (i + 1)) [(45, vI (i + 1))]] [(0, .s (st s)), (2, vP 2 0), (3, vP 3 0), (4, vI i), (5, vI ((s.size - 1) - i)), (8, vI s.size), (9, vI (i + 1))] [(2, (.sc (U9 0), 37)), (3, (.sc (U9 (setw (hexL s i) (i / 16) ((dg (hexL s i) (i / 16)) ||| ((((((byt s ((s.size - 1) - i)) + (256 - 97)) % 256) + 10) % 18446744073709551616) * 2 ^ (4 * (i % 16)) % 18446744073709551616)))), 37))] ⟨tE fun _ => wi_add, tp, trivial⟩ ?_
   clear hE; intro γ ac wc hE
   refine then_normal ⟨i + 1, by omega, by omega, _, hE.sub (by kernel_rfl) (by rw [hexL1 (by assumption)]; kernel_rfl)⟩
  ·
   have hb2p := of_decide_eq_false hb2
   refine wp_skip ?_
   refine then_normal ?_
   refine rg_d hE [Rw 32 (vI i) [(4, vI i)], Rw 33 (vI (i / 16)) [(32, vI i)], Rw 34 (vP 3 0) [(3, vP 3 0)], Rw 35 (vP 3 (i / 16)) [(34, vP 3 0), (33, vI (i / 16))], Rw 36 (vW (dg (hexL s i) (i / 16))) [(35, vP 3 (i / 16))] [(3, (.sc (U9 (hexL s i)), 37))], Rw 37 (vW (((byt s ((s.size - 1) - i)) + (256 - 48)) % 256)) [(6, vW (((byt s ((s.size - 1) - i)) + (256 - 48)) % 256))], Rw 38 (vI i) [(4, vI i)], Rw 39 (vI (i % 16)) [(38, vI i)], Rw 40 (vI (4 * (i % 16))) [(39, vI (i % 16))], Rw 41 (vW ((((byt s ((s.size - 1) - i)) + (256 - 48)) % 256) * 2 ^ (4 * (i % 16)) % 18446744073709551616)) [(37, vW (((byt s ((s.size - 1) - i)) + (256 - 48)) % 256)), (40, vI (4 * (i % 16)))], Rw 42 (vW ((dg (hexL s i) (i / 16)) ||| ((((byt s ((s.size - 1) - i)) + (256 - 48)) % 256) * 2 ^ (4 * (i % 16)) % 18446744073709551616))) [(36, vW (dg (hexL s i) (i / 16))), (41, vW ((((byt s ((s.size - 1) - i)) + (256 - 48)) % 256) * 2 ^ (4 * (i % 16)) % 18446744073709551616))], Rw 43 (vP 3 0) [(3, vP 3 0)], Rw 44 (vP 3 (i / 16)) [(43, vP 3 0), (33, vI (i / 16))], Rz [(44, vP 3 (i / 16)), (42, vW ((dg (hexL s i) (i / 16)) ||| ((((byt s ((s.size - 1) - i)) + (256 - 48)) % 256) * 2 ^ (4 * (i % 16)) % 18446744073709551616)))] [(3, (.sc (U9 (hexL s i)), 37))] [(3, (.sc (U9 (setw (hexL s i) (i / 16) ((dg (hexL s i) (i / 16)) ||| ((((byt s ((s.size - 1) - i)) + (256 - 48)) % 256) * 2 ^ (4 * (i % 16)) % 18446744073709551616)))), 37))]] [(0, .s (st s)), (2, vP 2 0), (3, vP 3 0), (4, vI i), (5, vI ((s.size - 1) - i)), (8, vI s.size), (9, vI i)] [(2, (.sc (U9 0), 37)), (3, (.sc (U9 (setw (hexL s i) (i / 16) ((dg (hexL s i) (i / 16)) ||| ((((byt s ((s.size - 1) - i)) + (256 - 48)) % 256) * 2 ^ (4 * (i % 16)) % 18446744073709551616)))), 37))] ⟨tp, t_quo_i64, tp, txa0 ar35, tlU on22, tp, tp, t_rem_i64, tE fun _ => wi_mul, t_shl_u64, t_or_u64 (ha := (dg_lt _ _)) (hb := (Nat.mod_lt _ (by decide))), tp, txa0 ar35, tsU sz22 (hdd := (or_lt (dg_lt _ _) (Nat.mod_lt _ (by decide)))), trivial⟩ ?_
   clear hE; intro γ ac wc hE
   refine blk_normal ?_
   refine then_normal ?_
   refine rg_t hE [Rw 45 (vI (i + 1)) [(9, vI i)], Rw 9 (vI (i + 1)) [(45, vI (i + 1))]] [(0, .s (st s)), (2, vP 2 0), (3, vP 3 0), (4, vI i), (5, vI ((s.size - 1) - i)), (8, vI s.size), (9, vI (i + 1))] [(2, (.sc (U9 0), 37)), (3, (.sc (U9 (setw (hexL s i) (i / 16) ((dg (hexL s i) (i / 16)) ||| ((((byt s ((s.size - 1) - i)) + (256 - 48)) % 256) * 2 ^ (4 * (i % 16)) % 18446744073709551616)))), 37))] ⟨tE fun _ => wi_add, tp, trivial⟩ ?_
   clear hE; intro γ ac wc hE
   refine then_normal ⟨i + 1, by omega, by omega, _, hE.sub (by kernel_rfl) (by rw [hexL2 (by assumption)]; kernel_rfl)⟩
 ·
  have hb1p := of_decide_eq_false hb1
  refine wp_exit ?_
  refine then_exit ?_
  refine then_exit ?_
  refine blk_hit ?_
  refine then_normal ?_
  refine sq_t hE [Rw 46 (.agg (U9 (hexL s i))) [(3, vP 3 0)] [(3, (.sc (U9 (hexL s i)), 37))], Rz [(2, vP 2 0), (46, .agg (U9 (hexL s i)))] [(2, (.sc (U9 0), 37))] [(2, (.sc (U9 (hexL s i)), 37))]] [(0, .s (st s)), (2, vP 2 0), (3, vP 3 0), (8, vI s.size), (9, vI i)] [(2, (.sc (U9 (hexL s i)), 37)), (3, (.sc (U9 (hexL s i)), 37))] ⟨tl ag37, ts sz37, trivial⟩ ?_
  clear hE; intro γ ac wc hE
  refine wp_ret ?_
  have hi : i = s.size := by omega
  exact (end1 hE rfl (.cells 2 2 0 37 37 (U9 (hexL s i)) (U9 (hexL s i)) rfl rfl ag37 (by kernel_rfl)) (⟨by rw [hi]; rfl, hE.keep.below⟩)).1
def primeS (id : Int) : ByteArray := if id = ((1 : Nat) : Int) then tx0 else if id = ((2 : Nat) : Int) then tx5 else if id = ((3 : Nat) : Int) then tx10 else if id = ((4 : Nat) : Int) then tx15 else if id = ((5 : Nat) : Int) then tx20 else if id = ((6 : Nat) : Int) then tx25 else if id = ((7 : Nat) : Int) then tx29 else if id = ((8 : Nat) : Int) then tx35 else if id = ((9 : Nat) : Int) then tx41 else if id = ((10 : Nat) : Int) then tx47 else if id = ((11 : Nat) : Int) then tx53 else if id = ((12 : Nat) : Int) then tx59 else if id = ((13 : Nat) : Int) then ⟨#[102, 98]⟩ else if id = ((14 : Nat) : Int) then ⟨#[102, 49]⟩ else if id = ((15 : Nat) : Int) then ⟨#[101, 102]⟩ else ⟨#[]⟩
def rowS (id : Int) : ByteArray × ByteArray × ByteArray × ByteArray × ByteArray := if id = ((1 : Nat) : Int) then (⟨#[45, 51]⟩, tx1, tx2, tx3, tx4) else if id = ((2 : Nat) : Int) then (⟨#[45, 51]⟩, tx6, tx7, tx8, tx9) else if id = ((3 : Nat) : Int) then (⟨#[45, 51]⟩, tx11, tx12, tx13, tx14) else if id = ((4 : Nat) : Int) then (⟨#[45, 51]⟩, tx16, tx17, tx18, tx19) else if id = ((5 : Nat) : Int) then (⟨#[45, 51]⟩, tx21, tx22, tx23, tx24) else if id = ((6 : Nat) : Int) then (⟨#[48]⟩, ⟨#[55]⟩, tx26, tx27, tx28) else if id = ((7 : Nat) : Int) then (tx30, tx31, tx32, tx33, tx34) else if id = ((8 : Nat) : Int) then (tx36, tx37, tx38, tx39, tx40) else if id = ((9 : Nat) : Int) then (tx42, tx43, tx44, tx45, tx46) else if id = ((10 : Nat) : Int) then (tx48, tx49, tx50, tx51, tx52) else if id = ((11 : Nat) : Int) then (tx54, tx55, tx56, tx57, tx58) else if id = ((12 : Nat) : Int) then (tx60, tx61, tx62, tx63, tx64) else if id = ((13 : Nat) : Int) then (⟨#[45, 51]⟩, ⟨#[49, 97]⟩, ⟨#[100, 102]⟩, ⟨#[50]⟩, ⟨#[53, 52]⟩) else if id = ((14 : Nat) : Int) then (⟨#[48]⟩, ⟨#[100]⟩, ⟨#[100, 51]⟩, ⟨#[51]⟩, ⟨#[50, 102]⟩) else if id = ((15 : Nat) : Int) then (⟨#[55, 53]⟩, ⟨#[56]⟩, ⟨#[101, 53]⟩, ⟨#[48]⟩, ⟨#[50, 57]⟩) else (⟨#[]⟩, ⟨#[]⟩, ⟨#[]⟩, ⟨#[]⟩, ⟨#[]⟩)
theorem field_prime (id : Int) (w0 : World) : Calls Try.prog 126 #[.int .i64 id] w0 fun e w => e = .returned (.string (primeS id)) ∧ Below w0.heap.size w0 w := by
 refine enter_sx [(0, .s (inI .i64 id))] 34 Try.func126 rfl rfl (Nat.le_of_ble_eq_true (by kernel_rfl)) (fun γ => by kernel_rfl) ?_
 intro γ ac hE
 refine sq_t hE [Rw 2 (.s (st (⟨#[]⟩)))] [(0, .s (inI .i64 id)), (2, .s (st (⟨#[]⟩)))] [] ⟨tp, trivial⟩ ?_
 clear hE; intro γ ac wc hE
 refine wp_seq ?_
 refine sq_t hE [Rw 3 (.s (inI .i64 id)) [(0, .s (inI .i64 id))]] [(2, .s (st (⟨#[]⟩))), (3, .s (inI .i64 id))] [] ⟨tp, trivial⟩ ?_
 clear hE; intro γ ac wc hE
 refine wp_block ?_
 refine sq_t hE [Rw 5 (vB (decide (id = ((1 : Nat) : Int)))) [(3, .s (inI .i64 id))], Rw 4 (vB (decide (id = ((1 : Nat) : Int)))) [(5, vB (decide (id = ((1 : Nat) : Int))))]] [(2, .s (st (⟨#[]⟩))), (3, .s (inI .i64 id)), (4, vB (decide (id = ((1 : Nat) : Int))))] [] ⟨tE fun _ => d_eqi _ _, tp, trivial⟩ ?_
 clear hE; intro γ ac wc hE
 refine cond_sx hE rfl (fun hb1 => ?_) (fun hb1 => ?_)
 ·
  have hb1p := of_decide_eq_true hb1
  refine sq_t hE [Rw 2 (.s (st tx0))] [(2, .s (st tx0)), (3, .s (inI .i64 id))] [] ⟨tp, trivial⟩ ?_
  clear hE; intro γ ac wc hE
  refine wp_ret ?_
  refine blk_ret ?_
  refine then_ret ?_
  exact (end1 hE rfl (.tmp 2 (.s (st tx0)) rfl) (⟨by rw [primeS, if_pos hb1p]; rfl, hE.keep.below⟩)).1
 ·
  have hb1p := of_decide_eq_false hb1
  refine sq_t hE [Rw 7 (vB (decide (id = ((2 : Nat) : Int)))) [(3, .s (inI .i64 id))], Rw 6 (vB (decide (id = ((2 : Nat) : Int)))) [(7, vB (decide (id = ((2 : Nat) : Int))))]] [(2, .s (st (⟨#[]⟩))), (3, .s (inI .i64 id)), (6, vB (decide (id = ((2 : Nat) : Int))))] [] ⟨tE fun _ => d_eqi _ _, tp, trivial⟩ ?_
  clear hE; intro γ ac wc hE
  refine cond_sx hE rfl (fun hb2 => ?_) (fun hb2 => ?_)
  ·
   have hb2p := of_decide_eq_true hb2
   refine sq_t hE [Rw 2 (.s (st tx5))] [(2, .s (st tx5)), (3, .s (inI .i64 id))] [] ⟨tp, trivial⟩ ?_
   clear hE; intro γ ac wc hE
   refine wp_ret ?_
   refine blk_ret ?_
   refine then_ret ?_
   exact (end1 hE rfl (.tmp 2 (.s (st tx5)) rfl) (⟨by rw [primeS, if_neg hb1p, if_pos hb2p]; rfl, hE.keep.below⟩)).1
  ·
   have hb2p := of_decide_eq_false hb2
   refine sq_t hE [Rw 9 (vB (decide (id = ((3 : Nat) : Int)))) [(3, .s (inI .i64 id))], Rw 8 (vB (decide (id = ((3 : Nat) : Int)))) [(9, vB (decide (id = ((3 : Nat) : Int))))]] [(2, .s (st (⟨#[]⟩))), (3, .s (inI .i64 id)), (8, vB (decide (id = ((3 : Nat) : Int))))] [] ⟨tE fun _ => d_eqi _ _, tp, trivial⟩ ?_
   clear hE; intro γ ac wc hE
   refine cond_sx hE rfl (fun hb3 => ?_) (fun hb3 => ?_)
   ·
    have hb3p := of_decide_eq_true hb3
    refine sq_t hE [Rw 2 (.s (st tx10))] [(2, .s (st tx10)), (3, .s (inI .i64 id))] [] ⟨tp, trivial⟩ ?_
    clear hE; intro γ ac wc hE
    refine wp_ret ?_
    refine blk_ret ?_
    refine then_ret ?_
    exact (end1 hE rfl (.tmp 2 (.s (st tx10)) rfl) (⟨by rw [primeS, if_neg hb1p, if_neg hb2p, if_pos hb3p]; rfl, hE.keep.below⟩)).1
   ·
    have hb3p := of_decide_eq_false hb3
    refine sq_t hE [Rw 11 (vB (decide (id = ((4 : Nat) : Int)))) [(3, .s (inI .i64 id))], Rw 10 (vB (decide (id = ((4 : Nat) : Int)))) [(11, vB (decide (id = ((4 : Nat) : Int))))]] [(2, .s (st (⟨#[]⟩))), (3, .s (inI .i64 id)), (10, vB (decide (id = ((4 : Nat) : Int))))] [] ⟨tE fun _ => d_eqi _ _, tp, trivial⟩ ?_
    clear hE; intro γ ac wc hE
    refine cond_sx hE rfl (fun hb4 => ?_) (fun hb4 => ?_)
    ·
     have hb4p := of_decide_eq_true hb4
     refine sq_t hE [Rw 2 (.s (st tx15))] [(2, .s (st tx15)), (3, .s (inI .i64 id))] [] ⟨tp, trivial⟩ ?_
     clear hE; intro γ ac wc hE
     refine wp_ret ?_
     refine blk_ret ?_
     refine then_ret ?_
     exact (end1 hE rfl (.tmp 2 (.s (st tx15)) rfl) (⟨by rw [primeS, if_neg hb1p, if_neg hb2p, if_neg hb3p, if_pos hb4p]; rfl, hE.keep.below⟩)).1
    ·
     have hb4p := of_decide_eq_false hb4
     refine sq_t hE [Rw 13 (vB (decide (id = ((5 : Nat) : Int)))) [(3, .s (inI .i64 id))], Rw 12 (vB (decide (id = ((5 : Nat) : Int)))) [(13, vB (decide (id = ((5 : Nat) : Int))))]] [(2, .s (st (⟨#[]⟩))), (3, .s (inI .i64 id)), (12, vB (decide (id = ((5 : Nat) : Int))))] [] ⟨tE fun _ => d_eqi _ _, tp, trivial⟩ ?_
     clear hE; intro γ ac wc hE
     refine cond_sx hE rfl (fun hb5 => ?_) (fun hb5 => ?_)
     ·
      have hb5p := of_decide_eq_true hb5
      refine sq_t hE [Rw 2 (.s (st tx20))] [(2, .s (st tx20)), (3, .s (inI .i64 id))] [] ⟨tp, trivial⟩ ?_
      clear hE; intro γ ac wc hE
      refine wp_ret ?_
      refine blk_ret ?_
      refine then_ret ?_
      exact (end1 hE rfl (.tmp 2 (.s (st tx20)) rfl) (⟨by rw [primeS, if_neg hb1p, if_neg hb2p, if_neg hb3p, if_neg hb4p, if_pos hb5p]; rfl, hE.keep.below⟩)).1
     ·
      have hb5p := of_decide_eq_false hb5
      refine sq_t hE [Rw 15 (vB (decide (id = ((6 : Nat) : Int)))) [(3, .s (inI .i64 id))], Rw 14 (vB (decide (id = ((6 : Nat) : Int)))) [(15, vB (decide (id = ((6 : Nat) : Int))))]] [(2, .s (st (⟨#[]⟩))), (3, .s (inI .i64 id)), (14, vB (decide (id = ((6 : Nat) : Int))))] [] ⟨tE fun _ => d_eqi _ _, tp, trivial⟩ ?_
      clear hE; intro γ ac wc hE
      refine cond_sx hE rfl (fun hb6 => ?_) (fun hb6 => ?_)
      ·
       have hb6p := of_decide_eq_true hb6
       refine sq_t hE [Rw 2 (.s (st tx25))] [(2, .s (st tx25)), (3, .s (inI .i64 id))] [] ⟨tp, trivial⟩ ?_
       clear hE; intro γ ac wc hE
       refine wp_ret ?_
       refine blk_ret ?_
       refine then_ret ?_
       exact (end1 hE rfl (.tmp 2 (.s (st tx25)) rfl) (⟨by rw [primeS, if_neg hb1p, if_neg hb2p, if_neg hb3p, if_neg hb4p, if_neg hb5p, if_pos hb6p]; rfl, hE.keep.below⟩)).1
      ·
       have hb6p := of_decide_eq_false hb6
       refine sq_t hE [Rw 17 (vB (decide (id = ((7 : Nat) : Int)))) [(3, .s (inI .i64 id))], Rw 16 (vB (decide (id = ((7 : Nat) : Int)))) [(17, vB (decide (id = ((7 : Nat) : Int))))]] [(2, .s (st (⟨#[]⟩))), (3, .s (inI .i64 id)), (16, vB (decide (id = ((7 : Nat) : Int))))] [] ⟨tE fun _ => d_eqi _ _, tp, trivial⟩ ?_
       clear hE; intro γ ac wc hE
       refine cond_sx hE rfl (fun hb7 => ?_) (fun hb7 => ?_)
       ·
        have hb7p := of_decide_eq_true hb7
        refine sq_t hE [Rw 2 (.s (st tx29))] [(2, .s (st tx29)), (3, .s (inI .i64 id))] [] ⟨tp, trivial⟩ ?_
        clear hE; intro γ ac wc hE
        refine wp_ret ?_
        refine blk_ret ?_
        refine then_ret ?_
        exact (end1 hE rfl (.tmp 2 (.s (st tx29)) rfl) (⟨by rw [primeS, if_neg hb1p, if_neg hb2p, if_neg hb3p, if_neg hb4p, if_neg hb5p, if_neg hb6p, if_pos hb7p]; rfl, hE.keep.below⟩)).1
       ·
        have hb7p := of_decide_eq_false hb7
        refine sq_t hE [Rw 19 (vB (decide (id = ((8 : Nat) : Int)))) [(3, .s (inI .i64 id))], Rw 18 (vB (decide (id = ((8 : Nat) : Int)))) [(19, vB (decide (id = ((8 : Nat) : Int))))]] [(2, .s (st (⟨#[]⟩))), (3, .s (inI .i64 id)), (18, vB (decide (id = ((8 : Nat) : Int))))] [] ⟨tE fun _ => d_eqi _ _, tp, trivial⟩ ?_
        clear hE; intro γ ac wc hE
        refine cond_sx hE rfl (fun hb8 => ?_) (fun hb8 => ?_)
        ·
         have hb8p := of_decide_eq_true hb8
         refine sq_t hE [Rw 2 (.s (st tx35))] [(2, .s (st tx35)), (3, .s (inI .i64 id))] [] ⟨tp, trivial⟩ ?_
         clear hE; intro γ ac wc hE
         refine wp_ret ?_
         refine blk_ret ?_
         refine then_ret ?_
         exact (end1 hE rfl (.tmp 2 (.s (st tx35)) rfl) (⟨by rw [primeS, if_neg hb1p, if_neg hb2p, if_neg hb3p, if_neg hb4p, if_neg hb5p, if_neg hb6p, if_neg hb7p, if_pos hb8p]; rfl, hE.keep.below⟩)).1
        ·
         have hb8p := of_decide_eq_false hb8
         refine sq_t hE [Rw 21 (vB (decide (id = ((9 : Nat) : Int)))) [(3, .s (inI .i64 id))], Rw 20 (vB (decide (id = ((9 : Nat) : Int)))) [(21, vB (decide (id = ((9 : Nat) : Int))))]] [(2, .s (st (⟨#[]⟩))), (3, .s (inI .i64 id)), (20, vB (decide (id = ((9 : Nat) : Int))))] [] ⟨tE fun _ => d_eqi _ _, tp, trivial⟩ ?_
         clear hE; intro γ ac wc hE
         refine cond_sx hE rfl (fun hb9 => ?_) (fun hb9 => ?_)
         ·
          have hb9p := of_decide_eq_true hb9
          refine sq_t hE [Rw 2 (.s (st tx41))] [(2, .s (st tx41)), (3, .s (inI .i64 id))] [] ⟨tp, trivial⟩ ?_
          clear hE; intro γ ac wc hE
          refine wp_ret ?_
          refine blk_ret ?_
          refine then_ret ?_
          exact (end1 hE rfl (.tmp 2 (.s (st tx41)) rfl) (⟨by rw [primeS, if_neg hb1p, if_neg hb2p, if_neg hb3p, if_neg hb4p, if_neg hb5p, if_neg hb6p, if_neg hb7p, if_neg hb8p, if_pos hb9p]; rfl, hE.keep.below⟩)).1
         ·
          have hb9p := of_decide_eq_false hb9
          refine sq_t hE [Rw 23 (vB (decide (id = ((10 : Nat) : Int)))) [(3, .s (inI .i64 id))], Rw 22 (vB (decide (id = ((10 : Nat) : Int)))) [(23, vB (decide (id = ((10 : Nat) : Int))))]] [(2, .s (st (⟨#[]⟩))), (3, .s (inI .i64 id)), (22, vB (decide (id = ((10 : Nat) : Int))))] [] ⟨tE fun _ => d_eqi _ _, tp, trivial⟩ ?_
          clear hE; intro γ ac wc hE
          refine cond_sx hE rfl (fun hb10 => ?_) (fun hb10 => ?_)
          ·
           have hb10p := of_decide_eq_true hb10
           refine sq_t hE [Rw 2 (.s (st tx47))] [(2, .s (st tx47)), (3, .s (inI .i64 id))] [] ⟨tp, trivial⟩ ?_
           clear hE; intro γ ac wc hE
           refine wp_ret ?_
           refine blk_ret ?_
           refine then_ret ?_
           exact (end1 hE rfl (.tmp 2 (.s (st tx47)) rfl) (⟨by rw [primeS, if_neg hb1p, if_neg hb2p, if_neg hb3p, if_neg hb4p, if_neg hb5p, if_neg hb6p, if_neg hb7p, if_neg hb8p, if_neg hb9p, if_pos hb10p]; rfl, hE.keep.below⟩)).1
          ·
           have hb10p := of_decide_eq_false hb10
           refine sq_t hE [Rw 25 (vB (decide (id = ((11 : Nat) : Int)))) [(3, .s (inI .i64 id))], Rw 24 (vB (decide (id = ((11 : Nat) : Int)))) [(25, vB (decide (id = ((11 : Nat) : Int))))]] [(2, .s (st (⟨#[]⟩))), (3, .s (inI .i64 id)), (24, vB (decide (id = ((11 : Nat) : Int))))] [] ⟨tE fun _ => d_eqi _ _, tp, trivial⟩ ?_
           clear hE; intro γ ac wc hE
           refine cond_sx hE rfl (fun hb11 => ?_) (fun hb11 => ?_)
           ·
            have hb11p := of_decide_eq_true hb11
            refine sq_t hE [Rw 2 (.s (st tx53))] [(2, .s (st tx53)), (3, .s (inI .i64 id))] [] ⟨tp, trivial⟩ ?_
            clear hE; intro γ ac wc hE
            refine wp_ret ?_
            refine blk_ret ?_
            refine then_ret ?_
            exact (end1 hE rfl (.tmp 2 (.s (st tx53)) rfl) (⟨by rw [primeS, if_neg hb1p, if_neg hb2p, if_neg hb3p, if_neg hb4p, if_neg hb5p, if_neg hb6p, if_neg hb7p, if_neg hb8p, if_neg hb9p, if_neg hb10p, if_pos hb11p]; rfl, hE.keep.below⟩)).1
           ·
            have hb11p := of_decide_eq_false hb11
            refine sq_t hE [Rw 27 (vB (decide (id = ((12 : Nat) : Int)))) [(3, .s (inI .i64 id))], Rw 26 (vB (decide (id = ((12 : Nat) : Int)))) [(27, vB (decide (id = ((12 : Nat) : Int))))]] [(2, .s (st (⟨#[]⟩))), (3, .s (inI .i64 id)), (26, vB (decide (id = ((12 : Nat) : Int))))] [] ⟨tE fun _ => d_eqi _ _, tp, trivial⟩ ?_
            clear hE; intro γ ac wc hE
            refine cond_sx hE rfl (fun hb12 => ?_) (fun hb12 => ?_)
            ·
             have hb12p := of_decide_eq_true hb12
             refine sq_t hE [Rw 2 (.s (st tx59))] [(2, .s (st tx59)), (3, .s (inI .i64 id))] [] ⟨tp, trivial⟩ ?_
             clear hE; intro γ ac wc hE
             refine wp_ret ?_
             refine blk_ret ?_
             refine then_ret ?_
             exact (end1 hE rfl (.tmp 2 (.s (st tx59)) rfl) (⟨by rw [primeS, if_neg hb1p, if_neg hb2p, if_neg hb3p, if_neg hb4p, if_neg hb5p, if_neg hb6p, if_neg hb7p, if_neg hb8p, if_neg hb9p, if_neg hb10p, if_neg hb11p, if_pos hb12p]; rfl, hE.keep.below⟩)).1
            ·
             have hb12p := of_decide_eq_false hb12
             refine sq_t hE [Rw 29 (vB (decide (id = ((13 : Nat) : Int)))) [(3, .s (inI .i64 id))], Rw 28 (vB (decide (id = ((13 : Nat) : Int)))) [(29, vB (decide (id = ((13 : Nat) : Int))))]] [(2, .s (st (⟨#[]⟩))), (3, .s (inI .i64 id)), (28, vB (decide (id = ((13 : Nat) : Int))))] [] ⟨tE fun _ => d_eqi _ _, tp, trivial⟩ ?_
             clear hE; intro γ ac wc hE
             refine cond_sx hE rfl (fun hb13 => ?_) (fun hb13 => ?_)
             ·
              have hb13p := of_decide_eq_true hb13
              refine sq_t hE [Rw 2 (.s (st (⟨#[102, 98]⟩)))] [(2, .s (st (⟨#[102, 98]⟩))), (3, .s (inI .i64 id))] [] ⟨tp, trivial⟩ ?_
              clear hE; intro γ ac wc hE
              refine wp_ret ?_
              refine blk_ret ?_
              refine then_ret ?_
              exact (end1 hE rfl (.tmp 2 (.s (st (⟨#[102, 98]⟩))) rfl) (⟨by rw [primeS, if_neg hb1p, if_neg hb2p, if_neg hb3p, if_neg hb4p, if_neg hb5p, if_neg hb6p, if_neg hb7p, if_neg hb8p, if_neg hb9p, if_neg hb10p, if_neg hb11p, if_neg hb12p, if_pos hb13p]; rfl, hE.keep.below⟩)).1
             ·
              have hb13p := of_decide_eq_false hb13
              refine sq_t hE [Rw 31 (vB (decide (id = ((14 : Nat) : Int)))) [(3, .s (inI .i64 id))], Rw 30 (vB (decide (id = ((14 : Nat) : Int)))) [(31, vB (decide (id = ((14 : Nat) : Int))))]] [(2, .s (st (⟨#[]⟩))), (3, .s (inI .i64 id)), (30, vB (decide (id = ((14 : Nat) : Int))))] [] ⟨tE fun _ => d_eqi _ _, tp, trivial⟩ ?_
              clear hE; intro γ ac wc hE
              refine cond_sx hE rfl (fun hb14 => ?_) (fun hb14 => ?_)
              ·
               have hb14p := of_decide_eq_true hb14
               refine sq_t hE [Rw 2 (.s (st (⟨#[102, 49]⟩)))] [(2, .s (st (⟨#[102, 49]⟩))), (3, .s (inI .i64 id))] [] ⟨tp, trivial⟩ ?_
               clear hE; intro γ ac wc hE
               refine wp_ret ?_
               refine blk_ret ?_
               refine then_ret ?_
               exact (end1 hE rfl (.tmp 2 (.s (st (⟨#[102, 49]⟩))) rfl) (⟨by rw [primeS, if_neg hb1p, if_neg hb2p, if_neg hb3p, if_neg hb4p, if_neg hb5p, if_neg hb6p, if_neg hb7p, if_neg hb8p, if_neg hb9p, if_neg hb10p, if_neg hb11p, if_neg hb12p, if_neg hb13p, if_pos hb14p]; rfl, hE.keep.below⟩)).1
              ·
               have hb14p := of_decide_eq_false hb14
               refine sq_t hE [Rw 33 (vB (decide (id = ((15 : Nat) : Int)))) [(3, .s (inI .i64 id))], Rw 32 (vB (decide (id = ((15 : Nat) : Int)))) [(33, vB (decide (id = ((15 : Nat) : Int))))]] [(2, .s (st (⟨#[]⟩))), (3, .s (inI .i64 id)), (32, vB (decide (id = ((15 : Nat) : Int))))] [] ⟨tE fun _ => d_eqi _ _, tp, trivial⟩ ?_
               clear hE; intro γ ac wc hE
               refine cond_sx hE rfl (fun hb15 => ?_) (fun hb15 => ?_)
               ·
                have hb15p := of_decide_eq_true hb15
                refine sq_t hE [Rw 2 (.s (st (⟨#[101, 102]⟩)))] [(2, .s (st (⟨#[101, 102]⟩))), (3, .s (inI .i64 id))] [] ⟨tp, trivial⟩ ?_
                clear hE; intro γ ac wc hE
                refine wp_ret ?_
                refine blk_ret ?_
                refine then_ret ?_
                exact (end1 hE rfl (.tmp 2 (.s (st (⟨#[101, 102]⟩))) rfl) (⟨by rw [primeS, if_neg hb1p, if_neg hb2p, if_neg hb3p, if_neg hb4p, if_neg hb5p, if_neg hb6p, if_neg hb7p, if_neg hb8p, if_neg hb9p, if_neg hb10p, if_neg hb11p, if_neg hb12p, if_neg hb13p, if_neg hb14p, if_pos hb15p]; rfl, hE.keep.below⟩)).1
               ·
                have hb15p := of_decide_eq_false hb15
                refine wp_skip ?_
                refine blk_normal ?_
                refine then_normal ?_
                refine sq_t hE [Rw 2 (.s (st (⟨#[]⟩)))] [(2, .s (st (⟨#[]⟩))), (3, .s (inI .i64 id))] [] ⟨tp, trivial⟩ ?_
                clear hE; intro γ ac wc hE
                refine wp_ret ?_
                exact (end1 hE rfl (.tmp 2 (.s (st (⟨#[]⟩))) rfl) (⟨by rw [primeS, if_neg hb1p, if_neg hb2p, if_neg hb3p, if_neg hb4p, if_neg hb5p, if_neg hb6p, if_neg hb7p, if_neg hb8p, if_neg hb9p, if_neg hb10p, if_neg hb11p, if_neg hb12p, if_neg hb13p, if_neg hb14p, if_neg hb15p]; rfl, hE.keep.below⟩)).1
theorem curve_rows (id : Int) (w0 : World) : Calls Try.prog 101 #[.int .i64 id] w0 fun e w => e = .returned (.agg #[.string (rowS id).1, .string (rowS id).2.1, .string (rowS id).2.2.1, .string (rowS id).2.2.2.1, .string (rowS id).2.2.2.2]) ∧ Below w0.heap.size w0 w := by
 refine enter_sx [(0, .s (inI .i64 id))] 50 Try.func101 rfl rfl (Nat.le_of_ble_eq_true (by kernel_rfl)) (fun γ => by kernel_rfl) ?_
 intro γ ac hE
 refine sq_t hE [Rw 2 (vP 2 0) [] [] [(2, (.sc [(st (⟨#[]⟩)), (st (⟨#[]⟩)), (st (⟨#[]⟩)), (st (⟨#[]⟩)), (st (⟨#[]⟩))], 147))]] [(0, .s (inI .i64 id)), (2, vP 2 0)] [(2, (.sc [(st (⟨#[]⟩)), (st (⟨#[]⟩)), (st (⟨#[]⟩)), (st (⟨#[]⟩)), (st (⟨#[]⟩))], 147))] ⟨ta zt147, trivial⟩ ?_
 clear hE; intro γ ac wc hE
 refine wp_seq ?_
 refine sq_t hE [Rw 3 (.s (inI .i64 id)) [(0, .s (inI .i64 id))]] [(2, vP 2 0), (3, .s (inI .i64 id))] [(2, (.sc [(st (⟨#[]⟩)), (st (⟨#[]⟩)), (st (⟨#[]⟩)), (st (⟨#[]⟩)), (st (⟨#[]⟩))], 147))] ⟨tp, trivial⟩ ?_
 clear hE; intro γ ac wc hE
 refine wp_block ?_
 refine sq_t hE [Rw 5 (vB (decide (id = ((1 : Nat) : Int)))) [(3, .s (inI .i64 id))], Rw 4 (vB (decide (id = ((1 : Nat) : Int)))) [(5, vB (decide (id = ((1 : Nat) : Int))))]] [(2, vP 2 0), (3, .s (inI .i64 id)), (4, vB (decide (id = ((1 : Nat) : Int))))] [(2, (.sc [(st (⟨#[]⟩)), (st (⟨#[]⟩)), (st (⟨#[]⟩)), (st (⟨#[]⟩)), (st (⟨#[]⟩))], 147))] ⟨tE fun _ => d_eqi _ _, tp, trivial⟩ ?_
 clear hE; intro γ ac wc hE
 refine cond_sx hE rfl (fun hb1 => ?_) (fun hb1 => ?_)
 ·
  have hb1p := of_decide_eq_true hb1
  refine sq_t hE [Rw 6 (.agg [(st (⟨#[45, 51]⟩)), (st tx1), (st tx2), (st tx3), (st tx4)]), Rz [(2, vP 2 0), (6, .agg [(st (⟨#[45, 51]⟩)), (st tx1), (st tx2), (st tx3), (st tx4)])] [(2, (.sc [(st (⟨#[]⟩)), (st (⟨#[]⟩)), (st (⟨#[]⟩)), (st (⟨#[]⟩)), (st (⟨#[]⟩))], 147))] [(2, (.sc [(st (⟨#[45, 51]⟩)), (st tx1), (st tx2), (st tx3), (st tx4)], 147))]] [(2, vP 2 0), (3, .s (inI .i64 id))] [(2, (.sc [(st (⟨#[45, 51]⟩)), (st tx1), (st tx2), (st tx3), (st tx4)], 147))] ⟨tp, ts sz147, trivial⟩ ?_
  clear hE; intro γ ac wc hE
  refine wp_ret ?_
  refine blk_ret ?_
  refine then_ret ?_
  exact (end1 hE rfl (.cells 2 2 0 147 147 [(st (⟨#[45, 51]⟩)), (st tx1), (st tx2), (st tx3), (st tx4)] [(st (⟨#[45, 51]⟩)), (st tx1), (st tx2), (st tx3), (st tx4)] rfl rfl ag147 (by kernel_rfl)) (⟨by rw [rowS, if_pos hb1p]; rfl, hE.keep.below⟩)).1
 ·
  have hb1p := of_decide_eq_false hb1
  refine sq_t hE [Rw 8 (vB (decide (id = ((2 : Nat) : Int)))) [(3, .s (inI .i64 id))], Rw 7 (vB (decide (id = ((2 : Nat) : Int)))) [(8, vB (decide (id = ((2 : Nat) : Int))))]] [(2, vP 2 0), (3, .s (inI .i64 id)), (7, vB (decide (id = ((2 : Nat) : Int))))] [(2, (.sc [(st (⟨#[]⟩)), (st (⟨#[]⟩)), (st (⟨#[]⟩)), (st (⟨#[]⟩)), (st (⟨#[]⟩))], 147))] ⟨tE fun _ => d_eqi _ _, tp, trivial⟩ ?_
  clear hE; intro γ ac wc hE
  refine cond_sx hE rfl (fun hb2 => ?_) (fun hb2 => ?_)
  ·
   have hb2p := of_decide_eq_true hb2
   refine sq_t hE [Rw 9 (.agg [(st (⟨#[45, 51]⟩)), (st tx6), (st tx7), (st tx8), (st tx9)]), Rz [(2, vP 2 0), (9, .agg [(st (⟨#[45, 51]⟩)), (st tx6), (st tx7), (st tx8), (st tx9)])] [(2, (.sc [(st (⟨#[]⟩)), (st (⟨#[]⟩)), (st (⟨#[]⟩)), (st (⟨#[]⟩)), (st (⟨#[]⟩))], 147))] [(2, (.sc [(st (⟨#[45, 51]⟩)), (st tx6), (st tx7), (st tx8), (st tx9)], 147))]] [(2, vP 2 0), (3, .s (inI .i64 id))] [(2, (.sc [(st (⟨#[45, 51]⟩)), (st tx6), (st tx7), (st tx8), (st tx9)], 147))] ⟨tp, ts sz147, trivial⟩ ?_
   clear hE; intro γ ac wc hE
   refine wp_ret ?_
   refine blk_ret ?_
   refine then_ret ?_
   exact (end1 hE rfl (.cells 2 2 0 147 147 [(st (⟨#[45, 51]⟩)), (st tx6), (st tx7), (st tx8), (st tx9)] [(st (⟨#[45, 51]⟩)), (st tx6), (st tx7), (st tx8), (st tx9)] rfl rfl ag147 (by kernel_rfl)) (⟨by rw [rowS, if_neg hb1p, if_pos hb2p]; rfl, hE.keep.below⟩)).1
  ·
   have hb2p := of_decide_eq_false hb2
   refine sq_t hE [Rw 11 (vB (decide (id = ((3 : Nat) : Int)))) [(3, .s (inI .i64 id))], Rw 10 (vB (decide (id = ((3 : Nat) : Int)))) [(11, vB (decide (id = ((3 : Nat) : Int))))]] [(2, vP 2 0), (3, .s (inI .i64 id)), (10, vB (decide (id = ((3 : Nat) : Int))))] [(2, (.sc [(st (⟨#[]⟩)), (st (⟨#[]⟩)), (st (⟨#[]⟩)), (st (⟨#[]⟩)), (st (⟨#[]⟩))], 147))] ⟨tE fun _ => d_eqi _ _, tp, trivial⟩ ?_
   clear hE; intro γ ac wc hE
   refine cond_sx hE rfl (fun hb3 => ?_) (fun hb3 => ?_)
   ·
    have hb3p := of_decide_eq_true hb3
    refine sq_t hE [Rw 12 (.agg [(st (⟨#[45, 51]⟩)), (st tx11), (st tx12), (st tx13), (st tx14)]), Rz [(2, vP 2 0), (12, .agg [(st (⟨#[45, 51]⟩)), (st tx11), (st tx12), (st tx13), (st tx14)])] [(2, (.sc [(st (⟨#[]⟩)), (st (⟨#[]⟩)), (st (⟨#[]⟩)), (st (⟨#[]⟩)), (st (⟨#[]⟩))], 147))] [(2, (.sc [(st (⟨#[45, 51]⟩)), (st tx11), (st tx12), (st tx13), (st tx14)], 147))]] [(2, vP 2 0), (3, .s (inI .i64 id))] [(2, (.sc [(st (⟨#[45, 51]⟩)), (st tx11), (st tx12), (st tx13), (st tx14)], 147))] ⟨tp, ts sz147, trivial⟩ ?_
    clear hE; intro γ ac wc hE
    refine wp_ret ?_
    refine blk_ret ?_
    refine then_ret ?_
    exact (end1 hE rfl (.cells 2 2 0 147 147 [(st (⟨#[45, 51]⟩)), (st tx11), (st tx12), (st tx13), (st tx14)] [(st (⟨#[45, 51]⟩)), (st tx11), (st tx12), (st tx13), (st tx14)] rfl rfl ag147 (by kernel_rfl)) (⟨by rw [rowS, if_neg hb1p, if_neg hb2p, if_pos hb3p]; rfl, hE.keep.below⟩)).1
   ·
    have hb3p := of_decide_eq_false hb3
    refine sq_t hE [Rw 14 (vB (decide (id = ((4 : Nat) : Int)))) [(3, .s (inI .i64 id))], Rw 13 (vB (decide (id = ((4 : Nat) : Int)))) [(14, vB (decide (id = ((4 : Nat) : Int))))]] [(2, vP 2 0), (3, .s (inI .i64 id)), (13, vB (decide (id = ((4 : Nat) : Int))))] [(2, (.sc [(st (⟨#[]⟩)), (st (⟨#[]⟩)), (st (⟨#[]⟩)), (st (⟨#[]⟩)), (st (⟨#[]⟩))], 147))] ⟨tE fun _ => d_eqi _ _, tp, trivial⟩ ?_
    clear hE; intro γ ac wc hE
    refine cond_sx hE rfl (fun hb4 => ?_) (fun hb4 => ?_)
    ·
     have hb4p := of_decide_eq_true hb4
     refine sq_t hE [Rw 15 (.agg [(st (⟨#[45, 51]⟩)), (st tx16), (st tx17), (st tx18), (st tx19)]), Rz [(2, vP 2 0), (15, .agg [(st (⟨#[45, 51]⟩)), (st tx16), (st tx17), (st tx18), (st tx19)])] [(2, (.sc [(st (⟨#[]⟩)), (st (⟨#[]⟩)), (st (⟨#[]⟩)), (st (⟨#[]⟩)), (st (⟨#[]⟩))], 147))] [(2, (.sc [(st (⟨#[45, 51]⟩)), (st tx16), (st tx17), (st tx18), (st tx19)], 147))]] [(2, vP 2 0), (3, .s (inI .i64 id))] [(2, (.sc [(st (⟨#[45, 51]⟩)), (st tx16), (st tx17), (st tx18), (st tx19)], 147))] ⟨tp, ts sz147, trivial⟩ ?_
     clear hE; intro γ ac wc hE
     refine wp_ret ?_
     refine blk_ret ?_
     refine then_ret ?_
     exact (end1 hE rfl (.cells 2 2 0 147 147 [(st (⟨#[45, 51]⟩)), (st tx16), (st tx17), (st tx18), (st tx19)] [(st (⟨#[45, 51]⟩)), (st tx16), (st tx17), (st tx18), (st tx19)] rfl rfl ag147 (by kernel_rfl)) (⟨by rw [rowS, if_neg hb1p, if_neg hb2p, if_neg hb3p, if_pos hb4p]; rfl, hE.keep.below⟩)).1
    ·
     have hb4p := of_decide_eq_false hb4
     refine sq_t hE [Rw 17 (vB (decide (id = ((5 : Nat) : Int)))) [(3, .s (inI .i64 id))], Rw 16 (vB (decide (id = ((5 : Nat) : Int)))) [(17, vB (decide (id = ((5 : Nat) : Int))))]] [(2, vP 2 0), (3, .s (inI .i64 id)), (16, vB (decide (id = ((5 : Nat) : Int))))] [(2, (.sc [(st (⟨#[]⟩)), (st (⟨#[]⟩)), (st (⟨#[]⟩)), (st (⟨#[]⟩)), (st (⟨#[]⟩))], 147))] ⟨tE fun _ => d_eqi _ _, tp, trivial⟩ ?_
     clear hE; intro γ ac wc hE
     refine cond_sx hE rfl (fun hb5 => ?_) (fun hb5 => ?_)
     ·
      have hb5p := of_decide_eq_true hb5
      refine sq_t hE [Rw 18 (.agg [(st (⟨#[45, 51]⟩)), (st tx21), (st tx22), (st tx23), (st tx24)]), Rz [(2, vP 2 0), (18, .agg [(st (⟨#[45, 51]⟩)), (st tx21), (st tx22), (st tx23), (st tx24)])] [(2, (.sc [(st (⟨#[]⟩)), (st (⟨#[]⟩)), (st (⟨#[]⟩)), (st (⟨#[]⟩)), (st (⟨#[]⟩))], 147))] [(2, (.sc [(st (⟨#[45, 51]⟩)), (st tx21), (st tx22), (st tx23), (st tx24)], 147))]] [(2, vP 2 0), (3, .s (inI .i64 id))] [(2, (.sc [(st (⟨#[45, 51]⟩)), (st tx21), (st tx22), (st tx23), (st tx24)], 147))] ⟨tp, ts sz147, trivial⟩ ?_
      clear hE; intro γ ac wc hE
      refine wp_ret ?_
      refine blk_ret ?_
      refine then_ret ?_
      exact (end1 hE rfl (.cells 2 2 0 147 147 [(st (⟨#[45, 51]⟩)), (st tx21), (st tx22), (st tx23), (st tx24)] [(st (⟨#[45, 51]⟩)), (st tx21), (st tx22), (st tx23), (st tx24)] rfl rfl ag147 (by kernel_rfl)) (⟨by rw [rowS, if_neg hb1p, if_neg hb2p, if_neg hb3p, if_neg hb4p, if_pos hb5p]; rfl, hE.keep.below⟩)).1
     ·
      have hb5p := of_decide_eq_false hb5
      refine sq_t hE [Rw 20 (vB (decide (id = ((6 : Nat) : Int)))) [(3, .s (inI .i64 id))], Rw 19 (vB (decide (id = ((6 : Nat) : Int)))) [(20, vB (decide (id = ((6 : Nat) : Int))))]] [(2, vP 2 0), (3, .s (inI .i64 id)), (19, vB (decide (id = ((6 : Nat) : Int))))] [(2, (.sc [(st (⟨#[]⟩)), (st (⟨#[]⟩)), (st (⟨#[]⟩)), (st (⟨#[]⟩)), (st (⟨#[]⟩))], 147))] ⟨tE fun _ => d_eqi _ _, tp, trivial⟩ ?_
      clear hE; intro γ ac wc hE
      refine cond_sx hE rfl (fun hb6 => ?_) (fun hb6 => ?_)
      ·
       have hb6p := of_decide_eq_true hb6
       refine sq_t hE [Rw 21 (.agg [(st (⟨#[48]⟩)), (st (⟨#[55]⟩)), (st tx26), (st tx27), (st tx28)]), Rz [(2, vP 2 0), (21, .agg [(st (⟨#[48]⟩)), (st (⟨#[55]⟩)), (st tx26), (st tx27), (st tx28)])] [(2, (.sc [(st (⟨#[]⟩)), (st (⟨#[]⟩)), (st (⟨#[]⟩)), (st (⟨#[]⟩)), (st (⟨#[]⟩))], 147))] [(2, (.sc [(st (⟨#[48]⟩)), (st (⟨#[55]⟩)), (st tx26), (st tx27), (st tx28)], 147))]] [(2, vP 2 0), (3, .s (inI .i64 id))] [(2, (.sc [(st (⟨#[48]⟩)), (st (⟨#[55]⟩)), (st tx26), (st tx27), (st tx28)], 147))] ⟨tp, ts sz147, trivial⟩ ?_
       clear hE; intro γ ac wc hE
       refine wp_ret ?_
       refine blk_ret ?_
       refine then_ret ?_
       exact (end1 hE rfl (.cells 2 2 0 147 147 [(st (⟨#[48]⟩)), (st (⟨#[55]⟩)), (st tx26), (st tx27), (st tx28)] [(st (⟨#[48]⟩)), (st (⟨#[55]⟩)), (st tx26), (st tx27), (st tx28)] rfl rfl ag147 (by kernel_rfl)) (⟨by rw [rowS, if_neg hb1p, if_neg hb2p, if_neg hb3p, if_neg hb4p, if_neg hb5p, if_pos hb6p]; rfl, hE.keep.below⟩)).1
      ·
       have hb6p := of_decide_eq_false hb6
       refine sq_t hE [Rw 23 (vB (decide (id = ((7 : Nat) : Int)))) [(3, .s (inI .i64 id))], Rw 22 (vB (decide (id = ((7 : Nat) : Int)))) [(23, vB (decide (id = ((7 : Nat) : Int))))]] [(2, vP 2 0), (3, .s (inI .i64 id)), (22, vB (decide (id = ((7 : Nat) : Int))))] [(2, (.sc [(st (⟨#[]⟩)), (st (⟨#[]⟩)), (st (⟨#[]⟩)), (st (⟨#[]⟩)), (st (⟨#[]⟩))], 147))] ⟨tE fun _ => d_eqi _ _, tp, trivial⟩ ?_
       clear hE; intro γ ac wc hE
       refine cond_sx hE rfl (fun hb7 => ?_) (fun hb7 => ?_)
       ·
        have hb7p := of_decide_eq_true hb7
        refine sq_t hE [Rw 24 (.agg [(st tx30), (st tx31), (st tx32), (st tx33), (st tx34)]), Rz [(2, vP 2 0), (24, .agg [(st tx30), (st tx31), (st tx32), (st tx33), (st tx34)])] [(2, (.sc [(st (⟨#[]⟩)), (st (⟨#[]⟩)), (st (⟨#[]⟩)), (st (⟨#[]⟩)), (st (⟨#[]⟩))], 147))] [(2, (.sc [(st tx30), (st tx31), (st tx32), (st tx33), (st tx34)], 147))]] [(2, vP 2 0), (3, .s (inI .i64 id))] [(2, (.sc [(st tx30), (st tx31), (st tx32), (st tx33), (st tx34)], 147))] ⟨tp, ts sz147, trivial⟩ ?_
        clear hE; intro γ ac wc hE
        refine wp_ret ?_
        refine blk_ret ?_
        refine then_ret ?_
        exact (end1 hE rfl (.cells 2 2 0 147 147 [(st tx30), (st tx31), (st tx32), (st tx33), (st tx34)] [(st tx30), (st tx31), (st tx32), (st tx33), (st tx34)] rfl rfl ag147 (by kernel_rfl)) (⟨by rw [rowS, if_neg hb1p, if_neg hb2p, if_neg hb3p, if_neg hb4p, if_neg hb5p, if_neg hb6p, if_pos hb7p]; rfl, hE.keep.below⟩)).1
       ·
        have hb7p := of_decide_eq_false hb7
        refine sq_t hE [Rw 26 (vB (decide (id = ((8 : Nat) : Int)))) [(3, .s (inI .i64 id))], Rw 25 (vB (decide (id = ((8 : Nat) : Int)))) [(26, vB (decide (id = ((8 : Nat) : Int))))]] [(2, vP 2 0), (3, .s (inI .i64 id)), (25, vB (decide (id = ((8 : Nat) : Int))))] [(2, (.sc [(st (⟨#[]⟩)), (st (⟨#[]⟩)), (st (⟨#[]⟩)), (st (⟨#[]⟩)), (st (⟨#[]⟩))], 147))] ⟨tE fun _ => d_eqi _ _, tp, trivial⟩ ?_
        clear hE; intro γ ac wc hE
        refine cond_sx hE rfl (fun hb8 => ?_) (fun hb8 => ?_)
        ·
         have hb8p := of_decide_eq_true hb8
         refine sq_t hE [Rw 27 (.agg [(st tx36), (st tx37), (st tx38), (st tx39), (st tx40)]), Rz [(2, vP 2 0), (27, .agg [(st tx36), (st tx37), (st tx38), (st tx39), (st tx40)])] [(2, (.sc [(st (⟨#[]⟩)), (st (⟨#[]⟩)), (st (⟨#[]⟩)), (st (⟨#[]⟩)), (st (⟨#[]⟩))], 147))] [(2, (.sc [(st tx36), (st tx37), (st tx38), (st tx39), (st tx40)], 147))]] [(2, vP 2 0), (3, .s (inI .i64 id))] [(2, (.sc [(st tx36), (st tx37), (st tx38), (st tx39), (st tx40)], 147))] ⟨tp, ts sz147, trivial⟩ ?_
         clear hE; intro γ ac wc hE
         refine wp_ret ?_
         refine blk_ret ?_
         refine then_ret ?_
         exact (end1 hE rfl (.cells 2 2 0 147 147 [(st tx36), (st tx37), (st tx38), (st tx39), (st tx40)] [(st tx36), (st tx37), (st tx38), (st tx39), (st tx40)] rfl rfl ag147 (by kernel_rfl)) (⟨by rw [rowS, if_neg hb1p, if_neg hb2p, if_neg hb3p, if_neg hb4p, if_neg hb5p, if_neg hb6p, if_neg hb7p, if_pos hb8p]; rfl, hE.keep.below⟩)).1
        ·
         have hb8p := of_decide_eq_false hb8
         refine sq_t hE [Rw 29 (vB (decide (id = ((9 : Nat) : Int)))) [(3, .s (inI .i64 id))], Rw 28 (vB (decide (id = ((9 : Nat) : Int)))) [(29, vB (decide (id = ((9 : Nat) : Int))))]] [(2, vP 2 0), (3, .s (inI .i64 id)), (28, vB (decide (id = ((9 : Nat) : Int))))] [(2, (.sc [(st (⟨#[]⟩)), (st (⟨#[]⟩)), (st (⟨#[]⟩)), (st (⟨#[]⟩)), (st (⟨#[]⟩))], 147))] ⟨tE fun _ => d_eqi _ _, tp, trivial⟩ ?_
         clear hE; intro γ ac wc hE
         refine cond_sx hE rfl (fun hb9 => ?_) (fun hb9 => ?_)
         ·
          have hb9p := of_decide_eq_true hb9
          refine sq_t hE [Rw 30 (.agg [(st tx42), (st tx43), (st tx44), (st tx45), (st tx46)]), Rz [(2, vP 2 0), (30, .agg [(st tx42), (st tx43), (st tx44), (st tx45), (st tx46)])] [(2, (.sc [(st (⟨#[]⟩)), (st (⟨#[]⟩)), (st (⟨#[]⟩)), (st (⟨#[]⟩)), (st (⟨#[]⟩))], 147))] [(2, (.sc [(st tx42), (st tx43), (st tx44), (st tx45), (st tx46)], 147))]] [(2, vP 2 0), (3, .s (inI .i64 id))] [(2, (.sc [(st tx42), (st tx43), (st tx44), (st tx45), (st tx46)], 147))] ⟨tp, ts sz147, trivial⟩ ?_
          clear hE; intro γ ac wc hE
          refine wp_ret ?_
          refine blk_ret ?_
          refine then_ret ?_
          exact (end1 hE rfl (.cells 2 2 0 147 147 [(st tx42), (st tx43), (st tx44), (st tx45), (st tx46)] [(st tx42), (st tx43), (st tx44), (st tx45), (st tx46)] rfl rfl ag147 (by kernel_rfl)) (⟨by rw [rowS, if_neg hb1p, if_neg hb2p, if_neg hb3p, if_neg hb4p, if_neg hb5p, if_neg hb6p, if_neg hb7p, if_neg hb8p, if_pos hb9p]; rfl, hE.keep.below⟩)).1
         ·
          have hb9p := of_decide_eq_false hb9
          refine sq_t hE [Rw 32 (vB (decide (id = ((10 : Nat) : Int)))) [(3, .s (inI .i64 id))], Rw 31 (vB (decide (id = ((10 : Nat) : Int)))) [(32, vB (decide (id = ((10 : Nat) : Int))))]] [(2, vP 2 0), (3, .s (inI .i64 id)), (31, vB (decide (id = ((10 : Nat) : Int))))] [(2, (.sc [(st (⟨#[]⟩)), (st (⟨#[]⟩)), (st (⟨#[]⟩)), (st (⟨#[]⟩)), (st (⟨#[]⟩))], 147))] ⟨tE fun _ => d_eqi _ _, tp, trivial⟩ ?_
          clear hE; intro γ ac wc hE
          refine cond_sx hE rfl (fun hb10 => ?_) (fun hb10 => ?_)
          ·
           have hb10p := of_decide_eq_true hb10
           refine sq_t hE [Rw 33 (.agg [(st tx48), (st tx49), (st tx50), (st tx51), (st tx52)]), Rz [(2, vP 2 0), (33, .agg [(st tx48), (st tx49), (st tx50), (st tx51), (st tx52)])] [(2, (.sc [(st (⟨#[]⟩)), (st (⟨#[]⟩)), (st (⟨#[]⟩)), (st (⟨#[]⟩)), (st (⟨#[]⟩))], 147))] [(2, (.sc [(st tx48), (st tx49), (st tx50), (st tx51), (st tx52)], 147))]] [(2, vP 2 0), (3, .s (inI .i64 id))] [(2, (.sc [(st tx48), (st tx49), (st tx50), (st tx51), (st tx52)], 147))] ⟨tp, ts sz147, trivial⟩ ?_
           clear hE; intro γ ac wc hE
           refine wp_ret ?_
           refine blk_ret ?_
           refine then_ret ?_
           exact (end1 hE rfl (.cells 2 2 0 147 147 [(st tx48), (st tx49), (st tx50), (st tx51), (st tx52)] [(st tx48), (st tx49), (st tx50), (st tx51), (st tx52)] rfl rfl ag147 (by kernel_rfl)) (⟨by rw [rowS, if_neg hb1p, if_neg hb2p, if_neg hb3p, if_neg hb4p, if_neg hb5p, if_neg hb6p, if_neg hb7p, if_neg hb8p, if_neg hb9p, if_pos hb10p]; rfl, hE.keep.below⟩)).1
          ·
           have hb10p := of_decide_eq_false hb10
           refine sq_t hE [Rw 35 (vB (decide (id = ((11 : Nat) : Int)))) [(3, .s (inI .i64 id))], Rw 34 (vB (decide (id = ((11 : Nat) : Int)))) [(35, vB (decide (id = ((11 : Nat) : Int))))]] [(2, vP 2 0), (3, .s (inI .i64 id)), (34, vB (decide (id = ((11 : Nat) : Int))))] [(2, (.sc [(st (⟨#[]⟩)), (st (⟨#[]⟩)), (st (⟨#[]⟩)), (st (⟨#[]⟩)), (st (⟨#[]⟩))], 147))] ⟨tE fun _ => d_eqi _ _, tp, trivial⟩ ?_
           clear hE; intro γ ac wc hE
           refine cond_sx hE rfl (fun hb11 => ?_) (fun hb11 => ?_)
           ·
            have hb11p := of_decide_eq_true hb11
            refine sq_t hE [Rw 36 (.agg [(st tx54), (st tx55), (st tx56), (st tx57), (st tx58)]), Rz [(2, vP 2 0), (36, .agg [(st tx54), (st tx55), (st tx56), (st tx57), (st tx58)])] [(2, (.sc [(st (⟨#[]⟩)), (st (⟨#[]⟩)), (st (⟨#[]⟩)), (st (⟨#[]⟩)), (st (⟨#[]⟩))], 147))] [(2, (.sc [(st tx54), (st tx55), (st tx56), (st tx57), (st tx58)], 147))]] [(2, vP 2 0), (3, .s (inI .i64 id))] [(2, (.sc [(st tx54), (st tx55), (st tx56), (st tx57), (st tx58)], 147))] ⟨tp, ts sz147, trivial⟩ ?_
            clear hE; intro γ ac wc hE
            refine wp_ret ?_
            refine blk_ret ?_
            refine then_ret ?_
            exact (end1 hE rfl (.cells 2 2 0 147 147 [(st tx54), (st tx55), (st tx56), (st tx57), (st tx58)] [(st tx54), (st tx55), (st tx56), (st tx57), (st tx58)] rfl rfl ag147 (by kernel_rfl)) (⟨by rw [rowS, if_neg hb1p, if_neg hb2p, if_neg hb3p, if_neg hb4p, if_neg hb5p, if_neg hb6p, if_neg hb7p, if_neg hb8p, if_neg hb9p, if_neg hb10p, if_pos hb11p]; rfl, hE.keep.below⟩)).1
           ·
            have hb11p := of_decide_eq_false hb11
            refine sq_t hE [Rw 38 (vB (decide (id = ((12 : Nat) : Int)))) [(3, .s (inI .i64 id))], Rw 37 (vB (decide (id = ((12 : Nat) : Int)))) [(38, vB (decide (id = ((12 : Nat) : Int))))]] [(2, vP 2 0), (3, .s (inI .i64 id)), (37, vB (decide (id = ((12 : Nat) : Int))))] [(2, (.sc [(st (⟨#[]⟩)), (st (⟨#[]⟩)), (st (⟨#[]⟩)), (st (⟨#[]⟩)), (st (⟨#[]⟩))], 147))] ⟨tE fun _ => d_eqi _ _, tp, trivial⟩ ?_
            clear hE; intro γ ac wc hE
            refine cond_sx hE rfl (fun hb12 => ?_) (fun hb12 => ?_)
            ·
             have hb12p := of_decide_eq_true hb12
             refine sq_t hE [Rw 39 (.agg [(st tx60), (st tx61), (st tx62), (st tx63), (st tx64)]), Rz [(2, vP 2 0), (39, .agg [(st tx60), (st tx61), (st tx62), (st tx63), (st tx64)])] [(2, (.sc [(st (⟨#[]⟩)), (st (⟨#[]⟩)), (st (⟨#[]⟩)), (st (⟨#[]⟩)), (st (⟨#[]⟩))], 147))] [(2, (.sc [(st tx60), (st tx61), (st tx62), (st tx63), (st tx64)], 147))]] [(2, vP 2 0), (3, .s (inI .i64 id))] [(2, (.sc [(st tx60), (st tx61), (st tx62), (st tx63), (st tx64)], 147))] ⟨tp, ts sz147, trivial⟩ ?_
             clear hE; intro γ ac wc hE
             refine wp_ret ?_
             refine blk_ret ?_
             refine then_ret ?_
             exact (end1 hE rfl (.cells 2 2 0 147 147 [(st tx60), (st tx61), (st tx62), (st tx63), (st tx64)] [(st tx60), (st tx61), (st tx62), (st tx63), (st tx64)] rfl rfl ag147 (by kernel_rfl)) (⟨by rw [rowS, if_neg hb1p, if_neg hb2p, if_neg hb3p, if_neg hb4p, if_neg hb5p, if_neg hb6p, if_neg hb7p, if_neg hb8p, if_neg hb9p, if_neg hb10p, if_neg hb11p, if_pos hb12p]; rfl, hE.keep.below⟩)).1
            ·
             have hb12p := of_decide_eq_false hb12
             refine sq_t hE [Rw 41 (vB (decide (id = ((13 : Nat) : Int)))) [(3, .s (inI .i64 id))], Rw 40 (vB (decide (id = ((13 : Nat) : Int)))) [(41, vB (decide (id = ((13 : Nat) : Int))))]] [(2, vP 2 0), (3, .s (inI .i64 id)), (40, vB (decide (id = ((13 : Nat) : Int))))] [(2, (.sc [(st (⟨#[]⟩)), (st (⟨#[]⟩)), (st (⟨#[]⟩)), (st (⟨#[]⟩)), (st (⟨#[]⟩))], 147))] ⟨tE fun _ => d_eqi _ _, tp, trivial⟩ ?_
             clear hE; intro γ ac wc hE
             refine cond_sx hE rfl (fun hb13 => ?_) (fun hb13 => ?_)
             ·
              have hb13p := of_decide_eq_true hb13
              refine sq_t hE [Rw 42 (.agg [(st (⟨#[45, 51]⟩)), (st (⟨#[49, 97]⟩)), (st (⟨#[100, 102]⟩)), (st (⟨#[50]⟩)), (st (⟨#[53, 52]⟩))]), Rz [(2, vP 2 0), (42, .agg [(st (⟨#[45, 51]⟩)), (st (⟨#[49, 97]⟩)), (st (⟨#[100, 102]⟩)), (st (⟨#[50]⟩)), (st (⟨#[53, 52]⟩))])] [(2, (.sc [(st (⟨#[]⟩)), (st (⟨#[]⟩)), (st (⟨#[]⟩)), (st (⟨#[]⟩)), (st (⟨#[]⟩))], 147))] [(2, (.sc [(st (⟨#[45, 51]⟩)), (st (⟨#[49, 97]⟩)), (st (⟨#[100, 102]⟩)), (st (⟨#[50]⟩)), (st (⟨#[53, 52]⟩))], 147))]] [(2, vP 2 0), (3, .s (inI .i64 id))] [(2, (.sc [(st (⟨#[45, 51]⟩)), (st (⟨#[49, 97]⟩)), (st (⟨#[100, 102]⟩)), (st (⟨#[50]⟩)), (st (⟨#[53, 52]⟩))], 147))] ⟨tp, ts sz147, trivial⟩ ?_
              clear hE; intro γ ac wc hE
              refine wp_ret ?_
              refine blk_ret ?_
              refine then_ret ?_
              exact (end1 hE rfl (.cells 2 2 0 147 147 [(st (⟨#[45, 51]⟩)), (st (⟨#[49, 97]⟩)), (st (⟨#[100, 102]⟩)), (st (⟨#[50]⟩)), (st (⟨#[53, 52]⟩))] [(st (⟨#[45, 51]⟩)), (st (⟨#[49, 97]⟩)), (st (⟨#[100, 102]⟩)), (st (⟨#[50]⟩)), (st (⟨#[53, 52]⟩))] rfl rfl ag147 (by kernel_rfl)) (⟨by rw [rowS, if_neg hb1p, if_neg hb2p, if_neg hb3p, if_neg hb4p, if_neg hb5p, if_neg hb6p, if_neg hb7p, if_neg hb8p, if_neg hb9p, if_neg hb10p, if_neg hb11p, if_neg hb12p, if_pos hb13p]; rfl, hE.keep.below⟩)).1
             ·
              have hb13p := of_decide_eq_false hb13
              refine sq_t hE [Rw 44 (vB (decide (id = ((14 : Nat) : Int)))) [(3, .s (inI .i64 id))], Rw 43 (vB (decide (id = ((14 : Nat) : Int)))) [(44, vB (decide (id = ((14 : Nat) : Int))))]] [(2, vP 2 0), (3, .s (inI .i64 id)), (43, vB (decide (id = ((14 : Nat) : Int))))] [(2, (.sc [(st (⟨#[]⟩)), (st (⟨#[]⟩)), (st (⟨#[]⟩)), (st (⟨#[]⟩)), (st (⟨#[]⟩))], 147))] ⟨tE fun _ => d_eqi _ _, tp, trivial⟩ ?_
              clear hE; intro γ ac wc hE
              refine cond_sx hE rfl (fun hb14 => ?_) (fun hb14 => ?_)
              ·
               have hb14p := of_decide_eq_true hb14
               refine sq_t hE [Rw 45 (.agg [(st (⟨#[48]⟩)), (st (⟨#[100]⟩)), (st (⟨#[100, 51]⟩)), (st (⟨#[51]⟩)), (st (⟨#[50, 102]⟩))]), Rz [(2, vP 2 0), (45, .agg [(st (⟨#[48]⟩)), (st (⟨#[100]⟩)), (st (⟨#[100, 51]⟩)), (st (⟨#[51]⟩)), (st (⟨#[50, 102]⟩))])] [(2, (.sc [(st (⟨#[]⟩)), (st (⟨#[]⟩)), (st (⟨#[]⟩)), (st (⟨#[]⟩)), (st (⟨#[]⟩))], 147))] [(2, (.sc [(st (⟨#[48]⟩)), (st (⟨#[100]⟩)), (st (⟨#[100, 51]⟩)), (st (⟨#[51]⟩)), (st (⟨#[50, 102]⟩))], 147))]] [(2, vP 2 0), (3, .s (inI .i64 id))] [(2, (.sc [(st (⟨#[48]⟩)), (st (⟨#[100]⟩)), (st (⟨#[100, 51]⟩)), (st (⟨#[51]⟩)), (st (⟨#[50, 102]⟩))], 147))] ⟨tp, ts sz147, trivial⟩ ?_
               clear hE; intro γ ac wc hE
               refine wp_ret ?_
               refine blk_ret ?_
               refine then_ret ?_
               exact (end1 hE rfl (.cells 2 2 0 147 147 [(st (⟨#[48]⟩)), (st (⟨#[100]⟩)), (st (⟨#[100, 51]⟩)), (st (⟨#[51]⟩)), (st (⟨#[50, 102]⟩))] [(st (⟨#[48]⟩)), (st (⟨#[100]⟩)), (st (⟨#[100, 51]⟩)), (st (⟨#[51]⟩)), (st (⟨#[50, 102]⟩))] rfl rfl ag147 (by kernel_rfl)) (⟨by rw [rowS, if_neg hb1p, if_neg hb2p, if_neg hb3p, if_neg hb4p, if_neg hb5p, if_neg hb6p, if_neg hb7p, if_neg hb8p, if_neg hb9p, if_neg hb10p, if_neg hb11p, if_neg hb12p, if_neg hb13p, if_pos hb14p]; rfl, hE.keep.below⟩)).1
              ·
               have hb14p := of_decide_eq_false hb14
               refine sq_t hE [Rw 47 (vB (decide (id = ((15 : Nat) : Int)))) [(3, .s (inI .i64 id))], Rw 46 (vB (decide (id = ((15 : Nat) : Int)))) [(47, vB (decide (id = ((15 : Nat) : Int))))]] [(2, vP 2 0), (3, .s (inI .i64 id)), (46, vB (decide (id = ((15 : Nat) : Int))))] [(2, (.sc [(st (⟨#[]⟩)), (st (⟨#[]⟩)), (st (⟨#[]⟩)), (st (⟨#[]⟩)), (st (⟨#[]⟩))], 147))] ⟨tE fun _ => d_eqi _ _, tp, trivial⟩ ?_
               clear hE; intro γ ac wc hE
               refine cond_sx hE rfl (fun hb15 => ?_) (fun hb15 => ?_)
               ·
                have hb15p := of_decide_eq_true hb15
                refine sq_t hE [Rw 48 (.agg [(st (⟨#[55, 53]⟩)), (st (⟨#[56]⟩)), (st (⟨#[101, 53]⟩)), (st (⟨#[48]⟩)), (st (⟨#[50, 57]⟩))]), Rz [(2, vP 2 0), (48, .agg [(st (⟨#[55, 53]⟩)), (st (⟨#[56]⟩)), (st (⟨#[101, 53]⟩)), (st (⟨#[48]⟩)), (st (⟨#[50, 57]⟩))])] [(2, (.sc [(st (⟨#[]⟩)), (st (⟨#[]⟩)), (st (⟨#[]⟩)), (st (⟨#[]⟩)), (st (⟨#[]⟩))], 147))] [(2, (.sc [(st (⟨#[55, 53]⟩)), (st (⟨#[56]⟩)), (st (⟨#[101, 53]⟩)), (st (⟨#[48]⟩)), (st (⟨#[50, 57]⟩))], 147))]] [(2, vP 2 0), (3, .s (inI .i64 id))] [(2, (.sc [(st (⟨#[55, 53]⟩)), (st (⟨#[56]⟩)), (st (⟨#[101, 53]⟩)), (st (⟨#[48]⟩)), (st (⟨#[50, 57]⟩))], 147))] ⟨tp, ts sz147, trivial⟩ ?_
                clear hE; intro γ ac wc hE
                refine wp_ret ?_
                refine blk_ret ?_
                refine then_ret ?_
                exact (end1 hE rfl (.cells 2 2 0 147 147 [(st (⟨#[55, 53]⟩)), (st (⟨#[56]⟩)), (st (⟨#[101, 53]⟩)), (st (⟨#[48]⟩)), (st (⟨#[50, 57]⟩))] [(st (⟨#[55, 53]⟩)), (st (⟨#[56]⟩)), (st (⟨#[101, 53]⟩)), (st (⟨#[48]⟩)), (st (⟨#[50, 57]⟩))] rfl rfl ag147 (by kernel_rfl)) (⟨by rw [rowS, if_neg hb1p, if_neg hb2p, if_neg hb3p, if_neg hb4p, if_neg hb5p, if_neg hb6p, if_neg hb7p, if_neg hb8p, if_neg hb9p, if_neg hb10p, if_neg hb11p, if_neg hb12p, if_neg hb13p, if_neg hb14p, if_pos hb15p]; rfl, hE.keep.below⟩)).1
               ·
                have hb15p := of_decide_eq_false hb15
                refine wp_skip ?_
                refine blk_normal ?_
                refine then_normal ?_
                refine sq_t hE [Rw 49 (.agg [(st (⟨#[]⟩)), (st (⟨#[]⟩)), (st (⟨#[]⟩)), (st (⟨#[]⟩)), (st (⟨#[]⟩))]), Rz [(2, vP 2 0), (49, .agg [(st (⟨#[]⟩)), (st (⟨#[]⟩)), (st (⟨#[]⟩)), (st (⟨#[]⟩)), (st (⟨#[]⟩))])] [(2, (.sc [(st (⟨#[]⟩)), (st (⟨#[]⟩)), (st (⟨#[]⟩)), (st (⟨#[]⟩)), (st (⟨#[]⟩))], 147))] [(2, (.sc [(st (⟨#[]⟩)), (st (⟨#[]⟩)), (st (⟨#[]⟩)), (st (⟨#[]⟩)), (st (⟨#[]⟩))], 147))]] [(2, vP 2 0), (3, .s (inI .i64 id))] [(2, (.sc [(st (⟨#[]⟩)), (st (⟨#[]⟩)), (st (⟨#[]⟩)), (st (⟨#[]⟩)), (st (⟨#[]⟩))], 147))] ⟨tp, ts sz147, trivial⟩ ?_
                clear hE; intro γ ac wc hE
                refine wp_ret ?_
                exact (end1 hE rfl (.cells 2 2 0 147 147 [(st (⟨#[]⟩)), (st (⟨#[]⟩)), (st (⟨#[]⟩)), (st (⟨#[]⟩)), (st (⟨#[]⟩))] [(st (⟨#[]⟩)), (st (⟨#[]⟩)), (st (⟨#[]⟩)), (st (⟨#[]⟩)), (st (⟨#[]⟩))] rfl rfl ag147 (by kernel_rfl)) (⟨by rw [rowS, if_neg hb1p, if_neg hb2p, if_neg hb3p, if_neg hb4p, if_neg hb5p, if_neg hb6p, if_neg hb7p, if_neg hb8p, if_neg hb9p, if_neg hb10p, if_neg hb11p, if_neg hb12p, if_neg hb13p, if_neg hb14p, if_neg hb15p]; rfl, hE.keep.below⟩)).1
end Go.Proofs.Ytddfimfgcfgpbaa
