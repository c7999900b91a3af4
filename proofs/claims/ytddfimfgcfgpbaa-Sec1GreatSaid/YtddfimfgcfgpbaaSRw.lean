/-
  The document's curves: digit, Hex.
-/
import Derived.Test.YtddfimfgcfgpbaaSTf
import Derived.Test.YtddfimfgcfgpbaaSXf
import Derived.Test.YtddfimfgcfgpbaaSWp
namespace Go.Proofs.Ytddfimfgcfgpbaa
open Sx
open Go.RowKit (Below)
set_option exponentiation.threshold 2000
def hexr (c : Nat) : Nat := if 97 ≤ c then (c + (256 - 97)) % 256 + 10 else (c + (256 - 48)) % 256
def hexM (s : ByteArray) : Nat → Nat
  | 0 => 0
  | i + 1 => set32 (hexM s i) ((s.size - 1 - i) / 8) (dg32 (hexM s i) ((s.size - 1 - i) / 8) ||| hexr (byt s i) * 2 ^ ((s.size - 1 - i) % 8 * 4) % 4294967296)
def hexR (s : ByteArray) : Nat := hexM s s.size
theorem or_lt32 {a b : Nat} (ha : a < 4294967296) (hb : b < 4294967296) : a ||| b < 4294967296 := Nat.or_lt_two_pow (n := 32) ha hb
theorem hexM_lt (s : ByteArray) : ∀ i, i ≤ s.size → hexM s i < 2 ^ (32 * (s.size / 8 + 1))
  | 0, _ => Nat.pow_pos (by decide)
  | i + 1, h => set32_lt (hexM_lt s i (by omega)) (or_lt32 (dg32_lt _ _) (Nat.mod_lt _ (by decide))) (by omega)
theorem r13_digit (c : Nat) (hc : c < 256) (w0 : World) : Calls Try.prog 98 #[.int .u8 (c : Int)] w0 fun e w => e = .returned (.int .u32 (hexr c : Nat)) ∧ Below w0.heap.size w0 w := by
 refine enter_sx [(0, .s (inN .u8 c))] 12 Try.func98 rfl rfl (Nat.le_of_ble_eq_true (by kernel_rfl)) (fun γ => by kernel_rfl) ?_
 intro γ ac hE
 refine sq_t hE [Rw 2 (.s (inN .u32 0))] [(0, .s (inN .u8 c)), (2, .s (inN .u32 0))] [] ⟨tp, trivial⟩ ?_
 clear hE; intro γ ac wc hE
 refine wp_seq ?_
 refine sq_t hE [Rw 3 (.s (inN .u8 c)) [(0, .s (inN .u8 c))], Rw 4 (vB (decide (97 ≤ c))) [(3, .s (inN .u8 c))]] [(0, .s (inN .u8 c)), (2, .s (inN .u32 0)), (4, vB (decide (97 ≤ c)))] [] ⟨tp, tE fun _ => d_geq _ _, trivial⟩ ?_
 clear hE; intro γ ac wc hE
 refine cond_sx hE rfl (fun hb1 => ?_) (fun hb1 => ?_)
 ·
  have hb1p := of_decide_eq_true hb1
  refine sq_t hE [Rw 5 (.s (inN .u8 c)) [(0, .s (inN .u8 c))], Rw 6 (.s (inN .u8 ((c + (256 - 97)) % 256))) [(5, .s (inN .u8 c))], Rw 7 (.s (inN .u32 ((c + (256 - 97)) % 256))) [(6, .s (inN .u8 ((c + (256 - 97)) % 256)))], Rw 8 (.s (inN .u32 (((c + (256 - 97)) % 256) + 10))) [(7, .s (inN .u32 ((c + (256 - 97)) % 256)))], Rw 2 (.s (inN .u32 (((c + (256 - 97)) % 256) + 10))) [(8, .s (inN .u32 (((c + (256 - 97)) % 256) + 10)))]] [(0, .s (inN .u8 c)), (2, .s (inN .u32 (((c + (256 - 97)) % 256) + 10)))] [] ⟨tp, tE fun _ => wu8_sub _ _ (by omega), tE fun _ => wr_u32 rfl (by omega), tE fun _ => wu32_add, tp, trivial⟩ ?_
  clear hE; intro γ ac wc hE
  refine wp_ret ?_
  refine then_ret ?_
  exact (end1 hE rfl (.tmp 2 (.s (inN .u32 (((c + (256 - 97)) % 256) + 10))) rfl) (⟨by rw [hexr, if_pos hb1p]; rfl, hE.keep.below⟩)).1
 ·
  have hb1p := of_decide_eq_false hb1
  refine wp_skip ?_
  refine then_normal ?_
  refine sq_t hE [Rw 9 (.s (inN .u8 c)) [(0, .s (inN .u8 c))], Rw 10 (.s (inN .u8 ((c + (256 - 48)) % 256))) [(9, .s (inN .u8 c))], Rw 11 (.s (inN .u32 ((c + (256 - 48)) % 256))) [(10, .s (inN .u8 ((c + (256 - 48)) % 256)))], Rw 2 (.s (inN .u32 ((c + (256 - 48)) % 256))) [(11, .s (inN .u32 ((c + (256 - 48)) % 256)))]] [(0, .s (inN .u8 c)), (2, .s (inN .u32 ((c + (256 - 48)) % 256)))] [] ⟨tp, tE fun _ => wu8_sub _ _ (by omega), tE fun _ => wr_u32 rfl (by omega), tp, trivial⟩ ?_
  clear hE; intro γ ac wc hE
  refine wp_ret ?_
  exact (end1 hE rfl (.tmp 2 (.s (inN .u32 ((c + (256 - 48)) % 256))) rfl) (⟨by rw [hexr, if_neg hb1p]; rfl, hE.keep.below⟩)).1
theorem r13_Hex (s : ByteArray) (hs : s.size ≤ 144) (w0 : World) : Calls Try.prog 69 #[.string s] w0 (NRet w0 [] [hexR s] fun f => dec (f 0)) := by
 refine enter_n [] [(0, .s (st s))] Try.func69 rfl rfl trivial ?_
 intro γ ac hE
 refine sq_t hE [Rw 2 (.s (.v (.slice none 0 0)))] [(0, .s (st s)), (2, .s (.v (.slice none 0 0)))] [] ⟨tp, trivial⟩ ?_
 clear hE; intro γ ac wc hE
 refine sq_t hE [Rw 6 (.s (st s)) [(0, .s (st s))], Rw 7 (vI s.size) [(6, .s (st s))], Rw 8 (vI (s.size / 8)) [(7, vI s.size)], Rw 9 (vI ((s.size / 8) + 1)) [(8, vI (s.size / 8))], Rw 10 (.s (.sl 10 0 ((s.size / 8) + 1) ((s.size / 8) + 1))) [(9, vI ((s.size / 8) + 1))] [] [(10, (.pl (Vn ((s.size / 8) + 1) 0), 81))], Rw 3 (.s (.sl 10 0 ((s.size / 8) + 1) ((s.size / 8) + 1))) [(10, .s (.sl 10 0 ((s.size / 8) + 1) ((s.size / 8) + 1)))]] [(0, .s (st s)), (2, .s (.v (.slice none 0 0))), (3, .s (.sl 10 0 ((s.size / 8) + 1) ((s.size / 8) + 1)))] [(10, (.pl (Vn ((s.size / 8) + 1) 0), 81))] ⟨tp, tp, t_quo_i64, tE fun _ => wi_add, tmk mk25, tp, trivial⟩ ?_
 clear hE; intro γ ac wc hE
 refine wp_seq ?_
 refine sq_t hE [Rw 4 (vI 0)] [(0, .s (st s)), (2, .s (.v (.slice none 0 0))), (3, .s (.sl 10 0 ((s.size / 8) + 1) ((s.size / 8) + 1))), (4, vI 0)] [(10, (.pl (Vn ((s.size / 8) + 1) 0), 81))] ⟨tp, trivial⟩ ?_
 clear hE; intro γ ac wc hE
 refine wp_block ?_
 refine loop_sx (σ := Nat) (fun i => s.size - i) (fun i => i ≤ s.size)
     (fun i => [(0, .s (st s)), (2, .s (.v (.slice none 0 0))), (3, .s (.sl 10 0 ((s.size / 8) + 1) ((s.size / 8) + 1))), (4, vI i)])
     (fun i => [(10, (.pl (Vn (s.size / 8 + 1) (hexM s i)), 81))])
     (0) (by omega) (hE.sub (by kernel_rfl) (by kernel_rfl)) ?_
 clear hE; intro i γ ac wc hG hE
 refine wp_seq ?_
 refine sq_t hE [Rw 11 (vI i) [(4, vI i)], Rw 12 (.s (st s)) [(0, .s (st s))], Rw 13 (vI s.size) [(12, .s (st s))], Rw 14 (vB (decide (i < s.size))) [(11, vI i), (13, vI s.size)]] [(0, .s (st s)), (2, .s (.v (.slice none 0 0))), (3, .s (.sl 10 0 ((s.size / 8) + 1) ((s.size / 8) + 1))), (4, vI i), (14, vB (decide (i < s.size)))] [(10, (.pl (Vn (s.size / 8 + 1) (hexM s i)), 81))] ⟨tp, tp, tp, tE fun _ => d_lss _ _, trivial⟩ ?_
 clear hE; intro γ ac wc hE
 refine cond_sx hE rfl (fun hb1 => ?_) (fun hb1 => ?_)
 ·
  have hb1p := of_decide_eq_true hb1
  refine wp_skip ?_
  refine then_normal ?_
  refine wp_seq ?_
  refine wp_block ?_
  refine sq_t hE [Rw 17 (.s (st s)) [(0, .s (st s))], Rw 18 (vI s.size) [(17, .s (st s))], Rw 19 (vI (s.size - 1)) [(18, vI s.size)], Rw 20 (vI i) [(4, vI i)], Rw 21 (vI ((s.size - 1) - i)) [(19, vI (s.size - 1)), (20, vI i)], Rw 5 (vI ((s.size - 1) - i)) [(21, vI ((s.size - 1) - i))]] [(0, .s (st s)), (2, .s (.v (.slice none 0 0))), (3, .s (.sl 10 0 ((s.size / 8) + 1) ((s.size / 8) + 1))), (4, vI i), (5, vI ((s.size - 1) - i))] [(10, (.pl (Vn (s.size / 8 + 1) (hexM s i)), 81))] ⟨tp, tp, tE fun _ => wi_sub, tp, tE fun _ => wi_sub, tp, trivial⟩ ?_
  clear hE; intro γ ac wc hE
  refine rg_d hE [Rw 22 (.s (.sl 10 0 ((s.size / 8) + 1) ((s.size / 8) + 1))) [(3, .s (.sl 10 0 ((s.size / 8) + 1) ((s.size / 8) + 1)))], Rw 23 (vI ((s.size - 1) - i)) [(5, vI ((s.size - 1) - i))], Rw 24 (vI (((s.size - 1) - i) / 8)) [(23, vI ((s.size - 1) - i))], Rw 25 (.s (.sl 10 0 ((s.size / 8) + 1) ((s.size / 8) + 1))) [(3, .s (.sl 10 0 ((s.size / 8) + 1) ((s.size / 8) + 1)))], Rw 26 (vI ((s.size - 1) - i)) [(5, vI ((s.size - 1) - i))], Rw 27 (vI (((s.size - 1) - i) / 8)) [(26, vI ((s.size - 1) - i))], Rw 28 (vP 10 (((s.size - 1) - i) / 8)) [(25, .s (.sl 10 0 ((s.size / 8) + 1) ((s.size / 8) + 1))), (27, vI (((s.size - 1) - i) / 8))], Rw 29 (.s (inN .u32 (dg32 (hexM s i) (((s.size - 1) - i) / 8)))) [(28, vP 10 (((s.size - 1) - i) / 8))] [(10, (.pl (Vn (s.size / 8 + 1) (hexM s i)), 81))], Rw 30 (.s (st s)) [(0, .s (st s))], Rw 31 (vI i) [(4, vI i)], Rw 32 (.s (inN .u8 (byt s i))) [(30, .s (st s)), (31, vI i)], Rw 33 (.s (inN .u32 (hexr (byt s i)))) [(32, .s (inN .u8 (byt s i)))], Rw 34 (vI ((s.size - 1) - i)) [(5, vI ((s.size - 1) - i))], Rw 35 (vI (((s.size - 1) - i) % 8)) [(34, vI ((s.size - 1) - i))], Rw 36 (vI ((((s.size - 1) - i) % 8) * 4)) [(35, vI (((s.size - 1) - i) % 8))], Rw 37 (.s (inN .u32 ((hexr (byt s i)) * 2 ^ ((((s.size - 1) - i) % 8) * 4) % 4294967296))) [(33, .s (inN .u32 (hexr (byt s i)))), (36, vI ((((s.size - 1) - i) % 8) * 4))], Rw 38 (.s (inN .u32 ((dg32 (hexM s i) (((s.size - 1) - i) / 8)) ||| ((hexr (byt s i)) * 2 ^ ((((s.size - 1) - i) % 8) * 4) % 4294967296)))) [(29, .s (inN .u32 (dg32 (hexM s i) (((s.size - 1) - i) / 8)))), (37, .s (inN .u32 ((hexr (byt s i)) * 2 ^ ((((s.size - 1) - i) % 8) * 4) % 4294967296)))], Rw 39 (vP 10 (((s.size - 1) - i) / 8)) [(22, .s (.sl 10 0 ((s.size / 8) + 1) ((s.size / 8) + 1))), (24, vI (((s.size - 1) - i) / 8))], Rz [(39, vP 10 (((s.size - 1) - i) / 8)), (38, .s (inN .u32 ((dg32 (hexM s i) (((s.size - 1) - i) / 8)) ||| ((hexr (byt s i)) * 2 ^ ((((s.size - 1) - i) % 8) * 4) % 4294967296))))] [(10, (.pl (Vn (s.size / 8 + 1) (hexM s i)), 81))] [(10, (.pl (Vn (s.size / 8 + 1) (set32 (hexM s i) (((s.size - 1) - i) / 8) ((dg32 (hexM s i) (((s.size - 1) - i) / 8)) ||| ((hexr (byt s i)) * 2 ^ ((((s.size - 1) - i) % 8) * 4) % 4294967296)))), 81))]] [(0, .s (st s)), (2, .s (.v (.slice none 0 0))), (3, .s (.sl 10 0 ((s.size / 8) + 1) ((s.size / 8) + 1))), (4, vI i)] [(10, (.pl (Vn (s.size / 8 + 1) (set32 (hexM s i) (((s.size - 1) - i) / 8) ((dg32 (hexM s i) (((s.size - 1) - i) / 8)) ||| ((hexr (byt s i)) * 2 ^ ((((s.size - 1) - i) % 8) * 4) % 4294967296)))), 81))] ⟨tp, tp, t_quo_i64, tp, tp, t_quo_i64, txs sl25, tlv on81, tp, tp, tix str9, tq fun w => r13_digit (byt s i) (byt_lt _ _) w, tp, t_rem_i64, tE fun _ => wi_mul, t_shl_u32, t_or_u32 (ha := (dg32_lt _ _)) (hb := (Nat.mod_lt _ (by decide))), txs sl25, tsv sz81 (hd32 := (or_lt32 (dg32_lt _ _) (Nat.mod_lt _ (by decide)))), trivial⟩ ?_
  clear hE; intro γ ac wc hE
  refine blk_normal ?_
  refine then_normal ?_
  refine rg_t hE [Rw 15 (vI i) [(4, vI i)], Rw 16 (vI (i + 1)) [(15, vI i)], Rw 4 (vI (i + 1)) [(16, vI (i + 1))]] [(0, .s (st s)), (2, .s (.v (.slice none 0 0))), (3, .s (.sl 10 0 ((s.size / 8) + 1) ((s.size / 8) + 1))), (4, vI (i + 1))] [(10, (.pl (Vn (s.size / 8 + 1) (set32 (hexM s i) (((s.size - 1) - i) / 8) ((dg32 (hexM s i) (((s.size - 1) - i) / 8)) ||| ((hexr (byt s i)) * 2 ^ ((((s.size - 1) - i) % 8) * 4) % 4294967296)))), 81))] ⟨tp, tE fun _ => wi_add, tp, trivial⟩ ?_
  clear hE; intro γ ac wc hE
  refine then_normal ⟨i + 1, by omega, by omega, _, hE.sub (by kernel_rfl) (by kernel_rfl)⟩
 ·
  have hb1p := of_decide_eq_false hb1
  refine wp_exit ?_
  refine then_exit ?_
  refine then_exit ?_
  refine blk_hit ?_
  refine then_normal ?_
  refine sq_t hE [Rw 40 (.s (.sl 10 0 ((s.size / 8) + 1) ((s.size / 8) + 1))) [(3, .s (.sl 10 0 ((s.size / 8) + 1) ((s.size / 8) + 1)))], Rw 41 (vM 41) [(40, .s (.sl 10 0 ((s.size / 8) + 1) ((s.size / 8) + 1)))] [(10, (.pl (Vn (s.size / 8 + 1) (hexM s i)), 81))] [(41, (.abs (numA (hexM s i)), 0))] [(10, (.gone, 0))], Rw 2 (vM 41) [(41, vM 41)]] [(0, .s (st s)), (2, vM 41), (3, .s (.sl 10 0 ((s.size / 8) + 1) ((s.size / 8) + 1))), (4, vI i)] [(41, (.abs (numA (hexM s i)), 0))] ⟨tp, tshr0 (m := (s.size / 8) + 1) (hlt := (hexM_lt s i hG)), tp, trivial⟩ ?_
  clear hE; intro γ ac wc hE
  refine wp_ret ?_
  have hi : i = s.size := by omega
  exact (end1 hE rfl (.tmp 2 (vM 41) rfl) (by rw [hexR, ← hi]; exact nret hE [(41, hexM s i)])).1
end Go.Proofs.Ytddfimfgcfgpbaa
