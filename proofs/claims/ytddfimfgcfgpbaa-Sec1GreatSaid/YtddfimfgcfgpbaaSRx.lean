/-
  The document's curves: their rows.
-/
import Derived.Test.YtddfimfgcfgpbaaSTf
import Derived.Test.YtddfimfgcfgpbaaSRw
import Derived.Test.YtddfimfgcfgpbaaSFd
namespace Go.Proofs.Ytddfimfgcfgpbaa
open Sx
open Go.RowKit (Below)
set_option exponentiation.threshold 2000
def rowR (id : Int) : ByteArray × ByteArray × ByteArray × ByteArray × ByteArray × ByteArray := if id = ((1 : Nat) : Int) then (tx0, ⟨#[45]⟩, tx1, tx2, tx3, tx4) else if id = ((2 : Nat) : Int) then (tx5, ⟨#[45]⟩, tx6, tx7, tx8, tx9) else if id = ((3 : Nat) : Int) then (tx10, ⟨#[45]⟩, tx11, tx12, tx13, tx14) else if id = ((4 : Nat) : Int) then (tx15, ⟨#[45]⟩, tx16, tx17, tx18, tx19) else if id = ((5 : Nat) : Int) then (tx20, ⟨#[45]⟩, tx21, tx22, tx23, tx24) else if id = ((6 : Nat) : Int) then (tx25, ⟨#[48]⟩, ⟨#[55]⟩, tx26, tx27, tx28) else if id = ((7 : Nat) : Int) then (tx29, tx30, tx31, tx32, tx33, tx34) else if id = ((8 : Nat) : Int) then (tx35, tx36, tx37, tx38, tx39, tx40) else if id = ((9 : Nat) : Int) then (tx41, tx42, tx43, tx44, tx45, tx46) else if id = ((10 : Nat) : Int) then (tx47, tx48, tx49, tx50, tx51, tx52) else if id = ((11 : Nat) : Int) then (tx53, tx54, tx55, tx56, tx57, tx58) else if id = ((12 : Nat) : Int) then (tx59, tx60, tx61, tx62, tx63, tx64) else if id = ((13 : Nat) : Int) then (⟨#[102, 98]⟩, ⟨#[45]⟩, ⟨#[49, 97]⟩, ⟨#[100, 102]⟩, ⟨#[50]⟩, ⟨#[53, 52]⟩) else if id = ((14 : Nat) : Int) then (⟨#[102, 49]⟩, ⟨#[48]⟩, ⟨#[100]⟩, ⟨#[100, 51]⟩, ⟨#[51]⟩, ⟨#[50, 102]⟩) else if id = ((15 : Nat) : Int) then (⟨#[101, 102]⟩, ⟨#[55, 53]⟩, ⟨#[56]⟩, ⟨#[101, 53]⟩, ⟨#[48]⟩, ⟨#[50, 57]⟩) else (⟨#[]⟩, ⟨#[]⟩, ⟨#[]⟩, ⟨#[]⟩, ⟨#[]⟩, ⟨#[]⟩)
noncomputable abbrev rowO (id : Int) : Obj := .cells #[.string (rowR id).1, .string (rowR id).2.1, .string (rowR id).2.2.1, .string (rowR id).2.2.2.1, .string (rowR id).2.2.2.2.1, .string (rowR id).2.2.2.2.2] 9 (0, 0)
theorem rowR_size (id : Int) (h : isCv id = true) : (rowR id).1.size ≤ 144 ∧ (rowR id).2.1.size ≤ 144 ∧ (rowR id).2.2.1.size ≤ 144 ∧ (rowR id).2.2.2.1.size ≤ 144 ∧ (rowR id).2.2.2.2.1.size ≤ 144 ∧ (rowR id).2.2.2.2.2.size ≤ 144 := by
  rcases isCv_cases h with rfl | rfl | rfl | rfl | rfl | rfl | rfl | rfl | rfl | rfl | rfl | rfl | rfl | rfl | rfl <;>
  exact ⟨Nat.le_of_ble_eq_true (by kernel_rfl), Nat.le_of_ble_eq_true (by kernel_rfl), Nat.le_of_ble_eq_true (by kernel_rfl), Nat.le_of_ble_eq_true (by kernel_rfl), Nat.le_of_ble_eq_true (by kernel_rfl), Nat.le_of_ble_eq_true (by kernel_rfl)⟩
def markR (s : ByteArray) : Bool := s.data.toList == [45]
theorem markR_eq (s : ByteArray) : (s.toList == (⟨#[45]⟩ : ByteArray).toList) = markR s := by rw [Go.ByteArray.toList_eq, Go.ByteArray.toList_eq]; rfl
theorem rowR_ok (id : Int) (h : isCv id = true) : hexR (rowR id).1 = (cvN id).p ∧ (if markR (rowR id).2.1 then (cvN id).p - 3 else hexR (rowR id).2.1) = (cvN id).a ∧ hexR (rowR id).2.2.1 = (cvN id).b ∧ hexR (rowR id).2.2.2.1 = (cvN id).n ∧ hexR (rowR id).2.2.2.2.1 = (cvN id).x ∧ hexR (rowR id).2.2.2.2.2 = (cvN id).y := by
  rcases isCv_cases h with rfl | rfl | rfl | rfl | rfl | rfl | rfl | rfl | rfl | rfl | rfl | rfl | rfl | rfl | rfl <;>
  exact ⟨Nat.eq_of_beq_eq_true (by kernel_rfl), Nat.eq_of_beq_eq_true (by kernel_rfl), Nat.eq_of_beq_eq_true (by kernel_rfl), Nat.eq_of_beq_eq_true (by kernel_rfl), Nat.eq_of_beq_eq_true (by kernel_rfl), Nat.eq_of_beq_eq_true (by kernel_rfl)⟩
theorem r13_row (id : Int) (hid : isCv id = true) (w0 : World) : Calls Try.prog 68 #[.int .i64 id] w0 fun e w => ∃ g, e = .returned (.slice (some ⟨g, 0, none⟩) 6 6) ∧ w0.heap.size ≤ g ∧ w.heap[g]? = some (rowO id) ∧ Below w0.heap.size w0 w := by
 refine enter_sx [(0, .s (inI .i64 id))] 49 Try.func68 rfl rfl (Nat.le_of_ble_eq_true (by kernel_rfl)) (fun γ => by kernel_rfl) ?_
 intro γ ac hE
 refine sq_t hE [Rw 2 (.s (.v (.slice none 0 0)))] [(0, .s (inI .i64 id)), (2, .s (.v (.slice none 0 0)))] [] ⟨tp, trivial⟩ ?_
 clear hE; intro γ ac wc hE
 refine wp_seq ?_
 refine sq_t hE [Rw 3 (.s (inI .i64 id)) [(0, .s (inI .i64 id))]] [(2, .s (.v (.slice none 0 0))), (3, .s (inI .i64 id))] [] ⟨tp, trivial⟩ ?_
 clear hE; intro γ ac wc hE
 refine wp_block ?_
 refine sq_t hE [Rw 5 (vB (decide (id = ((1 : Nat) : Int)))) [(3, .s (inI .i64 id))], Rw 4 (vB (decide (id = ((1 : Nat) : Int)))) [(5, vB (decide (id = ((1 : Nat) : Int))))]] [(2, .s (.v (.slice none 0 0))), (3, .s (inI .i64 id)), (4, vB (decide (id = ((1 : Nat) : Int))))] [] ⟨tE fun _ => d_eqi _ _, tp, trivial⟩ ?_
 clear hE; intro γ ac wc hE
 refine cond_sx hE rfl (fun hb1 => ?_) (fun hb1 => ?_)
 ·
  have hb1p := of_decide_eq_true hb1
  refine sq_t hE [Rw 6 (.s (.sl 6 0 6 6)) [] [] [(6, (.sc [(st tx0), (st (⟨#[45]⟩)), (st tx1), (st tx2), (st tx3), (st tx4)], 9))], Rw 2 (.s (.sl 6 0 6 6)) [(6, .s (.sl 6 0 6 6))]] [(2, .s (.sl 6 0 6 6)), (3, .s (inI .i64 id))] [(6, (.sc [(st tx0), (st (⟨#[45]⟩)), (st tx1), (st tx2), (st tx3), (st tx4)], 9))] ⟨tbs, tp, trivial⟩ ?_
  clear hE; intro γ ac wc hE
  refine wp_ret ?_
  refine blk_ret ?_
  refine then_ret ?_
  have hh := Ct.sc_at (hE.heap 6 _ rfl)
  have hO := hE.new (k := 6) rfl
  have hr : rowR id = (tx0, ⟨#[45]⟩, tx1, tx2, tx3, tx4) := by rw [rowR, if_pos hb1p]
  exact (end1 hE rfl (.tmp 2 (.s (.sl 6 0 6 6)) rfl) (⟨γ 6, rfl, hO, by rw [rowO, hr]; exact hh, hE.keep.below⟩)).1
 ·
  have hb1p := of_decide_eq_false hb1
  refine sq_t hE [Rw 8 (vB (decide (id = ((2 : Nat) : Int)))) [(3, .s (inI .i64 id))], Rw 7 (vB (decide (id = ((2 : Nat) : Int)))) [(8, vB (decide (id = ((2 : Nat) : Int))))]] [(2, .s (.v (.slice none 0 0))), (3, .s (inI .i64 id)), (7, vB (decide (id = ((2 : Nat) : Int))))] [] ⟨tE fun _ => d_eqi _ _, tp, trivial⟩ ?_
  clear hE; intro γ ac wc hE
  refine cond_sx hE rfl (fun hb2 => ?_) (fun hb2 => ?_)
  ·
   have hb2p := of_decide_eq_true hb2
   refine sq_t hE [Rw 9 (.s (.sl 9 0 6 6)) [] [] [(9, (.sc [(st tx5), (st (⟨#[45]⟩)), (st tx6), (st tx7), (st tx8), (st tx9)], 9))], Rw 2 (.s (.sl 9 0 6 6)) [(9, .s (.sl 9 0 6 6))]] [(2, .s (.sl 9 0 6 6)), (3, .s (inI .i64 id))] [(9, (.sc [(st tx5), (st (⟨#[45]⟩)), (st tx6), (st tx7), (st tx8), (st tx9)], 9))] ⟨tbs, tp, trivial⟩ ?_
   clear hE; intro γ ac wc hE
   refine wp_ret ?_
   refine blk_ret ?_
   refine then_ret ?_
   have hh := Ct.sc_at (hE.heap 9 _ rfl)
   have hO := hE.new (k := 9) rfl
   have hr : rowR id = (tx5, ⟨#[45]⟩, tx6, tx7, tx8, tx9) := by rw [rowR, if_neg hb1p, if_pos hb2p]
   exact (end1 hE rfl (.tmp 2 (.s (.sl 9 0 6 6)) rfl) (⟨γ 9, rfl, hO, by rw [rowO, hr]; exact hh, hE.keep.below⟩)).1
  ·
   have hb2p := of_decide_eq_false hb2
   refine sq_t hE [Rw 11 (vB (decide (id = ((3 : Nat) : Int)))) [(3, .s (inI .i64 id))], Rw 10 (vB (decide (id = ((3 : Nat) : Int)))) [(11, vB (decide (id = ((3 : Nat) : Int))))]] [(2, .s (.v (.slice none 0 0))), (3, .s (inI .i64 id)), (10, vB (decide (id = ((3 : Nat) : Int))))] [] ⟨tE fun _ => d_eqi _ _, tp, trivial⟩ ?_
   clear hE; intro γ ac wc hE
   refine cond_sx hE rfl (fun hb3 => ?_) (fun hb3 => ?_)
   ·
    have hb3p := of_decide_eq_true hb3
    refine sq_t hE [Rw 12 (.s (.sl 12 0 6 6)) [] [] [(12, (.sc [(st tx10), (st (⟨#[45]⟩)), (st tx11), (st tx12), (st tx13), (st tx14)], 9))], Rw 2 (.s (.sl 12 0 6 6)) [(12, .s (.sl 12 0 6 6))]] [(2, .s (.sl 12 0 6 6)), (3, .s (inI .i64 id))] [(12, (.sc [(st tx10), (st (⟨#[45]⟩)), (st tx11), (st tx12), (st tx13), (st tx14)], 9))] ⟨tbs, tp, trivial⟩ ?_
    clear hE; intro γ ac wc hE
    refine wp_ret ?_
    refine blk_ret ?_
    refine then_ret ?_
    have hh := Ct.sc_at (hE.heap 12 _ rfl)
    have hO := hE.new (k := 12) rfl
    have hr : rowR id = (tx10, ⟨#[45]⟩, tx11, tx12, tx13, tx14) := by rw [rowR, if_neg hb1p, if_neg hb2p, if_pos hb3p]
    exact (end1 hE rfl (.tmp 2 (.s (.sl 12 0 6 6)) rfl) (⟨γ 12, rfl, hO, by rw [rowO, hr]; exact hh, hE.keep.below⟩)).1
   ·
    have hb3p := of_decide_eq_false hb3
    refine sq_t hE [Rw 14 (vB (decide (id = ((4 : Nat) : Int)))) [(3, .s (inI .i64 id))], Rw 13 (vB (decide (id = ((4 : Nat) : Int)))) [(14, vB (decide (id = ((4 : Nat) : Int))))]] [(2, .s (.v (.slice none 0 0))), (3, .s (inI .i64 id)), (13, vB (decide (id = ((4 : Nat) : Int))))] [] ⟨tE fun _ => d_eqi _ _, tp, trivial⟩ ?_
    clear hE; intro γ ac wc hE
    refine cond_sx hE rfl (fun hb4 => ?_) (fun hb4 => ?_)
    ·
     have hb4p := of_decide_eq_true hb4
     refine sq_t hE [Rw 15 (.s (.sl 15 0 6 6)) [] [] [(15, (.sc [(st tx15), (st (⟨#[45]⟩)), (st tx16), (st tx17), (st tx18), (st tx19)], 9))], Rw 2 (.s (.sl 15 0 6 6)) [(15, .s (.sl 15 0 6 6))]] [(2, .s (.sl 15 0 6 6)), (3, .s (inI .i64 id))] [(15, (.sc [(st tx15), (st (⟨#[45]⟩)), (st tx16), (st tx17), (st tx18), (st tx19)], 9))] ⟨tbs, tp, trivial⟩ ?_
     clear hE; intro γ ac wc hE
     refine wp_ret ?_
     refine blk_ret ?_
     refine then_ret ?_
     have hh := Ct.sc_at (hE.heap 15 _ rfl)
     have hO := hE.new (k := 15) rfl
     have hr : rowR id = (tx15, ⟨#[45]⟩, tx16, tx17, tx18, tx19) := by rw [rowR, if_neg hb1p, if_neg hb2p, if_neg hb3p, if_pos hb4p]
     exact (end1 hE rfl (.tmp 2 (.s (.sl 15 0 6 6)) rfl) (⟨γ 15, rfl, hO, by rw [rowO, hr]; exact hh, hE.keep.below⟩)).1
    ·
     have hb4p := of_decide_eq_false hb4
     refine sq_t hE [Rw 17 (vB (decide (id = ((5 : Nat) : Int)))) [(3, .s (inI .i64 id))], Rw 16 (vB (decide (id = ((5 : Nat) : Int)))) [(17, vB (decide (id = ((5 : Nat) : Int))))]] [(2, .s (.v (.slice none 0 0))), (3, .s (inI .i64 id)), (16, vB (decide (id = ((5 : Nat) : Int))))] [] ⟨tE fun _ => d_eqi _ _, tp, trivial⟩ ?_
     clear hE; intro γ ac wc hE
     refine cond_sx hE rfl (fun hb5 => ?_) (fun hb5 => ?_)
     ·
      have hb5p := of_decide_eq_true hb5
      refine sq_t hE [Rw 18 (.s (.sl 18 0 6 6)) [] [] [(18, (.sc [(st tx20), (st (⟨#[45]⟩)), (st tx21), (st tx22), (st tx23), (st tx24)], 9))], Rw 2 (.s (.sl 18 0 6 6)) [(18, .s (.sl 18 0 6 6))]] [(2, .s (.sl 18 0 6 6)), (3, .s (inI .i64 id))] [(18, (.sc [(st tx20), (st (⟨#[45]⟩)), (st tx21), (st tx22), (st tx23), (st tx24)], 9))] ⟨tbs, tp, trivial⟩ ?_
      clear hE; intro γ ac wc hE
      refine wp_ret ?_
      refine blk_ret ?_
      refine then_ret ?_
      have hh := Ct.sc_at (hE.heap 18 _ rfl)
      have hO := hE.new (k := 18) rfl
      have hr : rowR id = (tx20, ⟨#[45]⟩, tx21, tx22, tx23, tx24) := by rw [rowR, if_neg hb1p, if_neg hb2p, if_neg hb3p, if_neg hb4p, if_pos hb5p]
      exact (end1 hE rfl (.tmp 2 (.s (.sl 18 0 6 6)) rfl) (⟨γ 18, rfl, hO, by rw [rowO, hr]; exact hh, hE.keep.below⟩)).1
     ·
      have hb5p := of_decide_eq_false hb5
      refine sq_t hE [Rw 20 (vB (decide (id = ((6 : Nat) : Int)))) [(3, .s (inI .i64 id))], Rw 19 (vB (decide (id = ((6 : Nat) : Int)))) [(20, vB (decide (id = ((6 : Nat) : Int))))]] [(2, .s (.v (.slice none 0 0))), (3, .s (inI .i64 id)), (19, vB (decide (id = ((6 : Nat) : Int))))] [] ⟨tE fun _ => d_eqi _ _, tp, trivial⟩ ?_
      clear hE; intro γ ac wc hE
      refine cond_sx hE rfl (fun hb6 => ?_) (fun hb6 => ?_)
      ·
       have hb6p := of_decide_eq_true hb6
       refine sq_t hE [Rw 21 (.s (.sl 21 0 6 6)) [] [] [(21, (.sc [(st tx25), (st (⟨#[48]⟩)), (st (⟨#[55]⟩)), (st tx26), (st tx27), (st tx28)], 9))], Rw 2 (.s (.sl 21 0 6 6)) [(21, .s (.sl 21 0 6 6))]] [(2, .s (.sl 21 0 6 6)), (3, .s (inI .i64 id))] [(21, (.sc [(st tx25), (st (⟨#[48]⟩)), (st (⟨#[55]⟩)), (st tx26), (st tx27), (st tx28)], 9))] ⟨tbs, tp, trivial⟩ ?_
       clear hE; intro γ ac wc hE
       refine wp_ret ?_
       refine blk_ret ?_
       refine then_ret ?_
       have hh := Ct.sc_at (hE.heap 21 _ rfl)
       have hO := hE.new (k := 21) rfl
       have hr : rowR id = (tx25, ⟨#[48]⟩, ⟨#[55]⟩, tx26, tx27, tx28) := by rw [rowR, if_neg hb1p, if_neg hb2p, if_neg hb3p, if_neg hb4p, if_neg hb5p, if_pos hb6p]
       exact (end1 hE rfl (.tmp 2 (.s (.sl 21 0 6 6)) rfl) (⟨γ 21, rfl, hO, by rw [rowO, hr]; exact hh, hE.keep.below⟩)).1
      ·
       have hb6p := of_decide_eq_false hb6
       refine sq_t hE [Rw 23 (vB (decide (id = ((7 : Nat) : Int)))) [(3, .s (inI .i64 id))], Rw 22 (vB (decide (id = ((7 : Nat) : Int)))) [(23, vB (decide (id = ((7 : Nat) : Int))))]] [(2, .s (.v (.slice none 0 0))), (3, .s (inI .i64 id)), (22, vB (decide (id = ((7 : Nat) : Int))))] [] ⟨tE fun _ => d_eqi _ _, tp, trivial⟩ ?_
       clear hE; intro γ ac wc hE
       refine cond_sx hE rfl (fun hb7 => ?_) (fun hb7 => ?_)
       ·
        have hb7p := of_decide_eq_true hb7
        refine sq_t hE [Rw 24 (.s (.sl 24 0 6 6)) [] [] [(24, (.sc [(st tx29), (st tx30), (st tx31), (st tx32), (st tx33), (st tx34)], 9))], Rw 2 (.s (.sl 24 0 6 6)) [(24, .s (.sl 24 0 6 6))]] [(2, .s (.sl 24 0 6 6)), (3, .s (inI .i64 id))] [(24, (.sc [(st tx29), (st tx30), (st tx31), (st tx32), (st tx33), (st tx34)], 9))] ⟨tbs, tp, trivial⟩ ?_
        clear hE; intro γ ac wc hE
        refine wp_ret ?_
        refine blk_ret ?_
        refine then_ret ?_
        have hh := Ct.sc_at (hE.heap 24 _ rfl)
        have hO := hE.new (k := 24) rfl
        have hr : rowR id = (tx29, tx30, tx31, tx32, tx33, tx34) := by rw [rowR, if_neg hb1p, if_neg hb2p, if_neg hb3p, if_neg hb4p, if_neg hb5p, if_neg hb6p, if_pos hb7p]
        exact (end1 hE rfl (.tmp 2 (.s (.sl 24 0 6 6)) rfl) (⟨γ 24, rfl, hO, by rw [rowO, hr]; exact hh, hE.keep.below⟩)).1
       ·
        have hb7p := of_decide_eq_false hb7
        refine sq_t hE [Rw 26 (vB (decide (id = ((8 : Nat) : Int)))) [(3, .s (inI .i64 id))], Rw 25 (vB (decide (id = ((8 : Nat) : Int)))) [(26, vB (decide (id = ((8 : Nat) : Int))))]] [(2, .s (.v (.slice none 0 0))), (3, .s (inI .i64 id)), (25, vB (decide (id = ((8 : Nat) : Int))))] [] ⟨tE fun _ => d_eqi _ _, tp, trivial⟩ ?_
        clear hE; intro γ ac wc hE
        refine cond_sx hE rfl (fun hb8 => ?_) (fun hb8 => ?_)
        ·
         have hb8p := of_decide_eq_true hb8
         refine sq_t hE [Rw 27 (.s (.sl 27 0 6 6)) [] [] [(27, (.sc [(st tx35), (st tx36), (st tx37), (st tx38), (st tx39), (st tx40)], 9))], Rw 2 (.s (.sl 27 0 6 6)) [(27, .s (.sl 27 0 6 6))]] [(2, .s (.sl 27 0 6 6)), (3, .s (inI .i64 id))] [(27, (.sc [(st tx35), (st tx36), (st tx37), (st tx38), (st tx39), (st tx40)], 9))] ⟨tbs, tp, trivial⟩ ?_
         clear hE; intro γ ac wc hE
         refine wp_ret ?_
         refine blk_ret ?_
         refine then_ret ?_
         have hh := Ct.sc_at (hE.heap 27 _ rfl)
         have hO := hE.new (k := 27) rfl
         have hr : rowR id = (tx35, tx36, tx37, tx38, tx39, tx40) := by rw [rowR, if_neg hb1p, if_neg hb2p, if_neg hb3p, if_neg hb4p, if_neg hb5p, if_neg hb6p, if_neg hb7p, if_pos hb8p]
         exact (end1 hE rfl (.tmp 2 (.s (.sl 27 0 6 6)) rfl) (⟨γ 27, rfl, hO, by rw [rowO, hr]; exact hh, hE.keep.below⟩)).1
        ·
         have hb8p := of_decide_eq_false hb8
         refine sq_t hE [Rw 29 (vB (decide (id = ((9 : Nat) : Int)))) [(3, .s (inI .i64 id))], Rw 28 (vB (decide (id = ((9 : Nat) : Int)))) [(29, vB (decide (id = ((9 : Nat) : Int))))]] [(2, .s (.v (.slice none 0 0))), (3, .s (inI .i64 id)), (28, vB (decide (id = ((9 : Nat) : Int))))] [] ⟨tE fun _ => d_eqi _ _, tp, trivial⟩ ?_
         clear hE; intro γ ac wc hE
         refine cond_sx hE rfl (fun hb9 => ?_) (fun hb9 => ?_)
         ·
          have hb9p := of_decide_eq_true hb9
          refine sq_t hE [Rw 30 (.s (.sl 30 0 6 6)) [] [] [(30, (.sc [(st tx41), (st tx42), (st tx43), (st tx44), (st tx45), (st tx46)], 9))], Rw 2 (.s (.sl 30 0 6 6)) [(30, .s (.sl 30 0 6 6))]] [(2, .s (.sl 30 0 6 6)), (3, .s (inI .i64 id))] [(30, (.sc [(st tx41), (st tx42), (st tx43), (st tx44), (st tx45), (st tx46)], 9))] ⟨tbs, tp, trivial⟩ ?_
          clear hE; intro γ ac wc hE
          refine wp_ret ?_
          refine blk_ret ?_
          refine then_ret ?_
          have hh := Ct.sc_at (hE.heap 30 _ rfl)
          have hO := hE.new (k := 30) rfl
          have hr : rowR id = (tx41, tx42, tx43, tx44, tx45, tx46) := by rw [rowR, if_neg hb1p, if_neg hb2p, if_neg hb3p, if_neg hb4p, if_neg hb5p, if_neg hb6p, if_neg hb7p, if_neg hb8p, if_pos hb9p]
          exact (end1 hE rfl (.tmp 2 (.s (.sl 30 0 6 6)) rfl) (⟨γ 30, rfl, hO, by rw [rowO, hr]; exact hh, hE.keep.below⟩)).1
         ·
          have hb9p := of_decide_eq_false hb9
          refine sq_t hE [Rw 32 (vB (decide (id = ((10 : Nat) : Int)))) [(3, .s (inI .i64 id))], Rw 31 (vB (decide (id = ((10 : Nat) : Int)))) [(32, vB (decide (id = ((10 : Nat) : Int))))]] [(2, .s (.v (.slice none 0 0))), (3, .s (inI .i64 id)), (31, vB (decide (id = ((10 : Nat) : Int))))] [] ⟨tE fun _ => d_eqi _ _, tp, trivial⟩ ?_
          clear hE; intro γ ac wc hE
          refine cond_sx hE rfl (fun hb10 => ?_) (fun hb10 => ?_)
          ·
           have hb10p := of_decide_eq_true hb10
           refine sq_t hE [Rw 33 (.s (.sl 33 0 6 6)) [] [] [(33, (.sc [(st tx47), (st tx48), (st tx49), (st tx50), (st tx51), (st tx52)], 9))], Rw 2 (.s (.sl 33 0 6 6)) [(33, .s (.sl 33 0 6 6))]] [(2, .s (.sl 33 0 6 6)), (3, .s (inI .i64 id))] [(33, (.sc [(st tx47), (st tx48), (st tx49), (st tx50), (st tx51), (st tx52)], 9))] ⟨tbs, tp, trivial⟩ ?_
           clear hE; intro γ ac wc hE
           refine wp_ret ?_
           refine blk_ret ?_
           refine then_ret ?_
           have hh := Ct.sc_at (hE.heap 33 _ rfl)
           have hO := hE.new (k := 33) rfl
           have hr : rowR id = (tx47, tx48, tx49, tx50, tx51, tx52) := by rw [rowR, if_neg hb1p, if_neg hb2p, if_neg hb3p, if_neg hb4p, if_neg hb5p, if_neg hb6p, if_neg hb7p, if_neg hb8p, if_neg hb9p, if_pos hb10p]
           exact (end1 hE rfl (.tmp 2 (.s (.sl 33 0 6 6)) rfl) (⟨γ 33, rfl, hO, by rw [rowO, hr]; exact hh, hE.keep.below⟩)).1
          ·
           have hb10p := of_decide_eq_false hb10
           refine sq_t hE [Rw 35 (vB (decide (id = ((11 : Nat) : Int)))) [(3, .s (inI .i64 id))], Rw 34 (vB (decide (id = ((11 : Nat) : Int)))) [(35, vB (decide (id = ((11 : Nat) : Int))))]] [(2, .s (.v (.slice none 0 0))), (3, .s (inI .i64 id)), (34, vB (decide (id = ((11 : Nat) : Int))))] [] ⟨tE fun _ => d_eqi _ _, tp, trivial⟩ ?_
           clear hE; intro γ ac wc hE
           refine cond_sx hE rfl (fun hb11 => ?_) (fun hb11 => ?_)
           ·
            have hb11p := of_decide_eq_true hb11
            refine sq_t hE [Rw 36 (.s (.sl 36 0 6 6)) [] [] [(36, (.sc [(st tx53), (st tx54), (st tx55), (st tx56), (st tx57), (st tx58)], 9))], Rw 2 (.s (.sl 36 0 6 6)) [(36, .s (.sl 36 0 6 6))]] [(2, .s (.sl 36 0 6 6)), (3, .s (inI .i64 id))] [(36, (.sc [(st tx53), (st tx54), (st tx55), (st tx56), (st tx57), (st tx58)], 9))] ⟨tbs, tp, trivial⟩ ?_
            clear hE; intro γ ac wc hE
            refine wp_ret ?_
            refine blk_ret ?_
            refine then_ret ?_
            have hh := Ct.sc_at (hE.heap 36 _ rfl)
            have hO := hE.new (k := 36) rfl
            have hr : rowR id = (tx53, tx54, tx55, tx56, tx57, tx58) := by rw [rowR, if_neg hb1p, if_neg hb2p, if_neg hb3p, if_neg hb4p, if_neg hb5p, if_neg hb6p, if_neg hb7p, if_neg hb8p, if_neg hb9p, if_neg hb10p, if_pos hb11p]
            exact (end1 hE rfl (.tmp 2 (.s (.sl 36 0 6 6)) rfl) (⟨γ 36, rfl, hO, by rw [rowO, hr]; exact hh, hE.keep.below⟩)).1
           ·
            have hb11p := of_decide_eq_false hb11
            refine sq_t hE [Rw 38 (vB (decide (id = ((12 : Nat) : Int)))) [(3, .s (inI .i64 id))], Rw 37 (vB (decide (id = ((12 : Nat) : Int)))) [(38, vB (decide (id = ((12 : Nat) : Int))))]] [(2, .s (.v (.slice none 0 0))), (3, .s (inI .i64 id)), (37, vB (decide (id = ((12 : Nat) : Int))))] [] ⟨tE fun _ => d_eqi _ _, tp, trivial⟩ ?_
            clear hE; intro γ ac wc hE
            refine cond_sx hE rfl (fun hb12 => ?_) (fun hb12 => ?_)
            ·
             have hb12p := of_decide_eq_true hb12
             refine sq_t hE [Rw 39 (.s (.sl 39 0 6 6)) [] [] [(39, (.sc [(st tx59), (st tx60), (st tx61), (st tx62), (st tx63), (st tx64)], 9))], Rw 2 (.s (.sl 39 0 6 6)) [(39, .s (.sl 39 0 6 6))]] [(2, .s (.sl 39 0 6 6)), (3, .s (inI .i64 id))] [(39, (.sc [(st tx59), (st tx60), (st tx61), (st tx62), (st tx63), (st tx64)], 9))] ⟨tbs, tp, trivial⟩ ?_
             clear hE; intro γ ac wc hE
             refine wp_ret ?_
             refine blk_ret ?_
             refine then_ret ?_
             have hh := Ct.sc_at (hE.heap 39 _ rfl)
             have hO := hE.new (k := 39) rfl
             have hr : rowR id = (tx59, tx60, tx61, tx62, tx63, tx64) := by rw [rowR, if_neg hb1p, if_neg hb2p, if_neg hb3p, if_neg hb4p, if_neg hb5p, if_neg hb6p, if_neg hb7p, if_neg hb8p, if_neg hb9p, if_neg hb10p, if_neg hb11p, if_pos hb12p]
             exact (end1 hE rfl (.tmp 2 (.s (.sl 39 0 6 6)) rfl) (⟨γ 39, rfl, hO, by rw [rowO, hr]; exact hh, hE.keep.below⟩)).1
            ·
             have hb12p := of_decide_eq_false hb12
             refine sq_t hE [Rw 41 (vB (decide (id = ((13 : Nat) : Int)))) [(3, .s (inI .i64 id))], Rw 40 (vB (decide (id = ((13 : Nat) : Int)))) [(41, vB (decide (id = ((13 : Nat) : Int))))]] [(2, .s (.v (.slice none 0 0))), (3, .s (inI .i64 id)), (40, vB (decide (id = ((13 : Nat) : Int))))] [] ⟨tE fun _ => d_eqi _ _, tp, trivial⟩ ?_
             clear hE; intro γ ac wc hE
             refine cond_sx hE rfl (fun hb13 => ?_) (fun hb13 => ?_)
             ·
              have hb13p := of_decide_eq_true hb13
              refine sq_t hE [Rw 42 (.s (.sl 42 0 6 6)) [] [] [(42, (.sc [(st (⟨#[102, 98]⟩)), (st (⟨#[45]⟩)), (st (⟨#[49, 97]⟩)), (st (⟨#[100, 102]⟩)), (st (⟨#[50]⟩)), (st (⟨#[53, 52]⟩))], 9))], Rw 2 (.s (.sl 42 0 6 6)) [(42, .s (.sl 42 0 6 6))]] [(2, .s (.sl 42 0 6 6)), (3, .s (inI .i64 id))] [(42, (.sc [(st (⟨#[102, 98]⟩)), (st (⟨#[45]⟩)), (st (⟨#[49, 97]⟩)), (st (⟨#[100, 102]⟩)), (st (⟨#[50]⟩)), (st (⟨#[53, 52]⟩))], 9))] ⟨tbs, tp, trivial⟩ ?_
              clear hE; intro γ ac wc hE
              refine wp_ret ?_
              refine blk_ret ?_
              refine then_ret ?_
              have hh := Ct.sc_at (hE.heap 42 _ rfl)
              have hO := hE.new (k := 42) rfl
              have hr : rowR id = (⟨#[102, 98]⟩, ⟨#[45]⟩, ⟨#[49, 97]⟩, ⟨#[100, 102]⟩, ⟨#[50]⟩, ⟨#[53, 52]⟩) := by rw [rowR, if_neg hb1p, if_neg hb2p, if_neg hb3p, if_neg hb4p, if_neg hb5p, if_neg hb6p, if_neg hb7p, if_neg hb8p, if_neg hb9p, if_neg hb10p, if_neg hb11p, if_neg hb12p, if_pos hb13p]
              exact (end1 hE rfl (.tmp 2 (.s (.sl 42 0 6 6)) rfl) (⟨γ 42, rfl, hO, by rw [rowO, hr]; exact hh, hE.keep.below⟩)).1
             ·
              have hb13p := of_decide_eq_false hb13
              refine sq_t hE [Rw 44 (vB (decide (id = ((14 : Nat) : Int)))) [(3, .s (inI .i64 id))], Rw 43 (vB (decide (id = ((14 : Nat) : Int)))) [(44, vB (decide (id = ((14 : Nat) : Int))))]] [(2, .s (.v (.slice none 0 0))), (3, .s (inI .i64 id)), (43, vB (decide (id = ((14 : Nat) : Int))))] [] ⟨tE fun _ => d_eqi _ _, tp, trivial⟩ ?_
              clear hE; intro γ ac wc hE
              refine cond_sx hE rfl (fun hb14 => ?_) (fun hb14 => ?_)
              ·
               have hb14p := of_decide_eq_true hb14
               refine sq_t hE [Rw 45 (.s (.sl 45 0 6 6)) [] [] [(45, (.sc [(st (⟨#[102, 49]⟩)), (st (⟨#[48]⟩)), (st (⟨#[100]⟩)), (st (⟨#[100, 51]⟩)), (st (⟨#[51]⟩)), (st (⟨#[50, 102]⟩))], 9))], Rw 2 (.s (.sl 45 0 6 6)) [(45, .s (.sl 45 0 6 6))]] [(2, .s (.sl 45 0 6 6)), (3, .s (inI .i64 id))] [(45, (.sc [(st (⟨#[102, 49]⟩)), (st (⟨#[48]⟩)), (st (⟨#[100]⟩)), (st (⟨#[100, 51]⟩)), (st (⟨#[51]⟩)), (st (⟨#[50, 102]⟩))], 9))] ⟨tbs, tp, trivial⟩ ?_
               clear hE; intro γ ac wc hE
               refine wp_ret ?_
               refine blk_ret ?_
               refine then_ret ?_
               have hh := Ct.sc_at (hE.heap 45 _ rfl)
               have hO := hE.new (k := 45) rfl
               have hr : rowR id = (⟨#[102, 49]⟩, ⟨#[48]⟩, ⟨#[100]⟩, ⟨#[100, 51]⟩, ⟨#[51]⟩, ⟨#[50, 102]⟩) := by rw [rowR, if_neg hb1p, if_neg hb2p, if_neg hb3p, if_neg hb4p, if_neg hb5p, if_neg hb6p, if_neg hb7p, if_neg hb8p, if_neg hb9p, if_neg hb10p, if_neg hb11p, if_neg hb12p, if_neg hb13p, if_pos hb14p]
               exact (end1 hE rfl (.tmp 2 (.s (.sl 45 0 6 6)) rfl) (⟨γ 45, rfl, hO, by rw [rowO, hr]; exact hh, hE.keep.below⟩)).1
              ·
               have hb14p := of_decide_eq_false hb14
               refine sq_t hE [Rw 47 (vB (decide (id = ((15 : Nat) : Int)))) [(3, .s (inI .i64 id))], Rw 46 (vB (decide (id = ((15 : Nat) : Int)))) [(47, vB (decide (id = ((15 : Nat) : Int))))]] [(2, .s (.v (.slice none 0 0))), (3, .s (inI .i64 id)), (46, vB (decide (id = ((15 : Nat) : Int))))] [] ⟨tE fun _ => d_eqi _ _, tp, trivial⟩ ?_
               clear hE; intro γ ac wc hE
               refine cond_sx hE rfl (fun hb15 => ?_) (fun hb15 => ?_)
               ·
                have hb15p := of_decide_eq_true hb15
                refine sq_t hE [Rw 48 (.s (.sl 48 0 6 6)) [] [] [(48, (.sc [(st (⟨#[101, 102]⟩)), (st (⟨#[55, 53]⟩)), (st (⟨#[56]⟩)), (st (⟨#[101, 53]⟩)), (st (⟨#[48]⟩)), (st (⟨#[50, 57]⟩))], 9))], Rw 2 (.s (.sl 48 0 6 6)) [(48, .s (.sl 48 0 6 6))]] [(2, .s (.sl 48 0 6 6)), (3, .s (inI .i64 id))] [(48, (.sc [(st (⟨#[101, 102]⟩)), (st (⟨#[55, 53]⟩)), (st (⟨#[56]⟩)), (st (⟨#[101, 53]⟩)), (st (⟨#[48]⟩)), (st (⟨#[50, 57]⟩))], 9))] ⟨tbs, tp, trivial⟩ ?_
                clear hE; intro γ ac wc hE
                refine wp_ret ?_
                refine blk_ret ?_
                refine then_ret ?_
                have hh := Ct.sc_at (hE.heap 48 _ rfl)
                have hO := hE.new (k := 48) rfl
                have hr : rowR id = (⟨#[101, 102]⟩, ⟨#[55, 53]⟩, ⟨#[56]⟩, ⟨#[101, 53]⟩, ⟨#[48]⟩, ⟨#[50, 57]⟩) := by rw [rowR, if_neg hb1p, if_neg hb2p, if_neg hb3p, if_neg hb4p, if_neg hb5p, if_neg hb6p, if_neg hb7p, if_neg hb8p, if_neg hb9p, if_neg hb10p, if_neg hb11p, if_neg hb12p, if_neg hb13p, if_neg hb14p, if_pos hb15p]
                exact (end1 hE rfl (.tmp 2 (.s (.sl 48 0 6 6)) rfl) (⟨γ 48, rfl, hO, by rw [rowO, hr]; exact hh, hE.keep.below⟩)).1
               ·
                have hb15p := of_decide_eq_false hb15
                exact (by rcases isCv_cases hid with h | h | h | h | h | h | h | h | h | h | h | h | h | h | h <;> omega : False).elim
end Go.Proofs.Ytddfimfgcfgpbaa
