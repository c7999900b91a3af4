/-
  The curve's operations.
-/
import Derived.Test.YtddfimfgcfgpbaaSTf
import Derived.Test.YtddfimfgcfgpbaaSFb
import Derived.Test.YtddfimfgcfgpbaaSWp
namespace Go.Proofs.Ytddfimfgcfgpbaa
open Sx
open Go.RowKit (Below)
set_option exponentiation.threshold 2000
structure CvN where
  id : Int
  p : Nat
  a : Nat
  b : Nat
  n : Nat
  x : Nat
  y : Nat
  bits : Nat
  size : Nat
  th : Nat
  leg : Bool
noncomputable abbrev cvO (c : CvN) (gf : Nat) : Obj := .cells (([inI .i64 c.id] ++ U9 c.p ++ U9 c.a ++ U9 c.b ++ U9 c.n ++ U9 c.x ++ U9 c.y ++ [bo false, inN .i64 c.bits, inN .i64 c.size, bo c.leg, Sc.v (.pointer (some ⟨gf, 0, none⟩))] ++ U9 c.th).map (Sc.den fun _ => 0)).toArray 110 (0, 0)
theorem cvO_obj (γ : Nat → Nat) (id : Int) (p a b n x y bits size th k : Nat) (leg : Bool) : Ct.obj γ (.sc ([inI .i64 id] ++ U9 p ++ U9 a ++ U9 b ++ U9 n ++ U9 x ++ U9 y ++ [bo false, inN .i64 bits, inN .i64 size, bo leg, .ptr k 0] ++ U9 th), 110) = cvO ⟨id, p, a, b, n, x, y, bits, size, th, leg⟩ (γ k) := by kernel_rfl
structure CvOk (c : CvN) : Prop where
  p1 : 3 < c.p
  p5 : c.p < 2 ^ 575
  a : c.a < c.p
  b : c.b < c.p
  th : c.th < c.p
  n : c.n < 2 ^ 576
  x : c.x < c.p
  y : c.y < c.p
  size : c.size ≤ 72
structure CvAt (w : World) (c : CvN) (gc gf gd : Nat) : Prop where
  hc : w.heap[gc]? = some (cvO c gf)
  hf : w.heap[gf]? = some (fldO c.p gd)
  hd : w.heap[gd]? = some (dvB c.p)
theorem CvAt.keep {w0 w : World} {c : CvN} {gc gf gd : Nat} (H : CvAt w0 c gc gf gd) (hk : Keep noB w0 w) : CvAt w c gc gf gd :=
  ⟨hk.get H.hc, hk.get H.hf, hk.get H.hd⟩
theorem mulm_lt {p a b : Nat} (h : 3 < p) : mulm p a b < p := Nat.mod_lt _ (by omega)
theorem addm_lt {p a b : Nat} (h : 3 < p) : addm p a b < p := Nat.mod_lt _ (by omega)
theorem lt_576 {p x : Nat} (h : x < p) (hp : p < 2 ^ 575) : x < 2 ^ 576 := by omega
def rightN (c : CvN) (x : Nat) : Nat := addm c.p (mulm c.p (addm c.p (mulm c.p x x) c.a) x) c.b
def onN (c : CvN) (x y : Nat) (i : Bool) : Bool := bif i then decide (x = 0) && decide (y = 0) else decide (x < c.p) && (decide (y < c.p) && decide (mulm c.p y y = rightN c x))
structure T3 where
  x : Nat
  y : Nat
  z : Nat
structure T3.lt (p : Nat) (t : T3) : Prop where
  x : t.x < p
  y : t.y < p
  z : t.z < p
theorem cv_Right (gc gf gd : Nat) (c : CvN) (x : Nat) (K : CvOk c) (hx : x < c.p) (w0 : World) (H : CvAt w0 c gc gf gd) : Calls Try.prog 109 #[.pointer (some ⟨gc, 0, none⟩), nv x] w0 fun e w => e = .returned (nv (rightN c x)) ∧ Below w0.heap.size w0 w := by
 refine enter_sx [(0, vX gc 0), (1, .agg (U9 x))] 31 Try.func109 rfl rfl (Nat.le_of_ble_eq_true (by kernel_rfl)) (fun γ => by kernel_rfl) ?_
 intro γ ac hE
 refine sq_t hE [Rw 3 (vP 3 0) [(1, .agg (U9 x))] [] [(3, (.sc (U9 x), 37))], Rw 4 (vP 4 0) [] [] [(4, (.sc (U9 0), 37))]] [(0, vX gc 0), (3, vP 3 0), (4, vP 4 0)] [(3, (.sc (U9 x), 37)), (4, (.sc (U9 0), 37))] ⟨tb, ta zt37, trivial⟩ ?_
 clear hE; intro γ ac wc hE
 refine sq_t hE [Rw 6 (vX gc 0) [(0, vX gc 0)], Rw 7 (vX gc 0) [(6, vX gc 0)], Rw 8 (vX gc 59) [(7, vX gc 0)], Rw 9 (vX gf 0) [(8, vX gc 59)], Rw 5 (vX gf 0) [(9, vX gf 0)]] [(0, vX gc 0), (3, vP 3 0), (4, vP 4 0), (5, vX gf 0)] [(3, (.sc (U9 x), 37)), (4, (.sc (U9 0), 37))] ⟨tp, tp, tp, tlx1 (fun w hk => (H.keep hk).hc) on108, tp, trivial⟩ ?_
 clear hE; intro γ ac wc hE
 refine sq_d hE [Rw 10 (vX gf 0) [(5, vX gf 0)], Rw 11 (vX gf 0) [(5, vX gf 0)], Rw 12 (vX gf 0) [(5, vX gf 0)], Rw 13 (vX gf 0) [(5, vX gf 0)], Rw 14 (.agg (U9 x)) [(3, vP 3 0)] [(3, (.sc (U9 x), 37))], Rw 15 (.agg (U9 x)) [(3, vP 3 0)] [(3, (.sc (U9 x), 37))], Rw 16 (.agg (U9 (mulm c.p x x))) [(13, vX gf 0), (14, .agg (U9 x)), (15, .agg (U9 x))], Rw 17 (vX gc 0) [(0, vX gc 0)], Rw 18 (vX gc 0) [(17, vX gc 0)], Rw 19 (vX gc 0) [(18, vX gc 0)], Rw 20 (vX gc 10) [(19, vX gc 0)], Rw 21 (.agg (U9 c.a)) [(20, vX gc 10)], Rw 22 (.agg (U9 (addm c.p (mulm c.p x x) c.a))) [(12, vX gf 0), (16, .agg (U9 (mulm c.p x x))), (21, .agg (U9 c.a))], Rw 23 (.agg (U9 x)) [(3, vP 3 0)] [(3, (.sc (U9 x), 37))], Rw 24 (.agg (U9 (mulm c.p (addm c.p (mulm c.p x x) c.a) x))) [(11, vX gf 0), (22, .agg (U9 (addm c.p (mulm c.p x x) c.a))), (23, .agg (U9 x))], Rw 25 (vX gc 0) [(0, vX gc 0)], Rw 26 (vX gc 0) [(25, vX gc 0)], Rw 27 (vX gc 0) [(26, vX gc 0)], Rw 28 (vX gc 19) [(27, vX gc 0)], Rw 29 (.agg (U9 c.b)) [(28, vX gc 19)], Rw 30 (.agg (U9 (addm c.p (mulm c.p (addm c.p (mulm c.p x x) c.a) x) c.b))) [(10, vX gf 0), (24, .agg (U9 (mulm c.p (addm c.p (mulm c.p x x) c.a) x))), (29, .agg (U9 c.b))], Rz [(4, vP 4 0), (30, .agg (U9 (addm c.p (mulm c.p (addm c.p (mulm c.p x x) c.a) x) c.b)))] [(4, (.sc (U9 0), 37))] [(4, (.sc (U9 (addm c.p (mulm c.p (addm c.p (mulm c.p x x) c.a) x) c.b)), 37))]] [(0, vX gc 0), (4, vP 4 0)] [(3, (.sc (U9 x), 37)), (4, (.sc (U9 (addm c.p (mulm c.p (addm c.p (mulm c.p x x) c.a) x) c.b)), 37))] ⟨tp, tp, tp, tp, tl ag37, tl ag37, tt fun γ w hk hf hks => fld_Mul gf gd c.p x x (by have := K.p1; omega) K.p5 (lt_576 (by omega) K.p5) (lt_576 (by omega) K.p5) w (H.keep hk).hf (H.keep hk).hd, tp, tp, tp, tp, tlx (fun w hk => (H.keep hk).hc) ag37, tt fun γ w hk hf hks => fld_Add gf gd c.p (mulm c.p x x) c.a (by have := K.p1; omega) K.p5 (mulm_lt K.p1) K.a w (H.keep hk).hf (H.keep hk).hd, tl ag37, tt fun γ w hk hf hks => fld_Mul gf gd c.p (addm c.p (mulm c.p x x) c.a) x (by have := K.p1; omega) K.p5 (lt_576 (addm_lt K.p1) K.p5) (lt_576 (by omega) K.p5) w (H.keep hk).hf (H.keep hk).hd, tp, tp, tp, tp, tlx (fun w hk => (H.keep hk).hc) ag37, tt fun γ w hk hf hks => fld_Add gf gd c.p (mulm c.p (addm c.p (mulm c.p x x) c.a) x) c.b (by have := K.p1; omega) K.p5 (mulm_lt K.p1) K.b w (H.keep hk).hf (H.keep hk).hd, ts sz37, trivial⟩ ?_
 clear hE; intro γ ac wc hE
 refine wp_ret ?_
 exact (end1 hE rfl (.cells 4 4 0 37 37 (U9 (addm c.p (mulm c.p (addm c.p (mulm c.p x x) c.a) x) c.b)) (U9 (addm c.p (mulm c.p (addm c.p (mulm c.p x x) c.a) x) c.b)) rfl rfl ag37 (by kernel_rfl)) (⟨rfl, hE.keep.below⟩)).1
theorem cv_On (gc gf gd : Nat) (c : CvN) (x y : Nat) (i : Bool) (K : CvOk c) (hx : x < 2 ^ 576) (hy : y < 2 ^ 576) (w0 : World) (H : CvAt w0 c gc gf gd) : Calls Try.prog 76 #[.pointer (some ⟨gc, 0, none⟩), pv x y i] w0 fun e w => e = .returned (.bool (onN c x y i)) ∧ Below w0.heap.size w0 w := by
 have hp5 := K.p5
 have hr : rightN c x < 2 ^ 576 := lt_576 (addm_lt K.p1) hp5
 have hm : mulm c.p y y < 2 ^ 576 := lt_576 (mulm_lt K.p1) hp5
 refine enter_sx [(0, vX gc 0), (1, .agg (U9 x ++ U9 y ++ [(bo i)]))] 42 Try.func76 rfl rfl (Nat.le_of_ble_eq_true (by kernel_rfl)) (fun γ => by kernel_rfl) ?_
 intro γ ac hE
 refine sq_t hE [Rw 3 (vP 3 0) [(1, .agg (U9 x ++ U9 y ++ [(bo i)]))] [] [(3, (.sc (U9 x ++ U9 y ++ [(bo i)]), 45))], Rw 4 (vB false)] [(0, vX gc 0), (3, vP 3 0), (4, vB false)] [(3, (.sc (U9 x ++ U9 y ++ [(bo i)]), 45))] ⟨tb, tp, trivial⟩ ?_
 clear hE; intro γ ac wc hE
 refine wp_seq ?_
 refine sq_t hE [Rw 5 (vP 3 18) [(3, vP 3 0)], Rw 6 (vB i) [(5, vP 3 18)] [(3, (.sc (U9 x ++ U9 y ++ [(bo i)]), 45))]] [(0, vX gc 0), (3, vP 3 0), (4, vB false), (6, vB i)] [(3, (.sc (U9 x ++ U9 y ++ [(bo i)]), 45))] ⟨tp, tl1 on4, trivial⟩ ?_
 clear hE; intro γ ac wc hE
 refine cond_sx hE rfl (fun hb1 => ?_) (fun hb1 => ?_)
 ·
  refine sq_t hE [Rw 7 (.agg (U9 x ++ U9 y ++ [(bo i)])) [(3, vP 3 0)] [(3, (.sc (U9 x ++ U9 y ++ [(bo i)]), 45))], Rw 8 (.agg (U9 0 ++ U9 0 ++ [(bo true)])), Rw 9 (vB (eqP x y i 0 0 true)) [(7, .agg (U9 x ++ U9 y ++ [(bo i)])), (8, .agg (U9 0 ++ U9 0 ++ [(bo true)]))], Rw 4 (vB (eqP x y i 0 0 true)) [(9, vB (eqP x y i 0 0 true))]] [(0, vX gc 0), (3, vP 3 0), (4, vB (eqP x y i 0 0 true))] [(3, (.sc (U9 x ++ U9 y ++ [(bo i)]), 45))] ⟨tl ag45, tp, te_pt x y 0 0 i true (by omega) (by omega) (by decide) (by decide), tp, trivial⟩ ?_
  clear hE; intro γ ac wc hE
  refine wp_ret ?_
  refine then_ret ?_
  exact (end1 hE rfl (.tmp 4 (vB (eqP x y i 0 0 true)) rfl) (⟨by rw [show onN c x y i = (eqP x y i 0 0 true) from by simp [onN, eqP, *]]; rfl, hE.keep.below⟩)).1
 ·
  refine wp_skip ?_
  refine then_normal ?_
  rcases Bool.eq_false_or_eq_true (decide (x < c.p)) with hb2 | hb2
  ·
   have hb2p := of_decide_eq_true hb2
   rcases Bool.eq_false_or_eq_true (decide (y < c.p)) with hb3 | hb3
   ·
    have hb3p := of_decide_eq_true hb3
    refine sq_d hE [Rw 10 (vX gc 0) [(0, vX gc 0)], Rw 11 (vX gc 0) [(10, vX gc 0)], Rw 12 (vX gc 59) [(11, vX gc 0)], Rw 13 (vX gf 0) [(12, vX gc 59)], Rw 14 (vP 3 0) [(3, vP 3 0)], Rw 15 (.agg (U9 x)) [(14, vP 3 0)] [(3, (.sc (U9 x ++ U9 y ++ [(bo i)]), 45))], Rw 16 (vB (decide (x < c.p))) [(13, vX gf 0), (15, .agg (U9 x))], Rw 17 (vB true) [(16, vB (decide (x < c.p)))], Rw 18 (vX gc 0) [(0, vX gc 0), (17, vB true)], Rw 19 (vX gc 0) [(18, vX gc 0), (17, vB true)], Rw 20 (vX gc 59) [(19, vX gc 0), (17, vB true)], Rw 21 (vX gf 0) [(20, vX gc 59), (17, vB true)], Rw 22 (vP 3 9) [(3, vP 3 0), (17, vB true)], Rw 23 (.agg (U9 y)) [(22, vP 3 9), (17, vB true)] [(3, (.sc (U9 x ++ U9 y ++ [(bo i)]), 45))], Rw 24 (vB (decide (y < c.p))) [(21, vX gf 0), (23, .agg (U9 y)), (17, vB true)], Rw 25 (vB (decide (y < c.p))) [(17, vB true), (24, vB (decide (y < c.p)))], Rw 26 (vB true) [(25, vB (decide (y < c.p)))], Rw 27 (vX gc 0) [(0, vX gc 0), (26, vB true)], Rw 28 (vX gc 0) [(27, vX gc 0), (26, vB true)], Rw 29 (vX gc 59) [(28, vX gc 0), (26, vB true)], Rw 30 (vX gf 0) [(29, vX gc 59), (26, vB true)], Rw 31 (vP 3 9) [(3, vP 3 0), (26, vB true)], Rw 32 (.agg (U9 y)) [(31, vP 3 9), (26, vB true)] [(3, (.sc (U9 x ++ U9 y ++ [(bo i)]), 45))], Rw 33 (vP 3 9) [(3, vP 3 0), (26, vB true)], Rw 34 (.agg (U9 y)) [(33, vP 3 9), (26, vB true)] [(3, (.sc (U9 x ++ U9 y ++ [(bo i)]), 45))], Rw 35 (.agg (U9 (mulm c.p y y))) [(30, vX gf 0), (32, .agg (U9 y)), (34, .agg (U9 y)), (26, vB true)], Rw 36 (vX gc 0) [(0, vX gc 0), (26, vB true)], Rw 37 (vP 3 0) [(3, vP 3 0), (26, vB true)], Rw 38 (.agg (U9 x)) [(37, vP 3 0), (26, vB true)] [(3, (.sc (U9 x ++ U9 y ++ [(bo i)]), 45))], Rw 39 (.agg (U9 (rightN c x))) [(36, vX gc 0), (38, .agg (U9 x)), (26, vB true)], Rw 40 (vB (decide (mulm c.p y y = rightN c x))) [(35, .agg (U9 (mulm c.p y y))), (39, .agg (U9 (rightN c x))), (26, vB true)], Rw 41 (vB (decide (mulm c.p y y = rightN c x))) [(26, vB true), (40, vB (decide (mulm c.p y y = rightN c x)))], Rw 4 (vB (decide (mulm c.p y y = rightN c x))) [(41, vB (decide (mulm c.p y y = rightN c x)))]] [(3, vP 3 0), (4, vB (decide (mulm c.p y y = rightN c x)))] [(3, (.sc (U9 x ++ U9 y ++ [(bo i)]), 45))] ⟨tp, tp, tp, tlx1 (fun w hk => (H.keep hk).hc) on108, tp, tl ag37, tt fun γ w hk hf hks => fld_Has gf gd c.p x (by have := K.p1; omega) K.p5 (by omega) w (H.keep hk).hf (H.keep hk).hd, tE fun _ => congrArg Value.bool hb2, ton tp, ton tp, ton tp, ton (tlx1 (fun w hk => (H.keep hk).hc) on108), ton tp, ton (tl ag37), ton (tt fun γ w hk hf hks => fld_Has gf gd c.p y (by have := K.p1; omega) K.p5 (by omega) w (H.keep hk).hf (H.keep hk).hd), tp, tE fun _ => congrArg Value.bool hb3, ton tp, ton tp, ton tp, ton (tlx1 (fun w hk => (H.keep hk).hc) on108), ton tp, ton (tl ag37), ton tp, ton (tl ag37), ton (tt fun γ w hk hf hks => fld_Mul gf gd c.p y y (by have := K.p1; omega) K.p5 (lt_576 (by omega) K.p5) (lt_576 (by omega) K.p5) w (H.keep hk).hf (H.keep hk).hd), ton tp, ton tp, ton (tl ag37), ton (tt fun γ w hk hf hks => cv_Right gc gf gd c x K (by omega) w (H.keep hk)), ton (te_nat (mulm c.p y y) (rightN c x) (by omega) (by omega)), tp, tp, trivial⟩ ?_
    clear hE; intro γ ac wc hE
    refine wp_ret ?_
    exact (end1 hE rfl (.tmp 4 (vB (decide (mulm c.p y y = rightN c x))) rfl) (⟨by rw [show onN c x y i = (decide (mulm c.p y y = rightN c x)) from by simp [onN, *]]; rfl, hE.keep.below⟩)).1
   ·
    have hb3p := of_decide_eq_false hb3
    refine sq_d hE [Rw 10 (vX gc 0) [(0, vX gc 0)], Rw 11 (vX gc 0) [(10, vX gc 0)], Rw 12 (vX gc 59) [(11, vX gc 0)], Rw 13 (vX gf 0) [(12, vX gc 59)], Rw 14 (vP 3 0) [(3, vP 3 0)], Rw 15 (.agg (U9 x)) [(14, vP 3 0)] [(3, (.sc (U9 x ++ U9 y ++ [(bo i)]), 45))], Rw 16 (vB (decide (x < c.p))) [(13, vX gf 0), (15, .agg (U9 x))], Rw 17 (vB true) [(16, vB (decide (x < c.p)))], Rw 18 (vX gc 0) [(0, vX gc 0), (17, vB true)], Rw 19 (vX gc 0) [(18, vX gc 0), (17, vB true)], Rw 20 (vX gc 59) [(19, vX gc 0), (17, vB true)], Rw 21 (vX gf 0) [(20, vX gc 59), (17, vB true)], Rw 22 (vP 3 9) [(3, vP 3 0), (17, vB true)], Rw 23 (.agg (U9 y)) [(22, vP 3 9), (17, vB true)] [(3, (.sc (U9 x ++ U9 y ++ [(bo i)]), 45))], Rw 24 (vB (decide (y < c.p))) [(21, vX gf 0), (23, .agg (U9 y)), (17, vB true)], Rw 25 (vB (decide (y < c.p))) [(17, vB true), (24, vB (decide (y < c.p)))], Rw 26 (vB false) [(25, vB (decide (y < c.p)))], Rw 27 vU [(26, vB false)], Rw 28 vU [(26, vB false)], Rw 29 vU [(26, vB false)], Rw 30 vU [(26, vB false)], Rw 31 vU [(26, vB false)], Rw 32 vU [(26, vB false)], Rw 33 vU [(26, vB false)], Rw 34 vU [(26, vB false)], Rw 35 vU [(26, vB false)], Rw 36 vU [(26, vB false)], Rw 37 vU [(26, vB false)], Rw 38 vU [(26, vB false)], Rw 39 vU [(26, vB false)], Rw 40 vU [(26, vB false)], Rw 41 (vB false) [(26, vB false), (40, vU)], Rw 4 (vB false) [(41, vB false)]] [(3, vP 3 0), (4, vB false)] [(3, (.sc (U9 x ++ U9 y ++ [(bo i)]), 45))] ⟨tp, tp, tp, tlx1 (fun w hk => (H.keep hk).hc) on108, tp, tl ag37, tt fun γ w hk hf hks => fld_Has gf gd c.p x (by have := K.p1; omega) K.p5 (by omega) w (H.keep hk).hf (H.keep hk).hd, tE fun _ => congrArg Value.bool hb2, ton tp, ton tp, ton tp, ton (tlx1 (fun w hk => (H.keep hk).hc) on108), ton tp, ton (tl ag37), ton (tt fun γ w hk hf hks => fld_Has gf gd c.p y (by have := K.p1; omega) K.p5 (by omega) w (H.keep hk).hf (H.keep hk).hd), tp, tE fun _ => congrArg Value.bool hb3, tof, tof, tof, tof, tof, tof, tof, tof, tof, tof, tof, tof, tof, tof, tp, tp, trivial⟩ ?_
    clear hE; intro γ ac wc hE
    refine wp_ret ?_
    exact (end1 hE rfl (.tmp 4 (vB false) rfl) (⟨by rw [show onN c x y i = (false) from by simp [onN, *]]; rfl, hE.keep.below⟩)).1
  ·
   have hb2p := of_decide_eq_false hb2
   refine sq_d hE [Rw 10 (vX gc 0) [(0, vX gc 0)], Rw 11 (vX gc 0) [(10, vX gc 0)], Rw 12 (vX gc 59) [(11, vX gc 0)], Rw 13 (vX gf 0) [(12, vX gc 59)], Rw 14 (vP 3 0) [(3, vP 3 0)], Rw 15 (.agg (U9 x)) [(14, vP 3 0)] [(3, (.sc (U9 x ++ U9 y ++ [(bo i)]), 45))], Rw 16 (vB (decide (x < c.p))) [(13, vX gf 0), (15, .agg (U9 x))], Rw 17 (vB false) [(16, vB (decide (x < c.p)))], Rw 18 vU [(17, vB false)], Rw 19 vU [(17, vB false)], Rw 20 vU [(17, vB false)], Rw 21 vU [(17, vB false)], Rw 22 vU [(17, vB false)], Rw 23 vU [(17, vB false)], Rw 24 vU [(17, vB false)], Rw 25 (vB false) [(17, vB false), (24, vU)], Rw 26 (vB false) [(25, vB false)], Rw 27 vU [(26, vB false)], Rw 28 vU [(26, vB false)], Rw 29 vU [(26, vB false)], Rw 30 vU [(26, vB false)], Rw 31 vU [(26, vB false)], Rw 32 vU [(26, vB false)], Rw 33 vU [(26, vB false)], Rw 34 vU [(26, vB false)], Rw 35 vU [(26, vB false)], Rw 36 vU [(26, vB false)], Rw 37 vU [(26, vB false)], Rw 38 vU [(26, vB false)], Rw 39 vU [(26, vB false)], Rw 40 vU [(26, vB false)], Rw 41 (vB false) [(26, vB false), (40, vU)], Rw 4 (vB false) [(41, vB false)]] [(3, vP 3 0), (4, vB false)] [(3, (.sc (U9 x ++ U9 y ++ [(bo i)]), 45))] ⟨tp, tp, tp, tlx1 (fun w hk => (H.keep hk).hc) on108, tp, tl ag37, tt fun γ w hk hf hks => fld_Has gf gd c.p x (by have := K.p1; omega) K.p5 (by omega) w (H.keep hk).hf (H.keep hk).hd, tE fun _ => congrArg Value.bool hb2, tof, tof, tof, tof, tof, tof, tof, tp, tp, tof, tof, tof, tof, tof, tof, tof, tof, tof, tof, tof, tof, tof, tof, tp, tp, trivial⟩ ?_
   clear hE; intro γ ac wc hE
   refine wp_ret ?_
   exact (end1 hE rfl (.tmp 4 (vB false) rfl) (⟨by rw [show onN c x y i = (false) from by simp [onN, *]]; rfl, hE.keep.below⟩)).1
end Go.Proofs.Ytddfimfgcfgpbaa
