/-
  Numbers of the references: inverses.
-/
import Derived.Test.YtddfimfgcfgpbaaSTf
import Derived.Test.YtddfimfgcfgpbaaSRu
import Derived.Test.YtddfimfgcfgpbaaSXd
import Derived.Test.YtddfimfgcfgpbaaSXe
namespace Go.Proofs.Ytddfimfgcfgpbaa
open Sx
open Go.RowKit (Below)
set_option exponentiation.threshold 2000
theorem r1_Inverse {k m x p : Nat} (hx : nd x ≤ 150) (hp : nd p ≤ 150) (hp1 : 1 < p) (hg : Nat.gcd x p = 1) (w0 : World) (h1 : Num w0 k x) (h2 : Num w0 m p) : Calls Try.prog 94 #[dec k, dec m] w0 (NRet w0 [k, m] [invm x p] fun f => .tuple #[dec (f 0), .bool true]) := by
 have nxp := nd_mod (x := x) (show 0 < p by omega)
 have hmp : x % p < p := Nat.mod_lt _ (by omega)
 refine enter_n [(900, k, (nd x), x), (901, m, (nd p), p)] [(0, vM 900), (1, vM 901)] Try.func94 rfl rfl ⟨h1, h2, trivial⟩ ?_
 intro γ ac hE
 replace hE : Env _ _ _ w0 (lk [(0, vM 900), (1, vM 901)]) (lk [(900, (.abs (numA x), 0)), (901, (.abs (numA p), 0))]) γ ac w0 := hE
 refine sq_t hE [Rw 4 (.s (.v (.slice none 0 0))), Rw 5 (vB false)] [(0, vM 900), (1, vM 901), (4, .s (.v (.slice none 0 0))), (5, vB false)] [(900, (.abs (numA x), 0)), (901, (.abs (numA p), 0))] ⟨tp, tp, trivial⟩ ?_
 clear hE; intro γ ac wc hE
 refine wp_seq ?_
 refine sq_t hE [Rw 13 (vM 901) [(1, vM 901)], Rw 14 (vM 14) [] [] [(14, (.abs (numA 1), 0))], Rn 15 (.s (inI .i64 (cmp3 p 1))) [(13, vM 901), (14, vM 14)] [(901, p), (14, 1)] [], Rw 16 (vB (decide (p ≤ 1))) [(15, .s (inI .i64 (cmp3 p 1)))]] [(0, vM 900), (1, vM 901), (4, .s (.v (.slice none 0 0))), (5, vB false), (16, vB (decide (p ≤ 1)))] [(14, (.abs (numA 1), 0)), (900, (.abs (numA x), 0)), (901, (.abs (numA p), 0))] ⟨tp, tbn (T := 81) (n := 1), tnv fun γ w h => r1_Cmp (x := p) (y := 1) (by omega) (by decide) w h.1 h.2.1, tE (x := .bool (decide ((cmp3 p 1) ≤ ((0 : Nat) : Int)))) fun _ => (congrArg Value.bool (c3_leq p 1)), trivial⟩ ?_
 clear hE; intro γ ac wc hE
 refine cond_sx hE rfl (fun hb1 => ?_) (fun hb1 => ?_)
 ·
  have hb1p := of_decide_eq_true hb1
  exact absurd hb1p (by omega)
 ·
  have hb1p := of_decide_eq_false hb1
  refine wp_skip ?_
  refine then_normal ?_
  refine sq_t hE [Rw 17 (.s (.sl 17 0 0 0)) [] [] [(17, (.sc [], 81))], Rw 18 (vM 901) [(1, vM 901)], Rw 19 (vM 19) [(17, .s (.sl 17 0 0 0)), (18, vM 901)] [(901, (.abs (numA p), 0)), (17, (.sc [], 81))] [(19, (.abs (numA p), 0))], Rw 20 (vM 900) [(0, vM 900)], Rw 21 (vM 901) [(1, vM 901)], Rn 22 (vM 22) [(20, vM 900), (21, vM 901)] [(900, x), (901, p)] [(22, x % p)], Rw 6 (vM 19) [(19, vM 19)], Rw 7 (vM 22) [(22, vM 22)]] [(1, vM 901), (4, .s (.v (.slice none 0 0))), (5, vB false), (6, vM 19), (7, vM 22)] [(14, (.abs (numA 1), 0)), (17, (.sc [], 81)), (19, (.abs (numA p), 0)), (22, (.abs (numA (x % p)), 0)), (900, (.abs (numA x), 0)), (901, (.abs (numA p), 0))] ⟨tbs, tp, tcl el25, tp, tp, tnc fun γ w h => r1_Mod (x := x) (y := p) (by omega) (by omega) (by omega) w h.1 h.2.1, tp, tp, trivial⟩ ?_
  clear hE; intro γ ac wc hE
  refine sq_t hE [Rw 8 (vM 20008) [] [] [(20008, (.abs (numA 0), 0))]] [(1, vM 901), (4, .s (.v (.slice none 0 0))), (5, vB false), (6, vM 19), (7, vM 22), (8, vM 20008)] [(14, (.abs (numA 1), 0)), (17, (.sc [], 81)), (19, (.abs (numA p), 0)), (22, (.abs (numA (x % p)), 0)), (900, (.abs (numA x), 0)), (901, (.abs (numA p), 0)), (20008, (.abs (numA 0), 0))] ⟨tnil, trivial⟩ ?_
  clear hE; intro γ ac wc hE
  refine sq_t hE [Rw 23 (vM 23) [] [] [(23, (.abs (numA 1), 0))], Rw 9 (vM 23) [(23, vM 23)]] [(1, vM 901), (4, .s (.v (.slice none 0 0))), (5, vB false), (6, vM 19), (7, vM 22), (8, vM 20008), (9, vM 23)] [(14, (.abs (numA 1), 0)), (17, (.sc [], 81)), (19, (.abs (numA p), 0)), (22, (.abs (numA (x % p)), 0)), (23, (.abs (numA 1), 0)), (900, (.abs (numA x), 0)), (901, (.abs (numA p), 0)), (20008, (.abs (numA 0), 0))] ⟨tbn (T := 81) (n := 1), tp, trivial⟩ ?_
  clear hE; intro γ ac wc hE
  refine wp_seq ?_
  refine wp_block ?_
  refine loop_sx (σ := Nat × Nat × Nat × Nat) (fun (o, n, s, t) => n) (fun (o, n, s, t) => InvI x p o n s t)
      (fun (o, n, s, t) => [(1, vM 901), (4, .s (.v (.slice none 0 0))), (5, vB false), (6, vM 600), (7, vM 601), (8, vM 602), (9, vM 603)])
      (fun (o, n, s, t) => [(600, (.abs (numA o), 0)), (601, (.abs (numA n), 0)), (602, (.abs (numA s), 0)), (603, (.abs (numA t), 0)), (900, (.abs (numA x), 0)), (901, (.abs (numA p), 0))])
      ((p, x % p, 0, 1)) ((invI_start hp1 hg)) (hE.ren [(600, 19), (601, 22), (602, 20008), (603, 23)] (by kernel_rfl) (by kernel_rfl) (by kernel_rfl)) ?_
  clear hE; rintro ⟨o, n, s, t⟩ γ ac wc ig hE
  replace ig : InvI x p o n s t := ig
  replace hE : Env _ _ _ w0 (lk [(1, vM 901), (4, .s (.v (.slice none 0 0))), (5, vB false), (6, vM 600), (7, vM 601), (8, vM 602), (9, vM 603)]) (lk [(600, (.abs (numA o), 0)), (601, (.abs (numA n), 0)), (602, (.abs (numA s), 0)), (603, (.abs (numA t), 0)), (900, (.abs (numA x), 0)), (901, (.abs (numA p), 0))]) γ ac wc := hE
  obtain ⟨_, _, _, ig1, ig2, ig3, ig4⟩ := id ig
  have no := nd_mono ig1
  have nn := nd_mono ig2
  have ns := nd_mono (Nat.le_of_lt ig3)
  have nt := nd_mono (Nat.le_of_lt ig4)
  refine wp_seq ?_
  refine sq_t hE [Rw 24 (vM 601) [(7, vM 601)], Rw 25 (vI (nd n)) [(24, vM 601)] [(601, (.abs (numA n), 0))], Rw 26 (vB (decide (0 < nd n))) [(25, vI (nd n))]] [(1, vM 901), (4, .s (.v (.slice none 0 0))), (5, vB false), (6, vM 600), (7, vM 601), (8, vM 602), (9, vM 603), (26, vB (decide (0 < nd n)))] [(600, (.abs (numA o), 0)), (601, (.abs (numA n), 0)), (602, (.abs (numA s), 0)), (603, (.abs (numA t), 0)), (900, (.abs (numA x), 0)), (901, (.abs (numA p), 0))] ⟨tp, tnl sl25, tE fun _ => d_gtr _ _, trivial⟩ ?_
  clear hE; intro γ ac wc hE
  refine cond_sx hE rfl (fun hb2 => ?_) (fun hb2 => ?_)
  ·
   have hb2p := of_decide_eq_true hb2
   refine wp_skip ?_
   refine then_normal ?_
   refine wp_block ?_
   have hn0 : 0 < n := nd_pos' (by assumption)
   have nq := nd_mono (Nat.div_le_self o n)
   have nr := nd_mod (x := o) hn0
   have nqp := nd_mod (x := o / n) (show 0 < p by omega)
   have nl := nd_mod (x := o / n * t) (show 0 < p by omega)
   have hlp := Nat.mod_lt (o / n * t) (show 0 < p by omega)
   refine sq_t hE [Rw 28 (vM 600) [(6, vM 600)], Rw 29 (vM 601) [(7, vM 601)], Rn 30 (.two (vM 30) (vM 10030)) [(28, vM 600), (29, vM 601)] [(600, o), (601, n)] [(30, o / n), (10030, o % n)], Rw 27 (.two (vM 30) (vM 10030)) [(30, .two (vM 30) (vM 10030))], Rw 31 (vM 30) [(27, .two (vM 30) (vM 10030))], Rw 32 (vM 10030) [(27, .two (vM 30) (vM 10030))], Rw 10 (vM 30) [(31, vM 30)], Rw 11 (vM 10030) [(32, vM 10030)]] [(1, vM 901), (4, .s (.v (.slice none 0 0))), (5, vB false), (6, vM 600), (7, vM 601), (8, vM 602), (9, vM 603), (10, vM 30), (11, vM 10030)] [(30, (.abs (numA (o / n)), 0)), (600, (.abs (numA o), 0)), (601, (.abs (numA n), 0)), (602, (.abs (numA s), 0)), (603, (.abs (numA t), 0)), (900, (.abs (numA x), 0)), (901, (.abs (numA p), 0)), (10030, (.abs (numA (o % n)), 0))] ⟨tp, tp, tnc fun γ w h => r1_Div (x := o) (y := n) (by omega) (by omega) hn0 w h.1 h.2.1, tp, tp, tp, tp, tp, trivial⟩ ?_
   clear hE; intro γ ac wc hE
   refine sq_t hE [Rw 33 (vM 602) [(8, vM 602)], Rw 34 (vM 30) [(10, vM 30)], Rw 35 (vM 901) [(1, vM 901)], Rn 36 (vM 36) [(34, vM 30), (35, vM 901)] [(30, o / n), (901, p)] [(36, (o / n) % p)], Rw 37 (vM 603) [(9, vM 603)], Rw 38 (vM 901) [(1, vM 901)], Rn 39 (vM 39) [(36, vM 36), (37, vM 603), (38, vM 901)] [(36, (o / n) % p), (603, t), (901, p)] [(39, o / n * t % p)], Rw 40 (vM 901) [(1, vM 901)], Rn 41 (vM 41) [(33, vM 602), (39, vM 39), (40, vM 901)] [(602, s), (39, o / n * t % p), (901, p)] [(41, sbm p s (o / n * t % p))], Rw 12 (vM 41) [(41, vM 41)]] [(1, vM 901), (4, .s (.v (.slice none 0 0))), (5, vB false), (6, vM 600), (7, vM 601), (8, vM 602), (9, vM 603), (11, vM 10030), (12, vM 41)] [(30, (.abs (numA (o / n)), 0)), (36, (.abs (numA ((o / n) % p)), 0)), (39, (.abs (numA (o / n * t % p)), 0)), (41, (.abs (numA (sbm p s (o / n * t % p))), 0)), (600, (.abs (numA o), 0)), (601, (.abs (numA n), 0)), (602, (.abs (numA s), 0)), (603, (.abs (numA t), 0)), (900, (.abs (numA x), 0)), (901, (.abs (numA p), 0)), (10030, (.abs (numA (o % n)), 0))] ⟨tp, tp, tp, tnc fun γ w h => r1_Mod (x := o / n) (y := p) (by omega) (by omega) (by omega) w h.1 h.2.1, tp, tp, tnc fun γ w h => by rw [← Nat.mod_mul_mod (o / n)]; exact r1_MulMod (x := (o / n) % p) (y := t) (p := p) (by omega) (by omega) (by omega) (by omega) w h.1 h.2.1 h.2.2.1, tp, tnc fun γ w h => by rw [← sbm_mod ig3 hlp]; exact r1_SubMod (x := s) (y := o / n * t % p) (p := p) (by omega) (by omega) (by omega) (by omega) hlp w h.1 h.2.1 h.2.2.1, tp, trivial⟩ ?_
   clear hE; intro γ ac wc hE
   refine sq_t hE [Rw 42 (vM 601) [(7, vM 601)], Rw 6 (vM 601) [(42, vM 601)]] [(1, vM 901), (4, .s (.v (.slice none 0 0))), (5, vB false), (6, vM 601), (7, vM 601), (8, vM 602), (9, vM 603), (11, vM 10030), (12, vM 41)] [(30, (.abs (numA (o / n)), 0)), (36, (.abs (numA ((o / n) % p)), 0)), (39, (.abs (numA (o / n * t % p)), 0)), (41, (.abs (numA (sbm p s (o / n * t % p))), 0)), (600, (.abs (numA o), 0)), (601, (.abs (numA n), 0)), (602, (.abs (numA s), 0)), (603, (.abs (numA t), 0)), (900, (.abs (numA x), 0)), (901, (.abs (numA p), 0)), (10030, (.abs (numA (o % n)), 0))] ⟨tp, tp, trivial⟩ ?_
   clear hE; intro γ ac wc hE
   refine sq_t hE [Rw 43 (.s (.sl 43 0 0 0)) [] [] [(43, (.sc [], 81))], Rw 44 (vM 10030) [(11, vM 10030)], Rw 45 (vM 45) [(43, .s (.sl 43 0 0 0)), (44, vM 10030)] [(10030, (.abs (numA (o % n)), 0)), (43, (.sc [], 81))] [(45, (.abs (numA (o % n)), 0))], Rw 7 (vM 45) [(45, vM 45)]] [(1, vM 901), (4, .s (.v (.slice none 0 0))), (5, vB false), (6, vM 601), (7, vM 45), (8, vM 602), (9, vM 603), (12, vM 41)] [(30, (.abs (numA (o / n)), 0)), (36, (.abs (numA ((o / n) % p)), 0)), (39, (.abs (numA (o / n * t % p)), 0)), (41, (.abs (numA (sbm p s (o / n * t % p))), 0)), (43, (.sc [], 81)), (45, (.abs (numA (o % n)), 0)), (600, (.abs (numA o), 0)), (601, (.abs (numA n), 0)), (602, (.abs (numA s), 0)), (603, (.abs (numA t), 0)), (900, (.abs (numA x), 0)), (901, (.abs (numA p), 0)), (10030, (.abs (numA (o % n)), 0))] ⟨tbs, tp, tcl el25, tp, trivial⟩ ?_
   clear hE; intro γ ac wc hE
   refine sq_t hE [Rw 46 (vM 603) [(9, vM 603)], Rw 8 (vM 603) [(46, vM 603)]] [(1, vM 901), (4, .s (.v (.slice none 0 0))), (5, vB false), (6, vM 601), (7, vM 45), (8, vM 603), (9, vM 603), (12, vM 41)] [(30, (.abs (numA (o / n)), 0)), (36, (.abs (numA ((o / n) % p)), 0)), (39, (.abs (numA (o / n * t % p)), 0)), (41, (.abs (numA (sbm p s (o / n * t % p))), 0)), (43, (.sc [], 81)), (45, (.abs (numA (o % n)), 0)), (600, (.abs (numA o), 0)), (601, (.abs (numA n), 0)), (602, (.abs (numA s), 0)), (603, (.abs (numA t), 0)), (900, (.abs (numA x), 0)), (901, (.abs (numA p), 0)), (10030, (.abs (numA (o % n)), 0))] ⟨tp, tp, trivial⟩ ?_
   clear hE; intro γ ac wc hE
   refine rg_t hE [Rw 47 (vM 41) [(12, vM 41)], Rw 9 (vM 41) [(47, vM 41)]] [(1, vM 901), (4, .s (.v (.slice none 0 0))), (5, vB false), (6, vM 601), (7, vM 45), (8, vM 603), (9, vM 41)] [(30, (.abs (numA (o / n)), 0)), (36, (.abs (numA ((o / n) % p)), 0)), (39, (.abs (numA (o / n * t % p)), 0)), (41, (.abs (numA (sbm p s (o / n * t % p))), 0)), (43, (.sc [], 81)), (45, (.abs (numA (o % n)), 0)), (600, (.abs (numA o), 0)), (601, (.abs (numA n), 0)), (602, (.abs (numA s), 0)), (603, (.abs (numA t), 0)), (900, (.abs (numA x), 0)), (901, (.abs (numA p), 0)), (10030, (.abs (numA (o % n)), 0))] ⟨tp, tp, trivial⟩ ?_
   clear hE; intro γ ac wc hE
   refine blk_normal ?_
   refine then_normal ⟨(n, o % n, t, sbm p s (o / n * t % p)), (by show o % n < n; exact Nat.mod_lt _ hn0), invI_step (by omega) (by omega) ig, _, hE.ren [(600, 601), (601, 45), (602, 603), (603, 41)] (by kernel_rfl) (by kernel_rfl) (by kernel_rfl)⟩
  ·
   have hb2p := of_decide_eq_false hb2
   refine wp_exit ?_
   refine then_exit ?_
   refine then_exit ?_
   refine blk_hit ?_
   refine then_normal ?_
   refine wp_seq ?_
   have hn0 : n = 0 := Nat.eq_zero_of_not_pos fun h => by have := nd_pos h; omega
   have hie := invI_end hp1 hn0 ig hg
   have no1 := nd_mono ig1
   refine sq_t hE [Rw 48 (vM 600) [(6, vM 600)], Rw 49 (vM 49) [] [] [(49, (.abs (numA 1), 0))], Rn 50 (.s (inI .i64 (cmp3 o 1))) [(48, vM 600), (49, vM 49)] [(600, o), (49, 1)] [], Rw 51 (vB (!decide (o = 1))) [(50, .s (inI .i64 (cmp3 o 1)))]] [(1, vM 901), (4, .s (.v (.slice none 0 0))), (5, vB false), (6, vM 600), (7, vM 601), (8, vM 602), (9, vM 603), (51, vB (!decide (o = 1)))] [(49, (.abs (numA 1), 0)), (600, (.abs (numA o), 0)), (601, (.abs (numA n), 0)), (602, (.abs (numA s), 0)), (603, (.abs (numA t), 0)), (900, (.abs (numA x), 0)), (901, (.abs (numA p), 0))] ⟨tp, tbn (T := 81) (n := 1), tnv fun γ w h => r1_Cmp (x := o) (y := 1) (by omega) (by decide) w h.1 h.2.1, tE (x := .bool ((cmp3 o 1) != ((0 : Nat) : Int))) fun _ => (congrArg Value.bool (c3_ne o 1)), trivial⟩ ?_
   clear hE; intro γ ac wc hE
   refine cond_sx hE rfl (fun hb3 => ?_) (fun hb3 => ?_)
   ·
    have hb3d : decide (o = 1) = false := by simpa using hb3
    have hb3p := of_decide_eq_false hb3d
    exact absurd hie.1 hb3p
   ·
    have hb3d : decide (o = 1) = true := by simpa using hb3
    have hb3p := of_decide_eq_true hb3d
    refine wp_skip ?_
    refine then_normal ?_
    refine sq_t hE [Rw 52 (vM 602) [(8, vM 602)], Rw 4 (vM 602) [(52, vM 602)], Rw 5 (vB true)] [(1, vM 901), (4, vM 602), (5, vB true), (6, vM 600), (7, vM 601), (8, vM 602), (9, vM 603)] [(49, (.abs (numA 1), 0)), (600, (.abs (numA o), 0)), (601, (.abs (numA n), 0)), (602, (.abs (numA s), 0)), (603, (.abs (numA t), 0)), (900, (.abs (numA x), 0)), (901, (.abs (numA p), 0))] ⟨tp, tp, tp, trivial⟩ ?_
    clear hE; intro γ ac wc hE
    refine wp_ret ?_
    exact (end2 hE rfl (.tmp 4 (vM 602) rfl) (.tmp 5 (vB true) rfl) (by rw [← hie.2]; exact nret hE [(602, s)])).1
end Go.Proofs.Ytddfimfgcfgpbaa
