/-
  Numbers of the references: a step of long division.
-/
import Derived.Test.YtddfimfgcfgpbaaSTf
import Derived.Test.YtddfimfgcfgpbaaSRd
import Derived.Test.YtddfimfgcfgpbaaSXd
namespace Go.Proofs.Ytddfimfgcfgpbaa
open Sx
open Go.RowKit (Below)
set_option exponentiation.threshold 2000
theorem dv_succ32 {d r y1 U : Nat} (h0 : 0 < d) (h : d * y1 + r = U) : (d - 1) * y1 + (r + y1) = U := by
  obtain ⟨k, rfl⟩ : ∃ k, d = k + 1 := ⟨d - 1, by omega⟩
  rw [Nat.add_mul] at h
  simp only [Nat.add_sub_cancel]
  omega
theorem sp_brk {X v1 v2 d r : Nat} (hd : d * v1 + r = X) (h : X ≤ v1 * 4294967296 + v2) (h2 : v2 < 4294967296) (hr : 4294967296 ≤ r) : d < 4294967296 := by
  refine Nat.lt_of_not_le fun hc => ?_
  have h3 : 4294967296 * v1 ≤ d * v1 := Nat.mul_le_mul_right _ hc
  rw [Nat.mul_comm v1] at h
  omega
theorem sp_d0 {X v1 v2 : Nat} (h : X ≤ v1 * 4294967296 + v2) (h2 : v2 < 4294967296) (h1 : 2147483648 ≤ v1) : X / v1 ≤ 4294967297 := by
  refine Nat.le_of_lt_succ ((Nat.div_lt_iff_lt_mul (by omega)).2 ?_)
  omega
set_option maxHeartbeats 1000000 in
theorem r1_step {gu kv nu cap U V j : Nat} (h2 : 2 ≤ nd V) (hn : 2 ^ (32 * nd V) ≤ 2 * V) (hj : j + nd V < nu) (hnu : nu ≤ 2000) (hU : U < V * 2 ^ (32 * (j + 1))) (w0 : World) (hu : w0.heap[gu]? = some (.cells (Vn nu U).toArray 81 (0, 0))) (hv : Num w0 kv V) (hne : ¬ Nb kv gu) : Calls Try.prog 121 #[.slice (some ⟨gu, 0, none⟩) nu cap, dec kv, .int .i64 (j : Int)] w0 fun e w => e = .returned (.int .u64 (U / 2 ^ (32 * j) / V : Nat)) ∧ Only gu w0 w ∧ w.heap[gu]? = some (.cells (Vn nu (U - U / 2 ^ (32 * j) / V * V * 2 ^ (32 * j))).toArray 81 (0, 0)) := by
 obtain ⟨C, q, hC, hq, hv12, hV12, hW3, hQ, hQB, hv1, hUb, hXv, hV0⟩ := sp_setup h2 hn hU
 refine enter_e [(100, gu, (.pl (Vn nu U), 81)), (900, kv, (.abs (numA V), 0))] [(0, .s (.sl 100 0 nu cap)), (1, vM 900), (2, vI j)] 200 Try.func121 rfl rfl (Nat.le_of_ble_eq_true (by kernel_rfl)) (by kernel_rfl) (by kernel_rfl) ⟨hu.trans (congrArg some (pl_obj _ _ _).symm), hv, trivial⟩ (apart_pn hne) ?_
 intro γ ac hE
 replace hE : Env _ _ _ w0 (lk [(0, .s (.sl 100 0 nu cap)), (1, vM 900), (2, vI j)]) (lk [(100, (.pl (Vn nu U), 81)), (900, (.abs (numA V), 0))]) γ ac w0 := hE
 refine sq_t hE [Rw 6 (vW 0)] [(0, .s (.sl 100 0 nu cap)), (1, vM 900), (2, vI j), (6, vW 0)] [(100, (.pl (Vn nu U), 81)), (900, (.abs (numA V), 0))] ⟨tp, trivial⟩ ?_
 clear hE; intro γ ac wc hE
 refine sq_t hE [Rw 19 (vM 900) [(1, vM 900)], Rw 20 (vI (nd V)) [(19, vM 900)] [(900, (.abs (numA V), 0))], Rw 7 (vI (nd V)) [(20, vI (nd V))]] [(0, .s (.sl 100 0 nu cap)), (1, vM 900), (2, vI j), (6, vW 0), (7, vI (nd V))] [(100, (.pl (Vn nu U), 81)), (900, (.abs (numA V), 0))] ⟨tp, tnl sl25, tp, trivial⟩ ?_
 clear hE; intro γ ac wc hE
 have b0 := dg32_lt U (j + nd V)
 have b1 := dg32_lt U (j + nd V - 1)
 have b2 := dg32_lt U (j + nd V - 2)
 have b3 := dg32_lt V (nd V - 1)
 have b4 := dg32_lt V (nd V - 2)
 refine sq_d hE [Rw 21 (.s (.sl 100 0 nu cap)) [(0, .s (.sl 100 0 nu cap))], Rw 22 (vI j) [(2, vI j)], Rw 23 (vI (nd V)) [(7, vI (nd V))], Rw 24 (vI (j + (nd V))) [(22, vI j), (23, vI (nd V))], Rw 25 (vP 100 (j + (nd V))) [(21, .s (.sl 100 0 nu cap)), (24, vI (j + (nd V)))], Rw 26 (.s (inN .u32 (dg32 U (j + (nd V))))) [(25, vP 100 (j + (nd V)))] [(100, (.pl (Vn nu U), 81))], Rw 27 (vW (dg32 U (j + (nd V)))) [(26, .s (inN .u32 (dg32 U (j + (nd V)))))], Rw 28 (vW (dg32 U (j + nd V) * 4294967296)) [(27, vW (dg32 U (j + (nd V))))], Rw 29 (.s (.sl 100 0 nu cap)) [(0, .s (.sl 100 0 nu cap))], Rw 30 (vI j) [(2, vI j)], Rw 31 (vI (nd V)) [(7, vI (nd V))], Rw 32 (vI (j + (nd V))) [(30, vI j), (31, vI (nd V))], Rw 33 (vI ((j + (nd V)) - 1)) [(32, vI (j + (nd V)))], Rw 34 (vP 100 ((j + (nd V)) - 1)) [(29, .s (.sl 100 0 nu cap)), (33, vI ((j + (nd V)) - 1))], Rw 35 (.s (inN .u32 (dg32 U ((j + (nd V)) - 1)))) [(34, vP 100 ((j + (nd V)) - 1))] [(100, (.pl (Vn nu U), 81))], Rw 36 (vW (dg32 U ((j + (nd V)) - 1))) [(35, .s (inN .u32 (dg32 U ((j + (nd V)) - 1))))], Rw 37 (vW (dg32 U (j + nd V) * 4294967296 + dg32 U (j + nd V - 1))) [(28, vW (dg32 U (j + nd V) * 4294967296)), (36, vW (dg32 U ((j + (nd V)) - 1)))], Rw 8 (vW (dg32 U (j + nd V) * 4294967296 + dg32 U (j + nd V - 1))) [(37, vW (dg32 U (j + nd V) * 4294967296 + dg32 U (j + nd V - 1)))]] [(0, .s (.sl 100 0 nu cap)), (1, vM 900), (2, vI j), (6, vW 0), (7, vI (nd V)), (8, vW (dg32 U (j + nd V) * 4294967296 + dg32 U (j + nd V - 1)))] [(100, (.pl (Vn nu U), 81)), (900, (.abs (numA V), 0))] ⟨tp, tp, tp, tE fun _ => wi_add, txs sl25, tlv on81, tE fun _ => wr_u64 rfl (Nat.lt_trans (dg32_lt _ _) (by decide)), trip_bin .shl 22 30 (.tmp 27) (.const (.int .u64 ((32 : Nat) : Int))) (.int .u64 ((dg32 U (j + (nd V)) : Nat) : Int)) (.int .u64 ((32 : Nat) : Int)) (.int .u64 ((dg32 U (j + nd V) * 4294967296 : Nat) : Int)) rfl rfl rfl (by kernel_rfl) rfl rfl (fun γ => by kernel_rfl) (fun γ => by kernel_rfl) (fun _ _ => rfl) (fun w => (b_shl_u64 _ _ _ (by decide)).trans (congrArg (fun n : Nat => Result.ok (Value.int .u64 (n : Int)) w) (Nat.mod_eq_of_lt (by omega)))) (fun γ => rfl), tp, tp, tp, tE fun _ => wi_add, tE fun _ => wi_sub, txs sl25, tlv on81, tE fun _ => wr_u64 rfl (Nat.lt_trans (dg32_lt _ _) (by decide)), trip_bin .or 22 22 (.tmp 28) (.tmp 36) (.int .u64 ((dg32 U (j + nd V) * 4294967296 : Nat) : Int)) (.int .u64 ((dg32 U ((j + (nd V)) - 1) : Nat) : Int)) (.int .u64 ((dg32 U (j + nd V) * 4294967296 + dg32 U (j + nd V - 1) : Nat) : Int)) rfl rfl rfl (by kernel_rfl) rfl rfl (fun γ => by kernel_rfl) (fun γ => by kernel_rfl) (fun _ _ => rfl) (fun w => (b_or_u64 _ _ (by omega) (by omega)).trans (congrArg (fun n : Nat => Result.ok (Value.int .u64 (n : Int)) w) (or32 b1))) (fun γ => rfl), tp, trivial⟩ ?_
 clear hE; intro γ ac wc hE
 obtain ⟨X, hX⟩ : ∃ z : Nat, z = dg32 U (j + nd V) * 4294967296 + dg32 U (j + nd V - 1) := ⟨_, rfl⟩
 rw [← hX] at hE
 rw [← hX] at hW3 hXv
 have hXb : X < 18446744073709551616 := by omega
 refine sq_d hE [Rw 38 (vW X) [(8, vW X)], Rw 39 (vM 900) [(1, vM 900)], Rw 40 (vI (nd V)) [(7, vI (nd V))], Rw 41 (vI ((nd V) - 1)) [(40, vI (nd V))], Rw 42 (.s (.nptr 900 ((nd V) - 1))) [(39, vM 900), (41, vI ((nd V) - 1))] [(900, (.abs (numA V), 0))], Rw 43 (.s (inN .u32 (dg32 V ((nd V) - 1)))) [(42, .s (.nptr 900 ((nd V) - 1)))] [(900, (.abs (numA V), 0))], Rw 44 (vW (dg32 V ((nd V) - 1))) [(43, .s (inN .u32 (dg32 V ((nd V) - 1))))], Rw 45 (vW (X / (dg32 V ((nd V) - 1)))) [(38, vW X), (44, vW (dg32 V ((nd V) - 1)))], Rw 46 (vW X) [(8, vW X)], Rw 47 (vM 900) [(1, vM 900)], Rw 48 (vI (nd V)) [(7, vI (nd V))], Rw 49 (vI ((nd V) - 1)) [(48, vI (nd V))], Rw 50 (.s (.nptr 900 ((nd V) - 1))) [(47, vM 900), (49, vI ((nd V) - 1))] [(900, (.abs (numA V), 0))], Rw 51 (.s (inN .u32 (dg32 V ((nd V) - 1)))) [(50, .s (.nptr 900 ((nd V) - 1)))] [(900, (.abs (numA V), 0))], Rw 52 (vW (dg32 V ((nd V) - 1))) [(51, .s (inN .u32 (dg32 V ((nd V) - 1))))], Rw 53 (vW (X % (dg32 V ((nd V) - 1)))) [(46, vW X), (52, vW (dg32 V ((nd V) - 1)))], Rw 9 (vW (X / (dg32 V ((nd V) - 1)))) [(45, vW (X / (dg32 V ((nd V) - 1))))], Rw 10 (vW (X % (dg32 V ((nd V) - 1)))) [(53, vW (X % (dg32 V ((nd V) - 1))))]] [(0, .s (.sl 100 0 nu cap)), (1, vM 900), (2, vI j), (6, vW 0), (7, vI (nd V)), (9, vW (X / (dg32 V ((nd V) - 1)))), (10, vW (X % (dg32 V ((nd V) - 1))))] [(100, (.pl (Vn nu U), 81)), (900, (.abs (numA V), 0))] ⟨tp, tp, tp, tE fun _ => wi_sub, txn sl25, tln on81, tE fun _ => wr_u64 rfl (Nat.lt_trans (dg32_lt _ _) (by decide)), t_quo_u64, tp, tp, tp, tE fun _ => wi_sub, txn sl25, tln on81, tE fun _ => wr_u64 rfl (Nat.lt_trans (dg32_lt _ _) (by decide)), t_rem_u64, tp, tp, trivial⟩ ?_
 clear hE; intro γ ac wc hE
 refine wp_seq ?_
 refine cut_sx hE (σ := Nat) (fun d => d ≤ q + 1 ∧ q ≤ d ∧ d < 4294967296)
   (fun d => [(0, .s (.sl 100 0 nu cap)), (1, vM 900), (2, vI j), (6, vW 0), (7, vI (nd V)), (9, vW d)])
   (fun d => [(100, (.pl (Vn nu U), 81)), (900, (.abs (numA V), 0))]) ?_ ?_
 ·
  refine wp_block ?_
  refine loop_sx (σ := Nat × Nat) (fun (d, r) => d) (fun (d, r) => d * dg32 V (nd V - 1) + r = X ∧ q ≤ d ∧ r < 4294967296 ∧ d ≤ 4294967297)
      (fun (d, r) => [(0, .s (.sl 100 0 nu cap)), (1, vM 900), (2, vI j), (6, vW 0), (7, vI (nd V)), (9, vW d), (10, vW r)])
      (fun (d, r) => [(100, (.pl (Vn nu U), 81)), (900, (.abs (numA V), 0))])
      ((X / dg32 V (nd V - 1), X % dg32 V (nd V - 1))) (⟨by rw [Nat.mul_comm]; exact Nat.div_add_mod X _, sp_init hv12 hW3 b2 (by omega) hQ, Nat.lt_trans (Nat.mod_lt _ (by omega)) b3, sp_d0 hXv b4 hv1⟩) (hE.sub (by kernel_rfl) (by kernel_rfl)) ?_
  clear hE; rintro ⟨d, r⟩ γ ac wc ga hE
  replace ga : d * dg32 V (nd V - 1) + r = X ∧ q ≤ d ∧ r < 4294967296 ∧ d ≤ 4294967297 := ga
  replace hE : Env _ _ _ w0 (lk [(0, .s (.sl 100 0 nu cap)), (1, vM 900), (2, vI j), (6, vW 0), (7, vI (nd V)), (9, vW d), (10, vW r)]) (lk [(100, (.pl (Vn nu U), 81)), (900, (.abs (numA V), 0))]) γ ac wc := hE
  obtain ⟨ga1, ga2, ga3, ga4⟩ := ga
  refine wp_seq ?_
  rcases Bool.eq_false_or_eq_true (decide (4294967296 ≤ d)) with hb1 | hb1
  ·
   have hb1p := of_decide_eq_true hb1
   refine sq_d hE [Rw 54 (vW d) [(9, vW d)], Rw 55 (vB true) [(54, vW d)], Rw 56 (vB true) [(55, vB true)], Rw 57 vU [(56, vB true)], Rw 58 vU [(56, vB true)], Rw 59 vU [(56, vB true)], Rw 60 vU [(56, vB true)], Rw 61 vU [(56, vB true)], Rw 62 vU [(56, vB true)], Rw 63 vU [(56, vB true)], Rw 64 vU [(56, vB true)], Rw 65 vU [(56, vB true)], Rw 66 vU [(56, vB true)], Rw 67 vU [(56, vB true)], Rw 68 vU [(56, vB true)], Rw 69 vU [(56, vB true)], Rw 70 vU [(56, vB true)], Rw 71 vU [(56, vB true)], Rw 72 vU [(56, vB true)], Rw 73 vU [(56, vB true)], Rw 74 vU [(56, vB true)], Rw 75 vU [(56, vB true)], Rw 76 vU [(56, vB true)], Rw 77 (vB true) [(56, vB true), (76, vU)]] [(0, .s (.sl 100 0 nu cap)), (1, vM 900), (2, vI j), (6, vW 0), (7, vI (nd V)), (9, vW d), (10, vW r), (77, vB true)] [(100, (.pl (Vn nu U), 81)), (900, (.abs (numA V), 0))] ⟨tp, tE fun _ => (d_geq _ _).trans (congrArg Value.bool hb1), tp, tof, tof, tof, tof, tof, tof, tof, tof, tof, tof, tof, tof, tof, tof, tof, tof, tof, tof, tof, tof, tp, trivial⟩ ?_
   clear hE; intro γ ac wc hE
   refine cond_sx hE rfl (fun _ => ?_) (fun h => by cases h)
   refine wp_skip ?_
   refine then_normal ?_
   refine wp_block ?_
   have hdec := sp_dec hv12 hW3 hQ hQB ga1 ga2 (by omega)
   refine sq_t hE [Rw 78 (vW d) [(9, vW d)], Rw 79 (vW (d - 1)) [(78, vW d)], Rw 9 (vW (d - 1)) [(79, vW (d - 1))]] [(0, .s (.sl 100 0 nu cap)), (1, vM 900), (2, vI j), (6, vW 0), (7, vI (nd V)), (9, vW (d - 1)), (10, vW r)] [(100, (.pl (Vn nu U), 81)), (900, (.abs (numA V), 0))] ⟨tp, tE (x := .int .u64 (IntKind.u64.wrap (((d : Nat) : Int) - ((1 : Nat) : Int)))) fun _ => (wu_sub _ _ (by omega)).trans (congrArg (fun n : Nat => Value.int .u64 (n : Int)) (by omega)), tp, trivial⟩ ?_
   clear hE; intro γ ac wc hE
   have hdv := dv_succ32 hdec.1 ga1
   refine sq_t hE [Rw 80 (vW r) [(10, vW r)], Rw 81 (vM 900) [(1, vM 900)], Rw 82 (vI (nd V)) [(7, vI (nd V))], Rw 83 (vI ((nd V) - 1)) [(82, vI (nd V))], Rw 84 (.s (.nptr 900 ((nd V) - 1))) [(81, vM 900), (83, vI ((nd V) - 1))] [(900, (.abs (numA V), 0))], Rw 85 (.s (inN .u32 (dg32 V ((nd V) - 1)))) [(84, .s (.nptr 900 ((nd V) - 1)))] [(900, (.abs (numA V), 0))], Rw 86 (vW (dg32 V ((nd V) - 1))) [(85, .s (inN .u32 (dg32 V ((nd V) - 1))))], Rw 87 (vW (r + dg32 V (nd V - 1))) [(80, vW r), (86, vW (dg32 V ((nd V) - 1)))], Rw 10 (vW (r + dg32 V (nd V - 1))) [(87, vW (r + dg32 V (nd V - 1)))]] [(0, .s (.sl 100 0 nu cap)), (1, vM 900), (2, vI j), (6, vW 0), (7, vI (nd V)), (9, vW (d - 1)), (10, vW (r + dg32 V (nd V - 1)))] [(100, (.pl (Vn nu U), 81)), (900, (.abs (numA V), 0))] ⟨tp, tp, tp, tE fun _ => wi_sub, txn sl25, tln on81, tE fun _ => wr_u64 rfl (Nat.lt_trans (dg32_lt _ _) (by decide)), tE (x := .int .u64 (IntKind.u64.wrap (((r : Nat) : Int) + ((dg32 V ((nd V) - 1) : Nat) : Int)))) fun _ => (wu_add _ _).trans (congrArg (fun n : Nat => Value.int .u64 (n : Int)) (Nat.mod_eq_of_lt (by omega))), tp, trivial⟩ ?_
   clear hE; intro γ ac wc hE
   refine sq_t hE [Rw 88 (vW (r + dg32 V (nd V - 1))) [(10, vW (r + dg32 V (nd V - 1)))], Rw 89 (vB (decide (4294967296 ≤ r + dg32 V (nd V - 1)))) [(88, vW (r + dg32 V (nd V - 1)))]] [(0, .s (.sl 100 0 nu cap)), (1, vM 900), (2, vI j), (6, vW 0), (7, vI (nd V)), (9, vW (d - 1)), (10, vW (r + dg32 V (nd V - 1))), (89, vB (decide (4294967296 ≤ r + dg32 V (nd V - 1))))] [(100, (.pl (Vn nu U), 81)), (900, (.abs (numA V), 0))] ⟨tp, tE fun _ => d_geq _ _, trivial⟩ ?_
   clear hE; intro γ ac wc hE
   refine cond_sx hE rfl (fun hb2 => ?_) (fun hb2 => ?_)
   ·
    have hb2p := of_decide_eq_true hb2
    refine wp_exit ?_
    refine blk_miss (by decide) ?_
    refine then_exit ?_
    refine blk_hit ?_
    have hbrk := sp_brk hdv hXv b4 (by assumption)
    refine then_normal ⟨d - 1, ⟨by rw [hq]; exact sp_near hC hV12 hbrk (sp_end hv12 hW3 hdv (sp_over (Nat.le_of_lt hbrk) b4 (by assumption))), hdec.2, hbrk⟩, _, hE.sub (by kernel_rfl) (by kernel_rfl)⟩
   ·
    have hb2p := of_decide_eq_false hb2
    refine wp_skip ?_
    refine blk_normal ?_
    refine then_normal ⟨(d - 1, r + dg32 V (nd V - 1)), (by show d - 1 < d; have := hdec.1; omega), ⟨hdv, hdec.2, by omega, by omega⟩, _, hE.sub (by kernel_rfl) (by kernel_rfl)⟩
  ·
   have hb1p := of_decide_eq_false hb1
   refine sq_d hE [Rw 54 (vW d) [(9, vW d)], Rw 55 (vB false) [(54, vW d)], Rw 56 (vB false) [(55, vB false)], Rw 57 (vW d) [(9, vW d), (56, vB false)], Rw 58 (vM 900) [(1, vM 900), (56, vB false)], Rw 59 (vI (nd V)) [(7, vI (nd V)), (56, vB false)], Rw 60 (vI ((nd V) - 2)) [(59, vI (nd V)), (56, vB false)], Rw 61 (.s (.nptr 900 ((nd V) - 2))) [(58, vM 900), (60, vI ((nd V) - 2)), (56, vB false)] [(900, (.abs (numA V), 0))], Rw 62 (.s (inN .u32 (dg32 V ((nd V) - 2)))) [(61, .s (.nptr 900 ((nd V) - 2))), (56, vB false)] [(900, (.abs (numA V), 0))], Rw 63 (vW (dg32 V ((nd V) - 2))) [(62, .s (inN .u32 (dg32 V ((nd V) - 2)))), (56, vB false)], Rw 64 (vW (d * dg32 V (nd V - 2))) [(57, vW d), (63, vW (dg32 V ((nd V) - 2))), (56, vB false)], Rw 65 (vW r) [(10, vW r), (56, vB false)], Rw 66 (vW (r * 4294967296)) [(65, vW r), (56, vB false)], Rw 67 (.s (.sl 100 0 nu cap)) [(0, .s (.sl 100 0 nu cap)), (56, vB false)], Rw 68 (vI j) [(2, vI j), (56, vB false)], Rw 69 (vI (nd V)) [(7, vI (nd V)), (56, vB false)], Rw 70 (vI (j + (nd V))) [(68, vI j), (69, vI (nd V)), (56, vB false)], Rw 71 (vI ((j + (nd V)) - 2)) [(70, vI (j + (nd V))), (56, vB false)], Rw 72 (vP 100 ((j + (nd V)) - 2)) [(67, .s (.sl 100 0 nu cap)), (71, vI ((j + (nd V)) - 2)), (56, vB false)], Rw 73 (.s (inN .u32 (dg32 U ((j + (nd V)) - 2)))) [(72, vP 100 ((j + (nd V)) - 2)), (56, vB false)] [(100, (.pl (Vn nu U), 81))], Rw 74 (vW (dg32 U ((j + (nd V)) - 2))) [(73, .s (inN .u32 (dg32 U ((j + (nd V)) - 2)))), (56, vB false)], Rw 75 (vW (r * 4294967296 + dg32 U (j + nd V - 2))) [(66, vW (r * 4294967296)), (74, vW (dg32 U ((j + (nd V)) - 2))), (56, vB false)], Rw 76 (vB (decide (r * 4294967296 + dg32 U (j + nd V - 2) < d * dg32 V (nd V - 2)))) [(64, vW (d * dg32 V (nd V - 2))), (75, vW (r * 4294967296 + dg32 U (j + nd V - 2))), (56, vB false)], Rw 77 (vB (decide (r * 4294967296 + dg32 U (j + nd V - 2) < d * dg32 V (nd V - 2)))) [(56, vB false), (76, vB (decide (r * 4294967296 + dg32 U (j + nd V - 2) < d * dg32 V (nd V - 2))))]] [(0, .s (.sl 100 0 nu cap)), (1, vM 900), (2, vI j), (6, vW 0), (7, vI (nd V)), (9, vW d), (10, vW r), (77, vB (decide (r * 4294967296 + dg32 U (j + nd V - 2) < d * dg32 V (nd V - 2))))] [(100, (.pl (Vn nu U), 81)), (900, (.abs (numA V), 0))] ⟨tp, tE fun _ => (d_geq _ _).trans (congrArg Value.bool hb1), tp, ton tp, ton tp, ton tp, ton (tE fun _ => wi_sub), ton (txn sl25), ton (tln on81), ton (tE fun _ => wr_u64 rfl (Nat.lt_trans (dg32_lt _ _) (by decide))), ton (tE (x := .int .u64 (IntKind.u64.wrap (((d : Nat) : Int) * ((dg32 V ((nd V) - 2) : Nat) : Int)))) fun _ => (wu_mul _ _).trans (congrArg (fun n : Nat => Value.int .u64 (n : Int)) (Nat.mod_eq_of_lt (by have := sq32 (show d < 4294967296 by omega) b4; omega)))), ton tp, ton (trip_bin .shl 22 30 (.tmp 65) (.const (.int .u64 ((32 : Nat) : Int))) (.int .u64 ((r : Nat) : Int)) (.int .u64 ((32 : Nat) : Int)) (.int .u64 ((r * 4294967296 : Nat) : Int)) rfl rfl rfl (by kernel_rfl) rfl rfl (fun γ => by kernel_rfl) (fun γ => by kernel_rfl) (fun _ _ => rfl) (fun w => (b_shl_u64 _ _ _ (by decide)).trans (congrArg (fun n : Nat => Result.ok (Value.int .u64 (n : Int)) w) (Nat.mod_eq_of_lt (by omega)))) (fun γ => rfl)), ton tp, ton tp, ton tp, ton (tE fun _ => wi_add), ton (tE fun _ => wi_sub), ton (txs sl25), ton (tlv on81), ton (tE fun _ => wr_u64 rfl (Nat.lt_trans (dg32_lt _ _) (by decide))), ton (trip_bin .or 22 22 (.tmp 66) (.tmp 74) (.int .u64 ((r * 4294967296 : Nat) : Int)) (.int .u64 ((dg32 U ((j + (nd V)) - 2) : Nat) : Int)) (.int .u64 ((r * 4294967296 + dg32 U (j + nd V - 2) : Nat) : Int)) rfl rfl rfl (by kernel_rfl) rfl rfl (fun γ => by kernel_rfl) (fun γ => by kernel_rfl) (fun _ _ => rfl) (fun w => (b_or_u64 _ _ (by omega) (by omega)).trans (congrArg (fun n : Nat => Result.ok (Value.int .u64 (n : Int)) w) (or32 b2))) (fun γ => rfl)), ton (tE fun _ => d_gtr _ _), tp, trivial⟩ ?_
   clear hE; intro γ ac wc hE
   refine cond_sx hE rfl (fun hb3 => ?_) (fun hb3 => ?_)
   ·
    have hb3p := of_decide_eq_true hb3
    refine wp_skip ?_
    refine then_normal ?_
    refine wp_block ?_
    have hdec := sp_dec hv12 hW3 hQ hQB ga1 ga2 (by omega)
    refine sq_t hE [Rw 78 (vW d) [(9, vW d)], Rw 79 (vW (d - 1)) [(78, vW d)], Rw 9 (vW (d - 1)) [(79, vW (d - 1))]] [(0, .s (.sl 100 0 nu cap)), (1, vM 900), (2, vI j), (6, vW 0), (7, vI (nd V)), (9, vW (d - 1)), (10, vW r)] [(100, (.pl (Vn nu U), 81)), (900, (.abs (numA V), 0))] ⟨tp, tE (x := .int .u64 (IntKind.u64.wrap (((d : Nat) : Int) - ((1 : Nat) : Int)))) fun _ => (wu_sub _ _ (by omega)).trans (congrArg (fun n : Nat => Value.int .u64 (n : Int)) (by omega)), tp, trivial⟩ ?_
    clear hE; intro γ ac wc hE
    have hdv := dv_succ32 hdec.1 ga1
    refine sq_t hE [Rw 80 (vW r) [(10, vW r)], Rw 81 (vM 900) [(1, vM 900)], Rw 82 (vI (nd V)) [(7, vI (nd V))], Rw 83 (vI ((nd V) - 1)) [(82, vI (nd V))], Rw 84 (.s (.nptr 900 ((nd V) - 1))) [(81, vM 900), (83, vI ((nd V) - 1))] [(900, (.abs (numA V), 0))], Rw 85 (.s (inN .u32 (dg32 V ((nd V) - 1)))) [(84, .s (.nptr 900 ((nd V) - 1)))] [(900, (.abs (numA V), 0))], Rw 86 (vW (dg32 V ((nd V) - 1))) [(85, .s (inN .u32 (dg32 V ((nd V) - 1))))], Rw 87 (vW (r + dg32 V (nd V - 1))) [(80, vW r), (86, vW (dg32 V ((nd V) - 1)))], Rw 10 (vW (r + dg32 V (nd V - 1))) [(87, vW (r + dg32 V (nd V - 1)))]] [(0, .s (.sl 100 0 nu cap)), (1, vM 900), (2, vI j), (6, vW 0), (7, vI (nd V)), (9, vW (d - 1)), (10, vW (r + dg32 V (nd V - 1)))] [(100, (.pl (Vn nu U), 81)), (900, (.abs (numA V), 0))] ⟨tp, tp, tp, tE fun _ => wi_sub, txn sl25, tln on81, tE fun _ => wr_u64 rfl (Nat.lt_trans (dg32_lt _ _) (by decide)), tE (x := .int .u64 (IntKind.u64.wrap (((r : Nat) : Int) + ((dg32 V ((nd V) - 1) : Nat) : Int)))) fun _ => (wu_add _ _).trans (congrArg (fun n : Nat => Value.int .u64 (n : Int)) (Nat.mod_eq_of_lt (by omega))), tp, trivial⟩ ?_
    clear hE; intro γ ac wc hE
    refine sq_t hE [Rw 88 (vW (r + dg32 V (nd V - 1))) [(10, vW (r + dg32 V (nd V - 1)))], Rw 89 (vB (decide (4294967296 ≤ r + dg32 V (nd V - 1)))) [(88, vW (r + dg32 V (nd V - 1)))]] [(0, .s (.sl 100 0 nu cap)), (1, vM 900), (2, vI j), (6, vW 0), (7, vI (nd V)), (9, vW (d - 1)), (10, vW (r + dg32 V (nd V - 1))), (89, vB (decide (4294967296 ≤ r + dg32 V (nd V - 1))))] [(100, (.pl (Vn nu U), 81)), (900, (.abs (numA V), 0))] ⟨tp, tE fun _ => d_geq _ _, trivial⟩ ?_
    clear hE; intro γ ac wc hE
    refine cond_sx hE rfl (fun hb4 => ?_) (fun hb4 => ?_)
    ·
     have hb4p := of_decide_eq_true hb4
     refine wp_exit ?_
     refine blk_miss (by decide) ?_
     refine then_exit ?_
     refine blk_hit ?_
     have hbrk := sp_brk hdv hXv b4 (by assumption)
     refine then_normal ⟨d - 1, ⟨by rw [hq]; exact sp_near hC hV12 hbrk (sp_end hv12 hW3 hdv (sp_over (Nat.le_of_lt hbrk) b4 (by assumption))), hdec.2, hbrk⟩, _, hE.sub (by kernel_rfl) (by kernel_rfl)⟩
    ·
     have hb4p := of_decide_eq_false hb4
     refine wp_skip ?_
     refine blk_normal ?_
     refine then_normal ⟨(d - 1, r + dg32 V (nd V - 1)), (by show d - 1 < d; have := hdec.1; omega), ⟨hdv, hdec.2, by omega, by omega⟩, _, hE.sub (by kernel_rfl) (by kernel_rfl)⟩
   ·
    have hb3p := of_decide_eq_false hb3
    refine wp_exit ?_
    refine then_exit ?_
    refine then_exit ?_
    refine blk_hit ?_
    refine then_normal ⟨d, ⟨by rw [hq]; exact sp_near hC hV12 (by omega) (sp_end hv12 hW3 ga1 (by omega)), ga2, by omega⟩, _, hE.sub (by kernel_rfl) (by kernel_rfl)⟩
 clear hE
 intro d γ ac wc hJ hE
 refine then_normal ?_
 refine sq_t hE [Rw 11 (vW 0), Rw 12 (vW 0)] [(0, .s (.sl 100 0 nu cap)), (1, vM 900), (2, vI j), (6, vW 0), (7, vI (nd V)), (9, vW d), (11, vW 0), (12, vW 0)] [(100, (.pl (Vn nu U), 81)), (900, (.abs (numA V), 0))] ⟨tp, tp, trivial⟩ ?_
 clear hE; intro γ ac wc hE
 refine wp_seq ?_
 refine sq_t hE [Rw 13 (vI 0)] [(0, .s (.sl 100 0 nu cap)), (1, vM 900), (2, vI j), (6, vW 0), (7, vI (nd V)), (9, vW d), (11, vW 0), (12, vW 0), (13, vI 0)] [(100, (.pl (Vn nu U), 81)), (900, (.abs (numA V), 0))] ⟨tp, trivial⟩ ?_
 clear hE; intro γ ac wc hE
 refine wp_block ?_
 refine loop_sx (σ := Nat × Nat × Nat × Nat) (fun (i, W, c, b) => nd V - i) (fun (i, W, c, b) => i ≤ nd V ∧ W + d * (V % 2 ^ (32 * i)) * 2 ^ (32 * j) = U + (c + b) * 2 ^ (32 * (i + j)) ∧ W < 2 ^ (32 * (j + nd V + 1)) ∧ c < 4294967296 ∧ b ≤ 1)
     (fun (i, W, c, b) => [(0, .s (.sl 100 0 nu cap)), (1, vM 900), (2, vI j), (6, vW 0), (7, vI (nd V)), (9, vW d), (11, vW c), (12, vW b), (13, vI i)])
     (fun (i, W, c, b) => [(100, (.pl (Vn nu W), 81)), (900, (.abs (numA V), 0))])
     ((0, U, 0, 0)) (⟨Nat.zero_le _, by simp [Nat.mod_one], hUb, by decide, by decide⟩) (hE.sub (by kernel_rfl) (by kernel_rfl)) ?_
 clear hE; rintro ⟨i, W, c, b⟩ γ ac wc gb hE
 replace gb : i ≤ nd V ∧ W + d * (V % 2 ^ (32 * i)) * 2 ^ (32 * j) = U + (c + b) * 2 ^ (32 * (i + j)) ∧ W < 2 ^ (32 * (j + nd V + 1)) ∧ c < 4294967296 ∧ b ≤ 1 := gb
 replace hE : Env _ _ _ w0 (lk [(0, .s (.sl 100 0 nu cap)), (1, vM 900), (2, vI j), (6, vW 0), (7, vI (nd V)), (9, vW d), (11, vW c), (12, vW b), (13, vI i)]) (lk [(100, (.pl (Vn nu W), 81)), (900, (.abs (numA V), 0))]) γ ac wc := hE
 obtain ⟨gb1, gb2, gb3, gb4, gb5⟩ := gb
 refine wp_seq ?_
 refine sq_t hE [Rw 90 (vI i) [(13, vI i)], Rw 91 (vI (nd V)) [(7, vI (nd V))], Rw 92 (vB (decide (i < nd V))) [(90, vI i), (91, vI (nd V))]] [(0, .s (.sl 100 0 nu cap)), (1, vM 900), (2, vI j), (6, vW 0), (7, vI (nd V)), (9, vW d), (11, vW c), (12, vW b), (13, vI i), (92, vB (decide (i < nd V)))] [(100, (.pl (Vn nu W), 81)), (900, (.abs (numA V), 0))] ⟨tp, tp, tE fun _ => d_lss _ _, trivial⟩ ?_
 clear hE; intro γ ac wc hE
 refine cond_sx hE rfl (fun hb5 => ?_) (fun hb5 => ?_)
 ·
  have hb5p := of_decide_eq_true hb5
  refine wp_skip ?_
  refine then_normal ?_
  refine wp_seq ?_
  refine wp_block ?_
  have hsq := sq32 hJ.2.2 (dg32_lt V i)
  have hw := dg32_lt W (i + j)
  refine sq_t hE [Rw 95 (vW d) [(9, vW d)], Rw 96 (vM 900) [(1, vM 900)], Rw 97 (vI i) [(13, vI i)], Rw 98 (.s (.nptr 900 i)) [(96, vM 900), (97, vI i)] [(900, (.abs (numA V), 0))], Rw 99 (.s (inN .u32 (dg32 V i))) [(98, .s (.nptr 900 i))] [(900, (.abs (numA V), 0))], Rw 100 (vW (dg32 V i)) [(99, .s (inN .u32 (dg32 V i)))], Rw 101 (vW (d * dg32 V i)) [(95, vW d), (100, vW (dg32 V i))], Rw 102 (vW c) [(11, vW c)], Rw 103 (vW (d * dg32 V i + c)) [(101, vW (d * dg32 V i)), (102, vW c)], Rw 14 (vW (d * dg32 V i + c)) [(103, vW (d * dg32 V i + c))]] [(0, .s (.sl 100 0 nu cap)), (1, vM 900), (2, vI j), (6, vW 0), (7, vI (nd V)), (9, vW d), (11, vW c), (12, vW b), (13, vI i), (14, vW (d * dg32 V i + c))] [(100, (.pl (Vn nu W), 81)), (900, (.abs (numA V), 0))] ⟨tp, tp, tp, txn sl25, tln on81, tE fun _ => wr_u64 rfl (Nat.lt_trans (dg32_lt _ _) (by decide)), tE (x := .int .u64 (IntKind.u64.wrap (((d : Nat) : Int) * ((dg32 V i : Nat) : Int)))) fun _ => (wu_mul _ _).trans (congrArg (fun n : Nat => Value.int .u64 (n : Int)) (Nat.mod_eq_of_lt (by omega))), tp, tE (x := .int .u64 (IntKind.u64.wrap (((d * dg32 V i : Nat) : Int) + ((c : Nat) : Int)))) fun _ => (wu_add _ _).trans (congrArg (fun n : Nat => Value.int .u64 (n : Int)) (Nat.mod_eq_of_lt (by omega))), tp, trivial⟩ ?_
  clear hE; intro γ ac wc hE
  obtain ⟨p, hp⟩ : ∃ z : Nat, z = d * dg32 V i + c := ⟨_, rfl⟩
  rw [← hp] at hE
  refine sq_t hE [Rw 104 (vW p) [(14, vW p)], Rw 105 (vW (p / 4294967296)) [(104, vW p)], Rw 11 (vW (p / 4294967296)) [(105, vW (p / 4294967296))]] [(0, .s (.sl 100 0 nu cap)), (1, vM 900), (2, vI j), (6, vW 0), (7, vI (nd V)), (9, vW d), (11, vW (p / 4294967296)), (12, vW b), (13, vI i), (14, vW p)] [(100, (.pl (Vn nu W), 81)), (900, (.abs (numA V), 0))] ⟨tp, trip_bin .shr 22 30 (.tmp 104) (.const (.int .u64 ((32 : Nat) : Int))) (.int .u64 ((p : Nat) : Int)) (.int .u64 ((32 : Nat) : Int)) (.int .u64 ((p / 4294967296 : Nat) : Int)) rfl rfl rfl (by kernel_rfl) rfl rfl (fun γ => by kernel_rfl) (fun γ => by kernel_rfl) (fun _ _ => rfl) (fun w => (b_shr_u64 _ _ _ (by decide)).trans (congrArg (fun n : Nat => Result.ok (Value.int .u64 (n : Int)) w) rfl)) (fun γ => rfl), tp, trivial⟩ ?_
  clear hE; intro γ ac wc hE
  refine sq_t hE [Rw 106 (.s (.sl 100 0 nu cap)) [(0, .s (.sl 100 0 nu cap))], Rw 107 (vI i) [(13, vI i)], Rw 108 (vI j) [(2, vI j)], Rw 109 (vI (i + j)) [(107, vI i), (108, vI j)], Rw 110 (vP 100 (i + j)) [(106, .s (.sl 100 0 nu cap)), (109, vI (i + j))], Rw 111 (.s (inN .u32 (dg32 W (i + j)))) [(110, vP 100 (i + j))] [(100, (.pl (Vn nu W), 81))], Rw 112 (vW (dg32 W (i + j))) [(111, .s (inN .u32 (dg32 W (i + j))))], Rw 113 (vW (dg32 W (i + j) + 4294967296)) [(112, vW (dg32 W (i + j)))], Rw 114 (vW p) [(14, vW p)], Rw 115 (vW (p % 4294967296)) [(114, vW p)], Rw 116 (vW (dg32 W (i + j) + 4294967296 - p % 4294967296)) [(113, vW (dg32 W (i + j) + 4294967296)), (115, vW (p % 4294967296))], Rw 117 (vW b) [(12, vW b)], Rw 118 (vW (dg32 W (i + j) + 4294967296 - p % 4294967296 - b)) [(116, vW (dg32 W (i + j) + 4294967296 - p % 4294967296)), (117, vW b)], Rw 15 (vW (dg32 W (i + j) + 4294967296 - p % 4294967296 - b)) [(118, vW (dg32 W (i + j) + 4294967296 - p % 4294967296 - b))]] [(0, .s (.sl 100 0 nu cap)), (1, vM 900), (2, vI j), (6, vW 0), (7, vI (nd V)), (9, vW d), (11, vW (p / 4294967296)), (12, vW b), (13, vI i), (14, vW p), (15, vW (dg32 W (i + j) + 4294967296 - p % 4294967296 - b))] [(100, (.pl (Vn nu W), 81)), (900, (.abs (numA V), 0))] ⟨tp, tp, tp, tE fun _ => wi_add, txs sl25, tlv on81, tE fun _ => wr_u64 rfl (Nat.lt_trans (dg32_lt _ _) (by decide)), tE (x := .int .u64 (IntKind.u64.wrap (((dg32 W (i + j) : Nat) : Int) + ((4294967296 : Nat) : Int)))) fun _ => (wu_add _ _).trans (congrArg (fun n : Nat => Value.int .u64 (n : Int)) (Nat.mod_eq_of_lt (by omega))), tp, trip_bin .and 22 22 (.tmp 114) (.const (.int .u64 ((4294967295 : Nat) : Int))) (.int .u64 ((p : Nat) : Int)) (.int .u64 ((4294967295 : Nat) : Int)) (.int .u64 ((p % 4294967296 : Nat) : Int)) rfl rfl rfl (by kernel_rfl) rfl rfl (fun γ => by kernel_rfl) (fun γ => by kernel_rfl) (fun _ _ => rfl) (fun w => (b_and_u64 _ _ (by omega) (by decide)).trans (congrArg (fun n : Nat => Result.ok (Value.int .u64 (n : Int)) w) (and32' _))) (fun γ => rfl), tE (x := .int .u64 (IntKind.u64.wrap (((dg32 W (i + j) + 4294967296 : Nat) : Int) - ((p % 4294967296 : Nat) : Int)))) fun _ => (wu_sub _ _ (by omega)).trans (congrArg (fun n : Nat => Value.int .u64 (n : Int)) (by omega)), tp, tE (x := .int .u64 (IntKind.u64.wrap (((dg32 W (i + j) + 4294967296 - p % 4294967296 : Nat) : Int) - ((b : Nat) : Int)))) fun _ => (wu_sub _ _ (by omega)).trans (congrArg (fun n : Nat => Value.int .u64 (n : Int)) (by omega)), tp, trivial⟩ ?_
  clear hE; intro γ ac wc hE
  obtain ⟨t, ht⟩ : ∃ z : Nat, z = dg32 W (i + j) + 4294967296 - p % 4294967296 - b := ⟨_, rfl⟩
  rw [← ht] at hE
  refine sq_t hE [Rw 119 (.s (.sl 100 0 nu cap)) [(0, .s (.sl 100 0 nu cap))], Rw 120 (vI i) [(13, vI i)], Rw 121 (vI j) [(2, vI j)], Rw 122 (vI (i + j)) [(120, vI i), (121, vI j)], Rw 123 (vW t) [(15, vW t)], Rw 124 (vW (t % 4294967296)) [(123, vW t)], Rw 125 (.s (inN .u32 (t % 4294967296))) [(124, vW (t % 4294967296))], Rw 126 (vP 100 (i + j)) [(119, .s (.sl 100 0 nu cap)), (122, vI (i + j))], Rz [(126, vP 100 (i + j)), (125, .s (inN .u32 (t % 4294967296)))] [(100, (.pl (Vn nu W), 81))] [(100, (.pl (Vn nu (set32 W (i + j) (t % 4294967296))), 81))]] [(0, .s (.sl 100 0 nu cap)), (1, vM 900), (2, vI j), (6, vW 0), (7, vI (nd V)), (9, vW d), (11, vW (p / 4294967296)), (12, vW b), (13, vI i), (14, vW p), (15, vW t)] [(100, (.pl (Vn nu (set32 W (i + j) (t % 4294967296))), 81)), (900, (.abs (numA V), 0))] ⟨tp, tp, tp, tE fun _ => wi_add, tp, trip_bin .and 22 22 (.tmp 123) (.const (.int .u64 ((4294967295 : Nat) : Int))) (.int .u64 ((t : Nat) : Int)) (.int .u64 ((4294967295 : Nat) : Int)) (.int .u64 ((t % 4294967296 : Nat) : Int)) rfl rfl rfl (by kernel_rfl) rfl rfl (fun γ => by kernel_rfl) (fun γ => by kernel_rfl) (fun _ _ => rfl) (fun w => (b_and_u64 _ _ (by omega) (by decide)).trans (congrArg (fun n : Nat => Result.ok (Value.int .u64 (n : Int)) w) (and32' _))) (fun γ => rfl), tE fun _ => wr_u32 rfl (Nat.mod_lt _ (by decide)), txs sl25, tsv sz81 (hd32 := (Nat.mod_lt _ (by decide))), trivial⟩ ?_
  clear hE; intro γ ac wc hE
  refine rg_t hE [Rw 127 (vW t) [(15, vW t)], Rw 128 (vW (t / 4294967296)) [(127, vW t)], Rw 129 (vW (1 - t / 4294967296)) [(128, vW (t / 4294967296))], Rw 12 (vW (1 - t / 4294967296)) [(129, vW (1 - t / 4294967296))]] [(0, .s (.sl 100 0 nu cap)), (1, vM 900), (2, vI j), (6, vW 0), (7, vI (nd V)), (9, vW d), (11, vW (p / 4294967296)), (12, vW (1 - t / 4294967296)), (13, vI i), (14, vW p), (15, vW t)] [(100, (.pl (Vn nu (set32 W (i + j) (t % 4294967296))), 81)), (900, (.abs (numA V), 0))] ⟨tp, trip_bin .shr 22 30 (.tmp 127) (.const (.int .u64 ((32 : Nat) : Int))) (.int .u64 ((t : Nat) : Int)) (.int .u64 ((32 : Nat) : Int)) (.int .u64 ((t / 4294967296 : Nat) : Int)) rfl rfl rfl (by kernel_rfl) rfl rfl (fun γ => by kernel_rfl) (fun γ => by kernel_rfl) (fun _ _ => rfl) (fun w => (b_shr_u64 _ _ _ (by decide)).trans (congrArg (fun n : Nat => Result.ok (Value.int .u64 (n : Int)) w) rfl)) (fun γ => rfl), tE (x := .int .u64 (IntKind.u64.wrap (((1 : Nat) : Int) - ((t / 4294967296 : Nat) : Int)))) fun _ => (wu_sub _ _ (by omega)).trans (congrArg (fun n : Nat => Value.int .u64 (n : Int)) (by omega)), tp, trivial⟩ ?_
  clear hE; intro γ ac wc hE
  refine blk_normal ?_
  refine then_normal ?_
  refine rg_t hE [Rw 93 (vI i) [(13, vI i)], Rw 94 (vI (i + 1)) [(93, vI i)], Rw 13 (vI (i + 1)) [(94, vI (i + 1))]] [(0, .s (.sl 100 0 nu cap)), (1, vM 900), (2, vI j), (6, vW 0), (7, vI (nd V)), (9, vW d), (11, vW (p / 4294967296)), (12, vW (1 - t / 4294967296)), (13, vI (i + 1)), (14, vW p), (15, vW t)] [(100, (.pl (Vn nu (set32 W (i + j) (t % 4294967296))), 81)), (900, (.abs (numA V), 0))] ⟨tp, tE fun _ => wi_add, tp, trivial⟩ ?_
  clear hE; intro γ ac wc hE
  refine then_normal ⟨(i + 1, set32 W (i + j) (t % 4294967296), p / 4294967296, 1 - t / 4294967296), (by show nd V - (i + 1) < nd V - i; omega), ⟨by omega, sub_step gb2 hp ht gb5, set32_lt gb3 (Nat.mod_lt _ (by decide)) (by omega), by omega, by omega⟩, _, hE.sub (by kernel_rfl) (by kernel_rfl)⟩
 ·
  have hb5p := of_decide_eq_false hb5
  refine wp_exit ?_
  refine then_exit ?_
  refine then_exit ?_
  refine blk_hit ?_
  refine then_normal ?_
  have hi : i = nd V := by omega
  rw [hi] at gb2
  have hw := dg32_lt W (j + nd V)
  refine sq_t hE [Rw 130 (.s (.sl 100 0 nu cap)) [(0, .s (.sl 100 0 nu cap))], Rw 131 (vI j) [(2, vI j)], Rw 132 (vI (nd V)) [(7, vI (nd V))], Rw 133 (vI (j + (nd V))) [(131, vI j), (132, vI (nd V))], Rw 134 (vP 100 (j + (nd V))) [(130, .s (.sl 100 0 nu cap)), (133, vI (j + (nd V)))], Rw 135 (.s (inN .u32 (dg32 W (j + (nd V))))) [(134, vP 100 (j + (nd V)))] [(100, (.pl (Vn nu W), 81))], Rw 136 (vW (dg32 W (j + (nd V)))) [(135, .s (inN .u32 (dg32 W (j + (nd V)))))], Rw 137 (vW (dg32 W (j + nd V) + 4294967296)) [(136, vW (dg32 W (j + (nd V))))], Rw 138 (vW c) [(11, vW c)], Rw 139 (vW (dg32 W (j + nd V) + 4294967296 - c)) [(137, vW (dg32 W (j + nd V) + 4294967296)), (138, vW c)], Rw 140 (vW b) [(12, vW b)], Rw 141 (vW (dg32 W (j + nd V) + 4294967296 - c - b)) [(139, vW (dg32 W (j + nd V) + 4294967296 - c)), (140, vW b)], Rw 16 (vW (dg32 W (j + nd V) + 4294967296 - c - b)) [(141, vW (dg32 W (j + nd V) + 4294967296 - c - b))]] [(0, .s (.sl 100 0 nu cap)), (1, vM 900), (2, vI j), (6, vW 0), (7, vI (nd V)), (9, vW d), (11, vW c), (12, vW b), (13, vI i), (16, vW (dg32 W (j + nd V) + 4294967296 - c - b))] [(100, (.pl (Vn nu W), 81)), (900, (.abs (numA V), 0))] ⟨tp, tp, tp, tE fun _ => wi_add, txs sl25, tlv on81, tE fun _ => wr_u64 rfl (Nat.lt_trans (dg32_lt _ _) (by decide)), tE (x := .int .u64 (IntKind.u64.wrap (((dg32 W (j + (nd V)) : Nat) : Int) + ((4294967296 : Nat) : Int)))) fun _ => (wu_add _ _).trans (congrArg (fun n : Nat => Value.int .u64 (n : Int)) (Nat.mod_eq_of_lt (by omega))), tp, tE (x := .int .u64 (IntKind.u64.wrap (((dg32 W (j + nd V) + 4294967296 : Nat) : Int) - ((c : Nat) : Int)))) fun _ => (wu_sub _ _ (by omega)).trans (congrArg (fun n : Nat => Value.int .u64 (n : Int)) (by omega)), tp, tE (x := .int .u64 (IntKind.u64.wrap (((dg32 W (j + nd V) + 4294967296 - c : Nat) : Int) - ((b : Nat) : Int)))) fun _ => (wu_sub _ _ (by omega)).trans (congrArg (fun n : Nat => Value.int .u64 (n : Int)) (by omega)), tp, trivial⟩ ?_
  clear hE; intro γ ac wc hE
  obtain ⟨y, hy⟩ : ∃ z : Nat, z = dg32 W (j + nd V) + 4294967296 - c - b := ⟨_, rfl⟩
  rw [← hy] at hE
  refine sq_t hE [Rw 142 (.s (.sl 100 0 nu cap)) [(0, .s (.sl 100 0 nu cap))], Rw 143 (vI j) [(2, vI j)], Rw 144 (vI (nd V)) [(7, vI (nd V))], Rw 145 (vI (j + (nd V))) [(143, vI j), (144, vI (nd V))], Rw 146 (vW y) [(16, vW y)], Rw 147 (vW (y % 4294967296)) [(146, vW y)], Rw 148 (.s (inN .u32 (y % 4294967296))) [(147, vW (y % 4294967296))], Rw 149 (vP 100 (j + (nd V))) [(142, .s (.sl 100 0 nu cap)), (145, vI (j + (nd V)))], Rz [(149, vP 100 (j + (nd V))), (148, .s (inN .u32 (y % 4294967296)))] [(100, (.pl (Vn nu W), 81))] [(100, (.pl (Vn nu (set32 W (j + (nd V)) (y % 4294967296))), 81))]] [(0, .s (.sl 100 0 nu cap)), (1, vM 900), (2, vI j), (6, vW 0), (7, vI (nd V)), (9, vW d), (11, vW c), (12, vW b), (13, vI i), (16, vW y)] [(100, (.pl (Vn nu (set32 W (j + (nd V)) (y % 4294967296))), 81)), (900, (.abs (numA V), 0))] ⟨tp, tp, tp, tE fun _ => wi_add, tp, trip_bin .and 22 22 (.tmp 146) (.const (.int .u64 ((4294967295 : Nat) : Int))) (.int .u64 ((y : Nat) : Int)) (.int .u64 ((4294967295 : Nat) : Int)) (.int .u64 ((y % 4294967296 : Nat) : Int)) rfl rfl rfl (by kernel_rfl) rfl rfl (fun γ => by kernel_rfl) (fun γ => by kernel_rfl) (fun _ _ => rfl) (fun w => (b_and_u64 _ _ (by omega) (by decide)).trans (congrArg (fun n : Nat => Result.ok (Value.int .u64 (n : Int)) w) (and32' _))) (fun γ => rfl), tE fun _ => wr_u32 rfl (Nat.mod_lt _ (by decide)), txs sl25, tsv sz81 (hd32 := (Nat.mod_lt _ (by decide))), trivial⟩ ?_
  clear hE; intro γ ac wc hE
  refine wp_seq ?_
  refine sq_t hE [Rw 150 (vW y) [(16, vW y)], Rw 151 (vW (y / 4294967296)) [(150, vW y)], Rw 152 (vB (decide (y / 4294967296 = 1))) [(151, vW (y / 4294967296))]] [(0, .s (.sl 100 0 nu cap)), (1, vM 900), (2, vI j), (6, vW 0), (7, vI (nd V)), (9, vW d), (11, vW c), (12, vW b), (13, vI i), (16, vW y), (152, vB (decide (y / 4294967296 = 1)))] [(100, (.pl (Vn nu (set32 W (j + (nd V)) (y % 4294967296))), 81)), (900, (.abs (numA V), 0))] ⟨tp, trip_bin .shr 22 30 (.tmp 150) (.const (.int .u64 ((32 : Nat) : Int))) (.int .u64 ((y : Nat) : Int)) (.int .u64 ((32 : Nat) : Int)) (.int .u64 ((y / 4294967296 : Nat) : Int)) rfl rfl rfl (by kernel_rfl) rfl rfl (fun γ => by kernel_rfl) (fun γ => by kernel_rfl) (fun _ _ => rfl) (fun w => (b_shr_u64 _ _ _ (by decide)).trans (congrArg (fun n : Nat => Result.ok (Value.int .u64 (n : Int)) w) rfl)) (fun γ => rfl), tE fun _ => d_eql _ _, trivial⟩ ?_
  clear hE; intro γ ac wc hE
  refine cond_sx hE rfl (fun hb6 => ?_) (fun hb6 => ?_)
  ·
   have hb6p := of_decide_eq_true hb6
   refine sq_t hE [Rw 153 (vW d) [(9, vW d)], Rw 6 (vW d) [(153, vW d)]] [(0, .s (.sl 100 0 nu cap)), (1, vM 900), (2, vI j), (6, vW d), (7, vI (nd V)), (9, vW d), (11, vW c), (12, vW b), (13, vI i), (16, vW y)] [(100, (.pl (Vn nu (set32 W (j + (nd V)) (y % 4294967296))), 81)), (900, (.abs (numA V), 0))] ⟨tp, tp, trivial⟩ ?_
   clear hE; intro γ ac wc hE
   refine wp_ret ?_
   refine then_ret ?_
   have hf := sub_fit (nd_lt V) hV0 gb2 hy gb5 gb4 (by assumption) (by rw [← hq]; exact hJ.2.1)
   have hr : d = U / 2 ^ (32 * j) / V := by have := hq; exact hf.1
   have hh := Ct.pl_at (hE.heap 100 _ rfl)
   rw [pl_obj, show γ 100 = gu from hE.fix (100, gu) (.head _)] at hh
   exact (end1 hE rfl (.tmp 6 (vW d) rfl) (⟨by rw [← hr]; rfl, only_pn hE.keep, by rw [hh, show set32 W (j + (nd V)) (y % 4294967296) = U - U / 2 ^ (32 * j) / V * V * 2 ^ (32 * j) from hf.2]⟩)).1
  ·
   have hb6p := of_decide_eq_false hb6
   refine wp_skip ?_
   refine then_normal ?_
   refine sq_t hE [Rw 11 (vW 0)] [(0, .s (.sl 100 0 nu cap)), (1, vM 900), (2, vI j), (6, vW 0), (7, vI (nd V)), (9, vW d), (11, vW 0), (12, vW b), (13, vI i), (16, vW y)] [(100, (.pl (Vn nu (set32 W (j + (nd V)) (y % 4294967296))), 81)), (900, (.abs (numA V), 0))] ⟨tp, trivial⟩ ?_
   clear hE; intro γ ac wc hE
   refine wp_seq ?_
   refine sq_t hE [Rw 17 (vI 0)] [(0, .s (.sl 100 0 nu cap)), (1, vM 900), (2, vI j), (6, vW 0), (7, vI (nd V)), (9, vW d), (11, vW 0), (12, vW b), (13, vI i), (16, vW y), (17, vI 0)] [(100, (.pl (Vn nu (set32 W (j + (nd V)) (y % 4294967296))), 81)), (900, (.abs (numA V), 0))] ⟨tp, trivial⟩ ?_
   clear hE; intro γ ac wc hE
   refine wp_block ?_
   refine loop_sx (σ := Nat × Nat × Nat) (fun (l, Z, c) => nd V - l) (fun (l, Z, c) => l ≤ nd V ∧ Z + c * 2 ^ (32 * (l + j)) = set32 W (j + (nd V)) (y % 4294967296) + V % 2 ^ (32 * l) * 2 ^ (32 * j) ∧ Z < 2 ^ (32 * (j + nd V + 1)) ∧ c ≤ 1)
       (fun (l, Z, c) => [(0, .s (.sl 100 0 nu cap)), (1, vM 900), (2, vI j), (6, vW 0), (7, vI (nd V)), (9, vW d), (11, vW c), (12, vW b), (13, vI i), (16, vW y), (17, vI l)])
       (fun (l, Z, c) => [(100, (.pl (Vn nu Z), 81)), (900, (.abs (numA V), 0))])
       ((0, set32 W (j + (nd V)) (y % 4294967296), 0)) (⟨Nat.zero_le _, by simp [Nat.mod_one], set32_lt gb3 (Nat.mod_lt _ (by decide)) (by omega), by decide⟩) (hE.sub (by kernel_rfl) (by kernel_rfl)) ?_
   clear hE; rintro ⟨l, Z, c⟩ γ ac wc gc hE
   replace gc : l ≤ nd V ∧ Z + c * 2 ^ (32 * (l + j)) = set32 W (j + (nd V)) (y % 4294967296) + V % 2 ^ (32 * l) * 2 ^ (32 * j) ∧ Z < 2 ^ (32 * (j + nd V + 1)) ∧ c ≤ 1 := gc
   replace hE : Env _ _ _ w0 (lk [(0, .s (.sl 100 0 nu cap)), (1, vM 900), (2, vI j), (6, vW 0), (7, vI (nd V)), (9, vW d), (11, vW c), (12, vW b), (13, vI i), (16, vW y), (17, vI l)]) (lk [(100, (.pl (Vn nu Z), 81)), (900, (.abs (numA V), 0))]) γ ac wc := hE
   obtain ⟨gc1, gc2, gc3, gc4⟩ := gc
   refine wp_seq ?_
   refine sq_t hE [Rw 154 (vI l) [(17, vI l)], Rw 155 (vI (nd V)) [(7, vI (nd V))], Rw 156 (vB (decide (l < nd V))) [(154, vI l), (155, vI (nd V))]] [(0, .s (.sl 100 0 nu cap)), (1, vM 900), (2, vI j), (6, vW 0), (7, vI (nd V)), (9, vW d), (11, vW c), (12, vW b), (13, vI i), (16, vW y), (17, vI l), (156, vB (decide (l < nd V)))] [(100, (.pl (Vn nu Z), 81)), (900, (.abs (numA V), 0))] ⟨tp, tp, tE fun _ => d_lss _ _, trivial⟩ ?_
   clear hE; intro γ ac wc hE
   refine cond_sx hE rfl (fun hb7 => ?_) (fun hb7 => ?_)
   ·
    have hb7p := of_decide_eq_true hb7
    refine wp_skip ?_
    refine then_normal ?_
    refine wp_seq ?_
    refine wp_block ?_
    have hw := dg32_lt Z (l + j)
    have hw2 := dg32_lt V l
    refine sq_d hE [Rw 159 (.s (.sl 100 0 nu cap)) [(0, .s (.sl 100 0 nu cap))], Rw 160 (vI l) [(17, vI l)], Rw 161 (vI j) [(2, vI j)], Rw 162 (vI (l + j)) [(160, vI l), (161, vI j)], Rw 163 (vP 100 (l + j)) [(159, .s (.sl 100 0 nu cap)), (162, vI (l + j))], Rw 164 (.s (inN .u32 (dg32 Z (l + j)))) [(163, vP 100 (l + j))] [(100, (.pl (Vn nu Z), 81))], Rw 165 (vW (dg32 Z (l + j))) [(164, .s (inN .u32 (dg32 Z (l + j))))], Rw 166 (vM 900) [(1, vM 900)], Rw 167 (vI l) [(17, vI l)], Rw 168 (.s (.nptr 900 l)) [(166, vM 900), (167, vI l)] [(900, (.abs (numA V), 0))], Rw 169 (.s (inN .u32 (dg32 V l))) [(168, .s (.nptr 900 l))] [(900, (.abs (numA V), 0))], Rw 170 (vW (dg32 V l)) [(169, .s (inN .u32 (dg32 V l)))], Rw 171 (vW (dg32 Z (l + j) + dg32 V l)) [(165, vW (dg32 Z (l + j))), (170, vW (dg32 V l))], Rw 172 (vW c) [(11, vW c)], Rw 173 (vW (dg32 Z (l + j) + dg32 V l + c)) [(171, vW (dg32 Z (l + j) + dg32 V l)), (172, vW c)], Rw 18 (vW (dg32 Z (l + j) + dg32 V l + c)) [(173, vW (dg32 Z (l + j) + dg32 V l + c))]] [(0, .s (.sl 100 0 nu cap)), (1, vM 900), (2, vI j), (6, vW 0), (7, vI (nd V)), (9, vW d), (11, vW c), (12, vW b), (13, vI i), (16, vW y), (17, vI l), (18, vW (dg32 Z (l + j) + dg32 V l + c))] [(100, (.pl (Vn nu Z), 81)), (900, (.abs (numA V), 0))] ⟨tp, tp, tp, tE fun _ => wi_add, txs sl25, tlv on81, tE fun _ => wr_u64 rfl (Nat.lt_trans (dg32_lt _ _) (by decide)), tp, tp, txn sl25, tln on81, tE fun _ => wr_u64 rfl (Nat.lt_trans (dg32_lt _ _) (by decide)), tE (x := .int .u64 (IntKind.u64.wrap (((dg32 Z (l + j) : Nat) : Int) + ((dg32 V l : Nat) : Int)))) fun _ => (wu_add _ _).trans (congrArg (fun n : Nat => Value.int .u64 (n : Int)) (Nat.mod_eq_of_lt (by omega))), tp, tE (x := .int .u64 (IntKind.u64.wrap (((dg32 Z (l + j) + dg32 V l : Nat) : Int) + ((c : Nat) : Int)))) fun _ => (wu_add _ _).trans (congrArg (fun n : Nat => Value.int .u64 (n : Int)) (Nat.mod_eq_of_lt (by omega))), tp, trivial⟩ ?_
    clear hE; intro γ ac wc hE
    obtain ⟨s, hs⟩ : ∃ z : Nat, z = dg32 Z (l + j) + dg32 V l + c := ⟨_, rfl⟩
    rw [← hs] at hE
    refine sq_t hE [Rw 174 (.s (.sl 100 0 nu cap)) [(0, .s (.sl 100 0 nu cap))], Rw 175 (vI l) [(17, vI l)], Rw 176 (vI j) [(2, vI j)], Rw 177 (vI (l + j)) [(175, vI l), (176, vI j)], Rw 178 (vW s) [(18, vW s)], Rw 179 (vW (s % 4294967296)) [(178, vW s)], Rw 180 (.s (inN .u32 (s % 4294967296))) [(179, vW (s % 4294967296))], Rw 181 (vP 100 (l + j)) [(174, .s (.sl 100 0 nu cap)), (177, vI (l + j))], Rz [(181, vP 100 (l + j)), (180, .s (inN .u32 (s % 4294967296)))] [(100, (.pl (Vn nu Z), 81))] [(100, (.pl (Vn nu (set32 Z (l + j) (s % 4294967296))), 81))]] [(0, .s (.sl 100 0 nu cap)), (1, vM 900), (2, vI j), (6, vW 0), (7, vI (nd V)), (9, vW d), (11, vW c), (12, vW b), (13, vI i), (16, vW y), (17, vI l), (18, vW s)] [(100, (.pl (Vn nu (set32 Z (l + j) (s % 4294967296))), 81)), (900, (.abs (numA V), 0))] ⟨tp, tp, tp, tE fun _ => wi_add, tp, trip_bin .and 22 22 (.tmp 178) (.const (.int .u64 ((4294967295 : Nat) : Int))) (.int .u64 ((s : Nat) : Int)) (.int .u64 ((4294967295 : Nat) : Int)) (.int .u64 ((s % 4294967296 : Nat) : Int)) rfl rfl rfl (by kernel_rfl) rfl rfl (fun γ => by kernel_rfl) (fun γ => by kernel_rfl) (fun _ _ => rfl) (fun w => (b_and_u64 _ _ (by omega) (by decide)).trans (congrArg (fun n : Nat => Result.ok (Value.int .u64 (n : Int)) w) (and32' _))) (fun γ => rfl), tE fun _ => wr_u32 rfl (Nat.mod_lt _ (by decide)), txs sl25, tsv sz81 (hd32 := (Nat.mod_lt _ (by decide))), trivial⟩ ?_
    clear hE; intro γ ac wc hE
    refine rg_t hE [Rw 182 (vW s) [(18, vW s)], Rw 183 (vW (s / 4294967296)) [(182, vW s)], Rw 11 (vW (s / 4294967296)) [(183, vW (s / 4294967296))]] [(0, .s (.sl 100 0 nu cap)), (1, vM 900), (2, vI j), (6, vW 0), (7, vI (nd V)), (9, vW d), (11, vW (s / 4294967296)), (12, vW b), (13, vI i), (16, vW y), (17, vI l), (18, vW s)] [(100, (.pl (Vn nu (set32 Z (l + j) (s % 4294967296))), 81)), (900, (.abs (numA V), 0))] ⟨tp, trip_bin .shr 22 30 (.tmp 182) (.const (.int .u64 ((32 : Nat) : Int))) (.int .u64 ((s : Nat) : Int)) (.int .u64 ((32 : Nat) : Int)) (.int .u64 ((s / 4294967296 : Nat) : Int)) rfl rfl rfl (by kernel_rfl) rfl rfl (fun γ => by kernel_rfl) (fun γ => by kernel_rfl) (fun _ _ => rfl) (fun w => (b_shr_u64 _ _ _ (by decide)).trans (congrArg (fun n : Nat => Result.ok (Value.int .u64 (n : Int)) w) rfl)) (fun γ => rfl), tp, trivial⟩ ?_
    clear hE; intro γ ac wc hE
    refine blk_normal ?_
    refine then_normal ?_
    refine rg_t hE [Rw 157 (vI l) [(17, vI l)], Rw 158 (vI (l + 1)) [(157, vI l)], Rw 17 (vI (l + 1)) [(158, vI (l + 1))]] [(0, .s (.sl 100 0 nu cap)), (1, vM 900), (2, vI j), (6, vW 0), (7, vI (nd V)), (9, vW d), (11, vW (s / 4294967296)), (12, vW b), (13, vI i), (16, vW y), (17, vI (l + 1)), (18, vW s)] [(100, (.pl (Vn nu (set32 Z (l + j) (s % 4294967296))), 81)), (900, (.abs (numA V), 0))] ⟨tp, tE fun _ => wi_add, tp, trivial⟩ ?_
    clear hE; intro γ ac wc hE
    refine then_normal ⟨(l + 1, set32 Z (l + j) (s % 4294967296), s / 4294967296), (by show nd V - (l + 1) < nd V - l; omega), ⟨by omega, back_step gc2 hs, set32_lt gc3 (Nat.mod_lt _ (by decide)) (by omega), by omega⟩, _, hE.sub (by kernel_rfl) (by kernel_rfl)⟩
   ·
    have hb7p := of_decide_eq_false hb7
    refine wp_exit ?_
    refine then_exit ?_
    refine then_exit ?_
    refine blk_hit ?_
    refine then_normal ?_
    have hi2 : l = nd V := by omega
    rw [hi2] at gc2
    refine sq_t hE [Rw 184 (.s (.sl 100 0 nu cap)) [(0, .s (.sl 100 0 nu cap))], Rw 185 (vI j) [(2, vI j)], Rw 186 (vI (nd V)) [(7, vI (nd V))], Rw 187 (vI (j + (nd V))) [(185, vI j), (186, vI (nd V))], Rw 188 (.s (.sl 100 0 nu cap)) [(0, .s (.sl 100 0 nu cap))], Rw 189 (vI j) [(2, vI j)], Rw 190 (vI (nd V)) [(7, vI (nd V))], Rw 191 (vI (j + (nd V))) [(189, vI j), (190, vI (nd V))], Rw 192 (vP 100 (j + (nd V))) [(188, .s (.sl 100 0 nu cap)), (191, vI (j + (nd V)))], Rw 193 (.s (inN .u32 (dg32 Z (j + (nd V))))) [(192, vP 100 (j + (nd V)))] [(100, (.pl (Vn nu Z), 81))], Rw 194 (vW c) [(11, vW c)], Rw 195 (.s (inN .u32 c)) [(194, vW c)], Rw 196 (.s (inN .u32 ((dg32 Z (j + nd V) + c) % 4294967296))) [(193, .s (inN .u32 (dg32 Z (j + (nd V))))), (195, .s (inN .u32 c))], Rw 197 (vP 100 (j + (nd V))) [(184, .s (.sl 100 0 nu cap)), (187, vI (j + (nd V)))], Rz [(197, vP 100 (j + (nd V))), (196, .s (inN .u32 ((dg32 Z (j + nd V) + c) % 4294967296)))] [(100, (.pl (Vn nu Z), 81))] [(100, (.pl (Vn nu (set32 Z (j + (nd V)) ((dg32 Z (j + nd V) + c) % 4294967296))), 81))]] [(0, .s (.sl 100 0 nu cap)), (1, vM 900), (2, vI j), (6, vW 0), (7, vI (nd V)), (9, vW d), (11, vW c), (12, vW b), (13, vI i), (16, vW y), (17, vI l)] [(100, (.pl (Vn nu (set32 Z (j + (nd V)) ((dg32 Z (j + nd V) + c) % 4294967296))), 81)), (900, (.abs (numA V), 0))] ⟨tp, tp, tp, tE fun _ => wi_add, tp, tp, tp, tE fun _ => wi_add, txs sl25, tlv on81, tp, tE fun _ => wr_u32 rfl (by omega), tE (x := .int .u32 (IntKind.u32.wrap (((dg32 Z (j + nd V) : Nat) : Int) + ((c : Nat) : Int)))) fun _ => wu32_wrap _ _, txs sl25, tsv sz81 (hd32 := (Nat.mod_lt _ (by decide))), trivial⟩ ?_
    clear hE; intro γ ac wc hE
    have hm := sub_much (nd_lt V) hV0 gb3 gb2 hy gb5 gb4 (by assumption) (by rw [← hq]; exact hJ.1)
    have hd0 : 0 < d := by rw [hm.1]; exact Nat.succ_pos _
    refine sq_t hE [Rw 198 (vW d) [(9, vW d)], Rw 199 (vW (d - 1)) [(198, vW d)], Rw 6 (vW (d - 1)) [(199, vW (d - 1))]] [(0, .s (.sl 100 0 nu cap)), (1, vM 900), (2, vI j), (6, vW (d - 1)), (7, vI (nd V)), (9, vW d), (11, vW c), (12, vW b), (13, vI i), (16, vW y), (17, vI l)] [(100, (.pl (Vn nu (set32 Z (j + (nd V)) ((dg32 Z (j + nd V) + c) % 4294967296))), 81)), (900, (.abs (numA V), 0))] ⟨tp, tE (x := .int .u64 (IntKind.u64.wrap (((d : Nat) : Int) - ((1 : Nat) : Int)))) fun _ => (wu_sub _ _ (by omega)).trans (congrArg (fun n : Nat => Value.int .u64 (n : Int)) (by omega)), tp, trivial⟩ ?_
    clear hE; intro γ ac wc hE
    refine wp_ret ?_
    have hb := back_end (q := q) (nd_lt V) hV0 gc3 (by rw [hq, ← hm.1]; exact hm.2) gc2 gc4 hq
    have hr : d - 1 = U / 2 ^ (32 * j) / V := by have := hq; have := hm.1; omega
    have hh := Ct.pl_at (hE.heap 100 _ rfl)
    rw [pl_obj, show γ 100 = gu from hE.fix (100, gu) (.head _)] at hh
    exact (end1 hE rfl (.tmp 6 (vW (d - 1)) rfl) (⟨by rw [← hr]; rfl, only_pn hE.keep, by rw [hh, show set32 Z (j + (nd V)) ((dg32 Z (j + nd V) + c) % 4294967296) = U - U / 2 ^ (32 * j) / V * V * 2 ^ (32 * j) from (by rw [← hq]; exact hb)]⟩)).1
end Go.Proofs.Ytddfimfgcfgpbaa
