/-
  Numbers of the references: trim, digit.
-/
import Derived.Test.YtddfimfgcfgpbaaSTf
import Derived.Test.YtddfimfgcfgpbaaSWz
import Derived.Test.YtddfimfgcfgpbaaSNd
namespace Go.Proofs.Ytddfimfgcfgpbaa
open Sx
open Go.RowKit (Below)
set_option exponentiation.threshold 2000
theorem nvk_stop' {x k n : Nat} (hG : nvk x k = nvk x n) (h : k = 0 ∨ ¬ (dg32 x (k - 1) = 0)) : k = nvk x n := by
  rw [← hG]
  cases k with
  | zero => rfl
  | succ m =>
    rcases h with h | h
    · cases h
    · exact (nvk_pos h).symm
theorem nvk_zero' {x k : Nat} (h0 : 0 < k) (h : dg32 x (k - 1) = 0) : nvk x k = nvk x (k - 1) := by
  obtain ⟨m, rfl⟩ : ∃ m, k = m + 1 := ⟨k - 1, by omega⟩
  exact nvk_zero h
theorem r1_trim (g n m T x : Nat) (cs : List Sc) (hn : n ≤ 1000000) (hm : n ≤ m) (hc : ∀ i, i < n → cs[i]? = some (inN .u32 (dg32 x i))) (hx : x < 2 ^ (32 * n)) (w0 : World) (hh : w0.heap[g]? = some (.cells (cs.map (Sc.den fun _ => 0)).toArray T (0, 0))) : Calls Try.prog 71 #[.slice (some ⟨g, 0, none⟩) n m] w0 fun e w => e = .returned (.slice (some ⟨g, 0, none⟩) (nd x) m) ∧ Below w0.heap.size w0 w := by
 refine enter_sx [(0, .s (.v (.slice (some ⟨g, 0, none⟩) n m)))] 21 Try.func71 rfl rfl (Nat.le_of_ble_eq_true (by kernel_rfl)) (fun γ => by kernel_rfl) ?_
 intro γ ac hE
 refine sq_t hE [Rw 2 (.s (.v (.slice none 0 0)))] [(0, .s (.v (.slice (some ⟨g, 0, none⟩) n m))), (2, .s (.v (.slice none 0 0)))] [] ⟨tp, trivial⟩ ?_
 clear hE; intro γ ac wc hE
 refine sq_t hE [Rw 4 (.s (.v (.slice (some ⟨g, 0, none⟩) n m))) [(0, .s (.v (.slice (some ⟨g, 0, none⟩) n m)))], Rw 5 (vI n) [(4, .s (.v (.slice (some ⟨g, 0, none⟩) n m)))], Rw 3 (vI n) [(5, vI n)]] [(0, .s (.v (.slice (some ⟨g, 0, none⟩) n m))), (2, .s (.v (.slice none 0 0))), (3, vI n)] [] ⟨tp, tp, tp, trivial⟩ ?_
 clear hE; intro γ ac wc hE
 refine wp_seq ?_
 refine wp_block ?_
 refine loop_sx (σ := Nat) (fun k => k) (fun k => nvk x k = nvk x n ∧ k ≤ n)
     (fun k => [(0, .s (.v (.slice (some ⟨g, 0, none⟩) n m))), (2, .s (.v (.slice none 0 0))), (3, vI k)])
     (fun k => [])
     (n) (⟨rfl, Nat.le_refl _⟩) (hE.sub (by kernel_rfl) (by kernel_rfl)) ?_
 clear hE; intro k γ ac wc hG hE
 refine wp_seq ?_
 rcases Bool.eq_false_or_eq_true (decide (0 < k)) with hb1 | hb1
 ·
  have hb1p := of_decide_eq_true hb1
  refine sq_t hE [Rw 6 (vI k) [(3, vI k)], Rw 7 (vB true) [(6, vI k)], Rw 8 (vB true) [(7, vB true)], Rw 9 (.s (.v (.slice (some ⟨g, 0, none⟩) n m))) [(0, .s (.v (.slice (some ⟨g, 0, none⟩) n m))), (8, vB true)], Rw 10 (vI k) [(3, vI k), (8, vB true)], Rw 11 (vI (k - 1)) [(10, vI k), (8, vB true)], Rw 12 (vX g (k - 1)) [(9, .s (.v (.slice (some ⟨g, 0, none⟩) n m))), (11, vI (k - 1)), (8, vB true)], Rw 13 (.s (inN .u32 (dg32 x (k - 1)))) [(12, vX g (k - 1)), (8, vB true)], Rw 14 (vB (decide (dg32 x (k - 1) = 0))) [(13, .s (inN .u32 (dg32 x (k - 1)))), (8, vB true)], Rw 15 (vB (decide (dg32 x (k - 1) = 0))) [(8, vB true), (14, vB (decide (dg32 x (k - 1) = 0)))]] [(0, .s (.v (.slice (some ⟨g, 0, none⟩) n m))), (2, .s (.v (.slice none 0 0))), (3, vI k), (15, vB (decide (dg32 x (k - 1) = 0)))] [] ⟨tp, tE fun _ => (d_gtr _ _).trans (congrArg Value.bool hb1), tp, ton tp, ton tp, ton (tE fun _ => wi_sub), ton (txsx sl25), ton (trip_loadx1 12 g (k - 1) 81 (cs) T (.int .u32 ((dg32 x (k - 1) : Nat) : Int)) rfl rfl rfl rfl rfl rfl (fun w hk => hk.get hh) on81 (hc _ (by omega)) rfl), ton (tE fun _ => d_eql _ _), tp, trivial⟩ ?_
  clear hE; intro γ ac wc hE
  refine cond_sx hE rfl (fun hb2 => ?_) (fun hb2 => ?_)
  ·
   have hb2p := of_decide_eq_true hb2
   refine wp_skip ?_
   refine then_normal ?_
   refine wp_block ?_
   refine rg_t hE [Rw 16 (vI k) [(3, vI k)], Rw 17 (vI (k - 1)) [(16, vI k)], Rw 3 (vI (k - 1)) [(17, vI (k - 1))]] [(0, .s (.v (.slice (some ⟨g, 0, none⟩) n m))), (2, .s (.v (.slice none 0 0))), (3, vI (k - 1))] [] ⟨tp, tE fun _ => wi_sub, tp, trivial⟩ ?_
   clear hE; intro γ ac wc hE
   refine blk_normal ?_
   refine then_normal ⟨k - 1, by omega, ⟨(nvk_zero' hb1p hb2p).symm.trans hG.1, by omega⟩, _, hE.sub (by kernel_rfl) (by kernel_rfl)⟩
  ·
   have hb2p := of_decide_eq_false hb2
   refine wp_exit ?_
   refine then_exit ?_
   refine then_exit ?_
   refine blk_hit ?_
   refine then_normal ?_
   refine sq_t hE [Rw 18 (.s (.v (.slice (some ⟨g, 0, none⟩) n m))) [(0, .s (.v (.slice (some ⟨g, 0, none⟩) n m)))], Rw 19 (vI k) [(3, vI k)], Rw 20 (.s (.v (.slice (some ⟨g, 0, none⟩) k m))) [(18, .s (.v (.slice (some ⟨g, 0, none⟩) n m))), (19, vI k)], Rw 2 (.s (.v (.slice (some ⟨g, 0, none⟩) k m))) [(20, .s (.v (.slice (some ⟨g, 0, none⟩) k m)))]] [(0, .s (.v (.slice (some ⟨g, 0, none⟩) n m))), (2, .s (.v (.slice (some ⟨g, 0, none⟩) k m))), (3, vI k)] [] ⟨tp, tp, tshx sl25, tp, trivial⟩ ?_
   clear hE; intro γ ac wc hE
   refine wp_ret ?_
   have hk : k = nd x := (nvk_stop' hG.1 (by first | exact .inl (by omega) | exact .inr (by assumption))).trans (nd_nvk hx)
   exact (end1 hE rfl (.tmp 2 (.s (.v (.slice (some ⟨g, 0, none⟩) k m))) rfl) (⟨by rw [hk]; rfl, hE.keep.below⟩)).1
 ·
  have hb1p := of_decide_eq_false hb1
  refine sq_t hE [Rw 6 (vI k) [(3, vI k)], Rw 7 (vB false) [(6, vI k)], Rw 8 (vB false) [(7, vB false)], Rw 9 vU [(8, vB false)], Rw 10 vU [(8, vB false)], Rw 11 vU [(8, vB false)], Rw 12 vU [(8, vB false)], Rw 13 vU [(8, vB false)], Rw 14 vU [(8, vB false)], Rw 15 (vB false) [(8, vB false), (14, vU)]] [(0, .s (.v (.slice (some ⟨g, 0, none⟩) n m))), (2, .s (.v (.slice none 0 0))), (3, vI k), (15, vB false)] [] ⟨tp, tE fun _ => (d_gtr _ _).trans (congrArg Value.bool hb1), tp, tof, tof, tof, tof, tof, tof, tp, trivial⟩ ?_
  clear hE; intro γ ac wc hE
  refine cond_sx hE rfl (fun h => by cases h) (fun _ => ?_)
  refine wp_exit ?_
  refine then_exit ?_
  refine then_exit ?_
  refine blk_hit ?_
  refine then_normal ?_
  refine sq_t hE [Rw 18 (.s (.v (.slice (some ⟨g, 0, none⟩) n m))) [(0, .s (.v (.slice (some ⟨g, 0, none⟩) n m)))], Rw 19 (vI k) [(3, vI k)], Rw 20 (.s (.v (.slice (some ⟨g, 0, none⟩) k m))) [(18, .s (.v (.slice (some ⟨g, 0, none⟩) n m))), (19, vI k)], Rw 2 (.s (.v (.slice (some ⟨g, 0, none⟩) k m))) [(20, .s (.v (.slice (some ⟨g, 0, none⟩) k m)))]] [(0, .s (.v (.slice (some ⟨g, 0, none⟩) n m))), (2, .s (.v (.slice (some ⟨g, 0, none⟩) k m))), (3, vI k)] [] ⟨tp, tp, tshx sl25, tp, trivial⟩ ?_
  clear hE; intro γ ac wc hE
  refine wp_ret ?_
  have hk : k = nd x := (nvk_stop' hG.1 (by first | exact .inl (by omega) | exact .inr (by assumption))).trans (nd_nvk hx)
  exact (end1 hE rfl (.tmp 2 (.s (.v (.slice (some ⟨g, 0, none⟩) k m))) rfl) (⟨by rw [hk]; rfl, hE.keep.below⟩)).1
theorem r1_digit {k n x i : Nat} (hx : x < 2 ^ (32 * n)) (w0 : World) (h : Raw w0 k n x) : Calls Try.prog 72 #[dec k, .int .i64 (i : Int)] w0 fun e w => e = .returned (.int .u64 (dg32 x i : Int)) ∧ Below w0.heap.size w0 w := by
 refine enter_n [(900, k, n, x)] [(0, vM 900), (1, vI i)] Try.func72 rfl rfl ⟨h, trivial⟩ ?_
 intro γ ac hE
 replace hE : Env _ _ _ w0 (lk [(0, vM 900), (1, vI i)]) (lk [(900, (.abs (rawA n x), 0))]) γ ac w0 := hE
 refine sq_t hE [Rw 4 (vW 0)] [(0, vM 900), (1, vI i), (4, vW 0)] [(900, (.abs (rawA n x), 0))] ⟨tp, trivial⟩ ?_
 clear hE; intro γ ac wc hE
 refine wp_seq ?_
 refine sq_t hE [Rw 5 (vI i) [(1, vI i)], Rw 6 (vM 900) [(0, vM 900)], Rw 7 (vI n) [(6, vM 900)] [(900, (.abs (rawA n x), 0))], Rw 8 (vB (decide (i < n))) [(5, vI i), (7, vI n)]] [(0, vM 900), (1, vI i), (4, vW 0), (8, vB (decide (i < n)))] [(900, (.abs (rawA n x), 0))] ⟨tp, tp, tnl sl25, tE fun _ => d_lss _ _, trivial⟩ ?_
 clear hE; intro γ ac wc hE
 refine cond_sx hE rfl (fun hb1 => ?_) (fun hb1 => ?_)
 ·
  have hb1p := of_decide_eq_true hb1
  refine sq_t hE [Rw 9 (vM 900) [(0, vM 900)], Rw 10 (vI i) [(1, vI i)], Rw 11 (.s (.nptr 900 i)) [(9, vM 900), (10, vI i)] [(900, (.abs (rawA n x), 0))], Rw 12 (.s (inN .u32 (dg32 x i))) [(11, .s (.nptr 900 i))] [(900, (.abs (rawA n x), 0))], Rw 13 (vW (dg32 x i)) [(12, .s (inN .u32 (dg32 x i)))], Rw 4 (vW (dg32 x i)) [(13, vW (dg32 x i))]] [(0, vM 900), (1, vI i), (4, vW (dg32 x i))] [(900, (.abs (rawA n x), 0))] ⟨tp, tp, txn sl25, tln on81, tE fun _ => wr_u64 rfl (Nat.lt_trans (dg32_lt _ _) (by decide)), tp, trivial⟩ ?_
  clear hE; intro γ ac wc hE
  refine wp_ret ?_
  refine then_ret ?_
  exact (end1 hE rfl (.tmp 4 (vW (dg32 x i)) rfl) (⟨rfl, hE.keep.belowN⟩)).1
 ·
  have hb1p := of_decide_eq_false hb1
  refine wp_skip ?_
  refine then_normal ?_
  refine sq_t hE [Rw 4 (vW 0)] [(0, vM 900), (1, vI i), (4, vW 0)] [(900, (.abs (rawA n x), 0))] ⟨tp, trivial⟩ ?_
  clear hE; intro γ ac wc hE
  refine wp_ret ?_
  exact (end1 hE rfl (.tmp 4 (vW 0) rfl) (⟨by rw [dg32_big hx (by omega)]; rfl, hE.keep.belowN⟩)).1
section
variable {F : Fx} {B0 : Bs} {w0 : World} {ops : Array Oper} {o : Oper} {r : Row}
theorem ttrim {k N n m y z T d : Nat} (hkey : r.keys = [(k, (.pl (Vn N y), T))] := by exact rfl) (hp : r.puts = [(k, (.gone, 0))] := by exact rfl) (hn : r.neu = [(d, (.abs (numA z), 0))] := by exact rfl) (hv : r.v = .s (.fn d nfN) := by exact rfl) (hd : o.dst = r.dst := by exact rfl) (hg : o.guard = none := by exact rfl) (hk : known r.use o.op = true := by exact rfl)
    {c : Call} {t : Nat} (hop : o.op = .call c := by exact rfl) (ha : c.args = #[.tmp t] := by exact rfl) (hu : lk r.use t = some (.s (.sl k 0 n m)) := by exact rfl) (hrun : ∀ γ w, (execOp (envOf γ r.use) o).run Try.prog w = .ok (.enter 71 #[.slice (some ⟨γ k, 0, none⟩) n m]) w := by (intro γ w; kernel_rfl)) (hz : Vn n y = Vn n z := by rfl) (hlt : z < 2 ^ (32 * n) := by omega) (hle : n ≤ 1000000 := by omega) (hnm : n ≤ m := by omega) (hnN : n ≤ N := by omega) : Trip Try.prog F B0 w0 ops o r :=
  trip_call 71 (fun γ => #[.slice (some ⟨γ k, 0, none⟩) n m]) hd hg hk hrun (fun γ w _ _ hks => by
    have hh := Ct.pl_at (hks (k, (.pl (Vn N y), T)) (by rw [hkey]; exact .head _))
    have hh2 : w.heap[γ k]? = some (.cells (((Vn N y).map Sc.v).map (Sc.den fun _ => 0)).toArray T (0, 0)) := by
      refine hh.trans ?_
      simp only [Ct.obj, Cn.cs, List.map_map]
      rfl
    have hdz : ∀ i, i < n → dg32 y i = dg32 z i := fun i hi => by
      have h1 := congrArg (fun l : List Value => l[i]?) hz
      simp only [Vn_get hi, Option.some.injEq, Value.int.injEq, true_and] at h1
      omega
    refine (r1_trim (γ k) n m T z ((Vn N y).map Sc.v) hle hnm (fun i hi => by rw [List.getElem?_map, Vn_get (Nat.lt_of_lt_of_le hi hnN), hdz i hi]; rfl) hlt w hh2).mono ?_
    rintro e w' ⟨he, hb⟩
    have hh3 : w'.heap[γ k]? = some (.cells (Vn N y).toArray T (0, 0)) := by
      rw [hb.block _ (lt_heap' hh2), hh2]
      simp [Sc.den, Function.comp_def]
    have hraw : Raw w' (enc (some (γ k)) (nd z) m) (nd z) z := ⟨some (γ k), m, rfl, Nat.le_trans (nd_le hlt) hnm, fun _ => ⟨γ k, _, T, rfl, hh3, fun i hi => by
      have hi2 : i < n := Nat.lt_of_lt_of_le hi (nd_le hlt)
      have := Vn_get (n := N) (x := y) (i := i) (Nat.lt_of_lt_of_le hi2 hnN)
      rw [hdz i hi2] at this
      simpa using this⟩⟩
    obtain ⟨b1, b2, b3, b4, b5⟩ := hb
    have hlk : ∀ j c', lk r.neu j = some c' → j = d ∧ c' = (.abs (numA z), 0) := fun j c' h => by
      rw [hn] at h
      simp only [lk] at h
      cases hb : Nat.beq d j with
      | true => rw [hb] at h; simp at h; exact ⟨(Nat.eq_of_beq_eq_true hb).symm, h.symm⟩
      | false => rw [hb] at h; simp at h
    have hpk : lk r.puts k = some (.gone, 0) := by rw [hp]; simp [lk]
    refine ⟨nm γ d (enc (some (γ k)) (nd z) m), ⟨b1, b2, b3, b4, fun j hj => ?_, fun j c hj => ?_, fun j j' c c' hj _ hmu => ?_, fun j c hj => ?_, fun j hj _ => b5 j hj⟩, ?_⟩
    · refine nm_ne (fun e => ?_)
      subst e
      rw [hn] at hj
      simp [lk] at hj
    · obtain ⟨rfl, rfl⟩ := hlk j c hj
      rw [nm_self]
      refine ⟨hraw, fun g hg => .inr ⟨_, by rw [hkey]; exact .head _, ?_, .inl ⟨rfl, hpk⟩⟩⟩
      exact Nb_enc hg
    · obtain ⟨rfl, rfl⟩ := hlk j c hj
      cases hmu
    · rw [hp] at hj
      have : c = (.gone, 0) := by
        simp only [lk] at hj
        cases hb : Nat.beq k j with
        | true => rw [hb] at hj; simp at hj; exact hj.symm
        | false => rw [hb] at hj; simp at hj
      subst this
      exact ⟨trivial, fun g hg => hg.elim⟩
    · rw [he, hv]
      simp only [SV.den, Sc.den, nm_self, nfN, dec_enc]
      rfl)
end
end Go.Proofs.Ytddfimfgcfgpbaa
