/-
  Slices that are written out; the greater of two.
  Where ways meet again; the plain law of one step of long division.
  A number copied into a slice of noughts.
  Slices that grow: appends.
-/
import Derived.Test.YtddfimfgcfgpbaaSRa
import Derived.Laws.AppendOwn
namespace Go.Proofs.Ytddfimfgcfgpbaa
open Sx
open Go.RowKit (Below)
section
variable {P : Program} {F : Fx} {B0 : Bs} {w0 : World} {ops : Array Oper} {o : Oper} {r : Row}
theorem run_max {c : Call} {ty a b : Nat} {x y : Operand} {ρ : Operand → Value} (hc : c.callee = .builtin .max) (ha : c.args = #[x, y]) (hx : ρ x = .int .i64 (a : Int)) (hy : ρ y = .int .i64 (b : Int)) (w : World) :
    (do let d ← resolve ρ c ty; invoke d.target d.args : Sem Next).run P w = .ok (.value (.int .i64 ((max a b : Nat) : Int))) w := by
  obtain ⟨cs, h1⟩ : ∃ cs, resolve ρ c ty = pure { target := .builtin .max c.argTypes ty cs, args := #[.int .i64 (a : Int), .int .i64 (b : Int)] } := by
    unfold resolve
    simp only [hc, ha, hx, hy, List.map_toArray, List.map_cons, List.map_nil]
    exact ⟨_, rfl⟩
  rw [h1]
  simp only [pure_bind, invoke, builtin, Builtin.max_]
  simp [Builtin.max2]
  split <;> omega
theorem tmax {c : Call} {a b : Nat} {x y : Operand} (hop : o.op = .call c := by exact rfl) (hc : c.callee = .builtin .max := by exact rfl) (ha : c.args = #[x, y] := by exact rfl) (hd : o.dst = r.dst := by exact rfl) (hg : o.guard = none := by exact rfl) (hk : known r.use o.op = true := by exact rfl) (hn : r.neu = [] := by exact rfl) (hp : r.puts = [] := by exact rfl)
    (hv : r.v = .s (.v (.int .i64 ((max a b : Nat) : Int))) := by exact rfl) (hx : ∀ γ, envOf γ r.use x = .int .i64 (a : Int) := by (intro γ; kernel_rfl)) (hy : ∀ γ, envOf γ r.use y = .int .i64 (b : Int) := by (intro γ; kernel_rfl)) : Trip P F B0 w0 ops o r :=
  trip_pure hd hg hk hn hp (fun γ w => by
    simp only [execOp, hop]
    rw [run_max hc ha (hx γ) (hy γ) w, hv]; rfl)
theorem tbs {k T n : Nat} {cs : List Sc} (hn : r.neu = [(k, (.sc cs, T))] := by exact rfl) (hv : r.v = .s (.sl k 0 n n) := by exact rfl) (hd : o.dst = r.dst := by exact rfl) (hg : o.guard = none := by exact rfl) (hk : known r.use o.op = true := by exact rfl) (hp : r.puts = [] := by exact rfl) (hf : hasL k cs = false := by kernel_rfl)
    (hrun : ∀ γ w, (execOp (envOf γ r.use) o).run P w = .ok (.value (.slice (some ⟨w.heap.size, 0, none⟩) n n)) (w.alloc (.cells (cs.map (Sc.den γ)).toArray T (0, 0))) := by (intro γ w; kernel_rfl)) : Trip P F B0 w0 ops o r :=
  trip_new k (.sc cs, T) hd hg hk hn hp hf rfl (fun γ w _ _ _ => by rw [hrun γ w, hv]; simp only [SV.den, Sc.den, nm_self]; rfl)
theorem tbv {k T n z : Nat} (hn : r.neu = [(k, (.pl (Vn n z), T))] := by exact rfl) (hv : r.v = .s (.sl k 0 n n) := by exact rfl) (hd : o.dst = r.dst := by exact rfl) (hg : o.guard = none := by exact rfl) (hk : known r.use o.op = true := by exact rfl) (hp : r.puts = [] := by exact rfl)
    (hrun : ∀ γ w, (execOp (envOf γ r.use) o).run P w = .ok (.value (.slice (some ⟨w.heap.size, 0, none⟩) n n)) (w.alloc (.cells (Vn n z).toArray T (0, 0))) := by (intro γ w; kernel_rfl)) : Trip P F B0 w0 ops o r :=
  trip_new k (.pl (Vn n z), T) hd hg hk hn hp rfl rfl (fun γ w _ _ _ => by
    rw [hrun γ w, hv]
    simp only [SV.den, Sc.den, nm_self, Ct.obj, Cn.cs, List.map_map, Function.comp_def, List.map_id'])
theorem tbn {d n z T : Nat} (hn : r.neu = [(d, (.abs (numA z), 0))] := by exact rfl) (hv : r.v = .s (.fn d nfN) := by exact rfl) (hd : o.dst = r.dst := by exact rfl) (hg : o.guard = none := by exact rfl) (hk : known r.use o.op = true := by exact rfl) (hp : r.puts = [] := by exact rfl)
    (hrun : ∀ γ w, (execOp (envOf γ r.use) o).run P w = .ok (.value (.slice (some ⟨w.heap.size, 0, none⟩) n n)) (w.alloc (.cells (Vn n z).toArray T (0, 0))) := by (intro γ w; kernel_rfl)) (hnz : nd z = n := by kernel_rfl) : Trip P F B0 w0 ops o r := by
  refine ⟨hd, fun γ a w Q K hkeep hfix hu hks _hap hK => stepGoal_wp hg ?_⟩
  unfold Oper.wp
  rw [Sx.execOp_congr (fun x hx => use_get hu hx) hk, hrun γ w]
  have hlk : ∀ j c', lk r.neu j = some c' → j = d ∧ c' = (.abs (numA z), 0) := fun j c' h => by
    rw [hn] at h
    simp only [lk] at h
    cases hb : Nat.beq d j with
    | true => rw [hb] at h; simp at h; exact ⟨(Nat.eq_of_beq_eq_true hb).symm, h.symm⟩
    | false => rw [hb] at h; simp at h
  have h2 := hK (nm γ d (enc (some w.heap.size) n n)) (w.alloc (.cells (Vn n z).toArray T (0, 0))) ⟨rfl, rfl, rfl, by simp, fun j hj => ?_, fun j c hj => ?_, fun j j' c c' hj _ hmu => ?_, fun j c hj => ?_, fun j hj _ => heap_alloc_old' _ _ _ hj⟩
  · rw [hv] at h2
    simp only [SV.den, Sc.den, nm_self, nfN, dec_enc] at h2
    show K (a.put o.dst _) _
    rw [hd]
    exact h2
  · refine nm_ne (fun e => ?_)
    subst e
    rw [hn] at hj
    simp [lk] at hj
  · obtain ⟨rfl, rfl⟩ := hlk j c hj
    rw [nm_self]
    refine ⟨?_, fun g hg => .inl (by rw [Nb_enc hg]; exact Nat.le_refl _)⟩
    show Raw _ _ (nd z) z
    rw [hnz]
    exact raw_of (heap_alloc_new _ _) (Nat.le_refl _) (Nat.le_refl _)
  · obtain ⟨rfl, rfl⟩ := hlk j c hj
    cases hmu
  · rw [hp] at hj; cases hj
theorem tnil {d t : Nat} (hn : r.neu = [(d, (.abs (numA 0), 0))] := by exact rfl) (hv : r.v = .s (.fn d nfN) := by exact rfl) (hd : o.dst = r.dst := by exact rfl) (hg : o.guard = none := by exact rfl) (hk : known r.use o.op = true := by exact rfl) (hp : r.puts = [] := by exact rfl)
    (hrun : ∀ γ w, (execOp (envOf γ r.use) o).run P w = .ok (.value (.slice none 0 0)) w := by (intro γ w; kernel_rfl)) (_ht : r.dst = some t := by exact rfl) : Trip P F B0 w0 ops o r := by
  refine ⟨hd, fun γ a w Q K hkeep hfix hu hks _hap hK => stepGoal_wp hg ?_⟩
  unfold Oper.wp
  rw [Sx.execOp_congr (fun x hx => use_get hu hx) hk, hrun γ w]
  have hlk : ∀ j c', lk r.neu j = some c' → j = d ∧ c' = (.abs (numA 0), 0) := fun j c' h => by
    rw [hn] at h
    simp only [lk] at h
    cases hb : Nat.beq d j with
    | true => rw [hb] at h; simp at h; exact ⟨(Nat.eq_of_beq_eq_true hb).symm, h.symm⟩
    | false => rw [hb] at h; simp at h
  have h2 := hK (nm γ d (enc none 0 0)) w ⟨rfl, rfl, rfl, Nat.le_refl _, fun j hj => ?_, fun j c hj => ?_, fun j j' c c' hj _ hmu => ?_, fun j c hj => ?_, fun j hj _ => rfl⟩
  · rw [hv] at h2
    simp only [SV.den, Sc.den, nm_self, nfN, dec_enc] at h2
    show K (a.put o.dst _) _
    rw [hd]
    exact h2
  · refine nm_ne (fun e => ?_)
    subst e
    rw [hn] at hj
    simp [lk] at hj
  · obtain ⟨rfl, rfl⟩ := hlk j c hj
    rw [nm_self]
    exact ⟨num_nil, fun g hg => (Nb_nil hg).elim⟩
  · obtain ⟨rfl, rfl⟩ := hlk j c hj
    cases hmu
  · rw [hp] at hj; cases hj
end
end Go.Proofs.Ytddfimfgcfgpbaa
namespace Go.Proofs.Ytddfimfgcfgpbaa
open Sx
open Go.RowKit (Below)
set_option exponentiation.threshold 2000
section
variable {P : Program} {N : Nat} {F : Fx} {B0 : Bs} {w0 : World} {Q : Exit → Act → World → Prop} {a : Act} {w : World}
theorem cut_sx {S : Nat → Option SV} {C : Nat → Option Ct} {γ : Nat → Nat} (_hE : Env N F B0 w0 S C γ a w) {σ : Type} {c : Code} (G : σ → Prop) (L : σ → Sl) (M : σ → Bl) (h : c.wp P (Exit.then (fun a w => ∃ s, G s ∧ ∃ γ, Env N F B0 w0 (lk (L s)) (lk (M s)) γ a w) Q) a w)
    (hrest : ∀ s γ a w, G s → Env N F B0 w0 (lk (L s)) (lk (M s)) γ a w → Q .normal a w) : c.wp P Q a w := by
  refine wp_mono h ?_
  intro e a' w' he
  cases e with
  | normal => obtain ⟨s, hG, γ, E⟩ := he; exact hrest s γ a' w' hG E
  | exit id => exact he
  | goto l => exact he
  | ret => exact he
  | panic c => exact he
  | outgrown => exact he
end
theorem or32 {a b : Nat} (h : b < 4294967296) : a * 4294967296 ||| b = a * 4294967296 + b := by
  rw [Nat.mul_comm]; exact (Nat.two_pow_add_eq_or_of_lt (i := 32) h a).symm
theorem sq32 {a b : Nat} (ha : a < 4294967296) (hb : b < 4294967296) : a * b ≤ 18446744065119617025 := by
  have h : a * b ≤ 4294967295 * 4294967295 := Nat.mul_le_mul (by omega) (by omega)
  omega
theorem sp_top {U m : Nat} (hU : U < 2 ^ (32 * (m + 3))) : U / 2 ^ (32 * m) = (dg32 U (m + 2) * 4294967296 + dg32 U (m + 1)) * 4294967296 + dg32 U m := by
  have h1 := hi32 U m
  have h2 := hi32 U (m + 1)
  have h3 := hi32 U (m + 2)
  rw [Nat.div_eq_of_lt (show U < 2 ^ (32 * (m + 2 + 1)) from hU), Nat.zero_mul, Nat.zero_add] at h3
  rw [h1, h2, h3]
theorem sp_le {W V C : Nat} (_hC : 0 < C) : W / V * (V / C) ≤ W / C := by
  have h1 : W / V * V ≤ W := Nat.div_mul_le_self _ _
  exact Nat.le_trans (Nat.mul_div_le_mul_div_assoc _ _ _) (Nat.div_le_div_right h1)
theorem sp_init {q v12 v1 v2 x u2 W3 : Nat} (hv : v12 = v1 * 4294967296 + v2) (hW : W3 = x * 4294967296 + u2) (hu2 : u2 < 4294967296) (h1 : 0 < v1) (hq : q * v12 ≤ W3) : q ≤ x / v1 := by
  rw [Nat.le_div_iff_mul_le h1]
  rw [hv, Nat.mul_add, ← Nat.mul_assoc] at hq
  generalize q * v1 = t at *
  generalize q * v2 = s at *
  omega
theorem sp_dec {q d r v12 v1 v2 x u2 W3 : Nat} (hv : v12 = v1 * 4294967296 + v2) (hW : W3 = x * 4294967296 + u2) (hq : q * v12 ≤ W3) (hqB : q < 4294967296) (hd : d * v1 + r = x) (hqd : q ≤ d) (h : 4294967296 ≤ d ∨ r * 4294967296 + u2 < d * v2) : 0 < d ∧ q ≤ d - 1 := by
  have hlt : q < d := by
    rcases h with h | h
    · omega
    · refine Nat.lt_of_not_le fun hc => ?_
      have h3 : d * v12 ≤ q * v12 := Nat.mul_le_mul_right _ hc
      rw [hv, Nat.mul_add, ← Nat.mul_assoc] at h3
      have h4 : q * (v1 * 4294967296 + v2) ≤ W3 := by rw [← hv]; exact hq
      rw [← hd] at hW
      rw [Nat.add_mul] at hW
      generalize d * v2 = s at *
      generalize d * v1 = t at *
      omega
  omega
theorem sp_end {d r v12 v1 v2 x u2 W3 : Nat} (hv : v12 = v1 * 4294967296 + v2) (hW : W3 = x * 4294967296 + u2) (hd : d * v1 + r = x) (h : d * v2 ≤ r * 4294967296 + u2) : d * v12 ≤ W3 := by
  rw [hv, Nat.mul_add, ← Nat.mul_assoc, hW, ← hd, Nat.add_mul]
  omega
theorem sp_over {d r v2 u2 : Nat} (hd : d ≤ 4294967296) (hv2 : v2 < 4294967296) (hr : 4294967296 ≤ r) : d * v2 ≤ r * 4294967296 + u2 := by
  have h1 : d * v2 ≤ 4294967296 * 4294967295 := Nat.mul_le_mul hd (by omega)
  have h2 : 4294967296 * 4294967296 ≤ r * 4294967296 := Nat.mul_le_mul_right _ hr
  omega
theorem sp_near {W V C d : Nat} (hC : 0 < C) (hV : 9223372036854775808 ≤ V / C) (hd : d < 4294967296) (h : d * (V / C) ≤ W / C) : d ≤ W / V + 1 := by
  refine Nat.le_of_lt_succ (Nat.lt_of_not_le fun hc => ?_)
  have hV0 : 0 < V := Nat.pos_of_ne_zero fun e => by rw [e, Nat.zero_div] at hV; omega
  obtain ⟨e, rfl⟩ : ∃ e, d = e + 1 := ⟨d - 1, by have := Nat.lt_of_lt_of_le (Nat.succ_pos _) hc; omega⟩
  have h1 : W < (W / V + 1) * V := by
    have := Nat.lt_div_mul_add (a := W) hV0
    rw [Nat.add_mul, Nat.one_mul]; exact this
  have h2 : (W / V + 1) * V ≤ e * V := Nat.mul_le_mul_right _ (Nat.le_of_succ_le_succ hc)
  have h3 : e * V ≤ W := by
    have h4 : V < (V / C + 1) * C := by
      have := Nat.lt_div_mul_add (a := V) hC
      rw [Nat.add_mul, Nat.one_mul]; exact this
    have h5 : e * V ≤ e * ((V / C + 1) * C) := Nat.mul_le_mul_left _ (Nat.le_of_lt h4)
    have h6 : e * (V / C + 1) ≤ (e + 1) * (V / C) := by
      rw [Nat.mul_add, Nat.add_mul]; omega
    have h7 : e * ((V / C + 1) * C) ≤ W / C * C := by
      rw [← Nat.mul_assoc]; exact Nat.mul_le_mul_right _ (Nat.le_trans h6 h)
    exact Nat.le_trans h5 (Nat.le_trans h7 (Nat.div_mul_le_self _ _))
  omega
theorem sub_step {U V W d i j c b t p : Nat} (h : W + d * (V % 2 ^ (32 * i)) * 2 ^ (32 * j) = U + (c + b) * 2 ^ (32 * (i + j))) (hp : p = d * dg32 V i + c) (ht : t = dg32 W (i + j) + 4294967296 - p % 4294967296 - b) (hb : b ≤ 1) :
    set32 W (i + j) (t % 4294967296) + d * (V % 2 ^ (32 * (i + 1))) * 2 ^ (32 * j) = U + (p / 4294967296 + (1 - t / 4294967296)) * 2 ^ (32 * (i + 1 + j)) := by
  have h1 := set32_val W (i + j) (t % 4294967296)
  have hw := dg32_lt W (i + j)
  have hk : t % 4294967296 + d * dg32 V i + c + b = dg32 W (i + j) + 4294967296 * (p / 4294967296) + 4294967296 * (1 - t / 4294967296) := by
    rw [Nat.add_assoc (t % 4294967296), Nat.add_assoc (t % 4294967296), ← hp] at *
    omega
  have h2 := congrArg (· * 2 ^ (32 * (i + j))) hk
  simp only [Nat.add_mul] at h2
  have e1 : 2 ^ (32 * (i + 1 + j)) = 4294967296 * 2 ^ (32 * (i + j)) := by rw [show i + 1 + j = i + j + 1 by omega, pv_succ]
  have e2 : d * (dg32 V i * 2 ^ (32 * i)) * 2 ^ (32 * j) = d * dg32 V i * 2 ^ (32 * (i + j)) := by
    rw [Nat.mul_add, Nat.pow_add]; simp only [Nat.mul_assoc]
  rw [mod32_succ, Nat.mul_add, Nat.add_mul, e1, e2, ← Nat.mul_assoc, Nat.mul_comm _ 4294967296]
  rw [Nat.add_mul] at h
  have e3 : 4294967296 * (p / 4294967296 + (1 - t / 4294967296)) * 2 ^ (32 * (i + j)) = (4294967296 * (p / 4294967296) + 4294967296 * (1 - t / 4294967296)) * 2 ^ (32 * (i + j)) := by rw [Nat.mul_add]
  rw [e3, Nat.add_mul]
  generalize d * dg32 V i * 2 ^ (32 * (i + j)) = t1 at *
  generalize d * (V % 2 ^ (32 * i)) * 2 ^ (32 * j) = t2 at *
  generalize c * 2 ^ (32 * (i + j)) = t3 at *
  generalize b * 2 ^ (32 * (i + j)) = t4 at *
  generalize dg32 W (i + j) * 2 ^ (32 * (i + j)) = t5 at *
  generalize t % 4294967296 * 2 ^ (32 * (i + j)) = t6 at *
  generalize 4294967296 * (p / 4294967296) * 2 ^ (32 * (i + j)) = t7 at *
  generalize 4294967296 * (1 - t / 4294967296) * 2 ^ (32 * (i + j)) = t8 at *
  omega
theorem sub_fit {U V W d k j c b t : Nat} (hV : V < 2 ^ (32 * k)) (hV0 : 0 < V) (h : W + d * (V % 2 ^ (32 * k)) * 2 ^ (32 * j) = U + (c + b) * 2 ^ (32 * (k + j))) (ht : t = dg32 W (j + k) + 4294967296 - c - b) (hb : b ≤ 1) (hc : c < 4294967296) (h1 : t / 4294967296 = 1) (hq : U / 2 ^ (32 * j) / V ≤ d) :
    d = U / 2 ^ (32 * j) / V ∧ set32 W (j + k) (t % 4294967296) = U - U / 2 ^ (32 * j) / V * V * 2 ^ (32 * j) := by
  have hs := set32_val W (j + k) (t % 4294967296)
  have hw := dg32_lt W (j + k)
  rw [Nat.mod_eq_of_lt hV, show k + j = j + k from Nat.add_comm _ _] at h
  have hk : t % 4294967296 + (c + b) = dg32 W (j + k) := by omega
  have h2 := congrArg (· * 2 ^ (32 * (j + k))) hk
  simp only [Nat.add_mul] at h2
  rw [Nat.add_mul] at h
  have h3 : set32 W (j + k) (t % 4294967296) + d * V * 2 ^ (32 * j) = U := by
    generalize d * V * 2 ^ (32 * j) = t1 at *
    generalize t % 4294967296 * 2 ^ (32 * (j + k)) = t2 at *
    generalize c * 2 ^ (32 * (j + k)) = t3 at *
    generalize b * 2 ^ (32 * (j + k)) = t4 at *
    generalize dg32 W (j + k) * 2 ^ (32 * (j + k)) = t5 at *
    omega
  have h4 : d ≤ U / 2 ^ (32 * j) / V := by
    rw [Nat.le_div_iff_mul_le hV0, Nat.le_div_iff_mul_le (pv_pos j)]
    omega
  have e : d = U / 2 ^ (32 * j) / V := Nat.le_antisymm h4 hq
  refine ⟨e, ?_⟩
  rw [← e]; omega
theorem sub_much {U V W d k j c b t : Nat} (hV : V < 2 ^ (32 * k)) (hV0 : 0 < V) (hW : W < 2 ^ (32 * (j + k + 1))) (h : W + d * (V % 2 ^ (32 * k)) * 2 ^ (32 * j) = U + (c + b) * 2 ^ (32 * (k + j))) (ht : t = dg32 W (j + k) + 4294967296 - c - b) (hb : b ≤ 1) (hc : c < 4294967296) (h1 : ¬ t / 4294967296 = 1) (hq : d ≤ U / 2 ^ (32 * j) / V + 1) :
    d = U / 2 ^ (32 * j) / V + 1 ∧ set32 W (j + k) (t % 4294967296) + d * V * 2 ^ (32 * j) = U + 4294967296 * 2 ^ (32 * (j + k)) := by
  have hs := set32_val W (j + k) (t % 4294967296)
  have hw := dg32_lt W (j + k)
  rw [Nat.mod_eq_of_lt hV, show k + j = j + k from Nat.add_comm _ _] at h
  have hk : t % 4294967296 + (c + b) = dg32 W (j + k) + 4294967296 := by omega
  have h2 := congrArg (· * 2 ^ (32 * (j + k))) hk
  simp only [Nat.add_mul] at h2
  rw [Nat.add_mul] at h
  have h3 : set32 W (j + k) (t % 4294967296) + d * V * 2 ^ (32 * j) = U + 4294967296 * 2 ^ (32 * (j + k)) := by
    generalize d * V * 2 ^ (32 * j) = t1 at *
    generalize t % 4294967296 * 2 ^ (32 * (j + k)) = t2 at *
    generalize c * 2 ^ (32 * (j + k)) = t3 at *
    generalize b * 2 ^ (32 * (j + k)) = t4 at *
    generalize dg32 W (j + k) * 2 ^ (32 * (j + k)) = t5 at *
    omega
  refine ⟨?_, h3⟩
  have h4 : set32 W (j + k) (t % 4294967296) < 2 ^ (32 * (j + k + 1)) := set32_lt hW (Nat.mod_lt _ (by decide)) (by omega)
  rw [pv_succ] at h4
  have h5 : ¬ d ≤ U / 2 ^ (32 * j) / V := fun hc => by
    rw [Nat.le_div_iff_mul_le hV0, Nat.le_div_iff_mul_le (pv_pos j)] at hc
    omega
  omega
theorem back_step {U V W i j c s : Nat} (h : W + c * 2 ^ (32 * (i + j)) = U + V % 2 ^ (32 * i) * 2 ^ (32 * j)) (hs : s = dg32 W (i + j) + dg32 V i + c) :
    set32 W (i + j) (s % 4294967296) + s / 4294967296 * 2 ^ (32 * (i + 1 + j)) = U + V % 2 ^ (32 * (i + 1)) * 2 ^ (32 * j) := by
  have h1 := set32_val W (i + j) (s % 4294967296)
  have hk : s % 4294967296 + 4294967296 * (s / 4294967296) = dg32 W (i + j) + dg32 V i + c := by omega
  have h2 := congrArg (· * 2 ^ (32 * (i + j))) hk
  simp only [Nat.add_mul] at h2
  have e1 : 2 ^ (32 * (i + 1 + j)) = 4294967296 * 2 ^ (32 * (i + j)) := by rw [show i + 1 + j = i + j + 1 by omega, pv_succ]
  have e2 : dg32 V i * 2 ^ (32 * i) * 2 ^ (32 * j) = dg32 V i * 2 ^ (32 * (i + j)) := by
    rw [Nat.mul_add, Nat.pow_add, Nat.mul_assoc]
  rw [mod32_succ, Nat.add_mul, e1, e2, ← Nat.mul_assoc, Nat.mul_comm _ 4294967296]
  generalize dg32 V i * 2 ^ (32 * (i + j)) = t1 at *
  generalize V % 2 ^ (32 * i) * 2 ^ (32 * j) = t2 at *
  generalize c * 2 ^ (32 * (i + j)) = t3 at *
  generalize dg32 W (i + j) * 2 ^ (32 * (i + j)) = t5 at *
  generalize s % 4294967296 * 2 ^ (32 * (i + j)) = t6 at *
  generalize 4294967296 * (s / 4294967296) * 2 ^ (32 * (i + j)) = t7 at *
  omega
theorem back_end {U V W X q k j c : Nat} (hV : V < 2 ^ (32 * k)) (hV0 : 0 < V) (hW : W < 2 ^ (32 * (j + k + 1))) (hX : X + (q + 1) * V * 2 ^ (32 * j) = U + 4294967296 * 2 ^ (32 * (j + k))) (h : W + c * 2 ^ (32 * (k + j)) = X + V % 2 ^ (32 * k) * 2 ^ (32 * j)) (hc : c ≤ 1) (hq : q = U / 2 ^ (32 * j) / V) :
    set32 W (j + k) ((dg32 W (j + k) + c) % 4294967296) = U - q * V * 2 ^ (32 * j) := by
  rw [Nat.mod_eq_of_lt hV, show k + j = j + k from Nat.add_comm _ _] at h
  rw [Nat.add_mul, Nat.one_mul, Nat.add_mul] at hX
  rw [pv_succ] at hW
  have hqV : q * V * 2 ^ (32 * j) ≤ U := by
    rw [hq]
    exact Nat.le_trans (Nat.mul_le_mul_right _ (Nat.div_mul_le_self _ _)) (Nat.div_mul_le_self _ _)
  have hR : U - q * V * 2 ^ (32 * j) < 2 ^ (32 * (j + k)) := by
    have h1 : U < (q * V + V) * 2 ^ (32 * j) := by
      have a1 : U / 2 ^ (32 * j) < q * V + V := by rw [hq]; exact Nat.lt_div_mul_add hV0
      exact (Nat.div_lt_iff_lt_mul (pv_pos j)).1 a1
    have h2 : V * 2 ^ (32 * j) ≤ 2 ^ (32 * (j + k)) := by
      rw [Nat.mul_add, Nat.pow_add, Nat.mul_comm (2 ^ (32 * j))]
      exact Nat.mul_le_mul_right _ (Nat.le_of_lt hV)
    rw [Nat.add_mul] at h1
    generalize q * V * 2 ^ (32 * j) = t1 at *
    omega
  have hp := pv_pos (j + k)
  have hs := set32_val W (j + k) ((dg32 W (j + k) + c) % 4294967296)
  have hc01 : c = 0 ∨ c = 1 := by omega
  have hdg : dg32 W (j + k) + c = 4294967296 := by
    have e : W + c * 2 ^ (32 * (j + k)) = (U - q * V * 2 ^ (32 * j)) + 4294967296 * 2 ^ (32 * (j + k)) := by
      generalize q * V * 2 ^ (32 * j) = t1 at *
      generalize V * 2 ^ (32 * j) = t2 at *
      omega
    generalize U - q * V * 2 ^ (32 * j) = R at *
    rcases hc01 with rfl | rfl
    · omega
    · have e2 : W = R + 4294967295 * 2 ^ (32 * (j + k)) := by omega
      rw [e2, dg32, Nat.add_mul_div_right _ _ hp, Nat.div_eq_of_lt hR]
  rw [hdg, Nat.mod_self, Nat.zero_mul, Nat.add_zero] at hs
  rw [hdg, Nat.mod_self]
  have e4 : dg32 W (j + k) * 2 ^ (32 * (j + k)) + c * 2 ^ (32 * (j + k)) = 4294967296 * 2 ^ (32 * (j + k)) := by rw [← Nat.add_mul, hdg]
  generalize q * V * 2 ^ (32 * j) = t1 at *
  generalize V * 2 ^ (32 * j) = t2 at *
  generalize dg32 W (j + k) * 2 ^ (32 * (j + k)) = t3 at *
  generalize c * 2 ^ (32 * (j + k)) = t4 at *
  omega
end Go.Proofs.Ytddfimfgcfgpbaa
namespace Go.Proofs.Ytddfimfgcfgpbaa
open Sx
open Go.RowKit (Below)
set_option exponentiation.threshold 2000
theorem wu32_wrap (a b : Nat) : Value.int .u32 (IntKind.u32.wrap ((a : Int) + (b : Int))) = Value.int .u32 (((a + b) % 4294967296 : Nat) : Int) := by congr 1
theorem pl_obj (γ : Nat → Nat) (l : List Value) (T : TypeId) : Ct.obj γ (.pl l, T) = .cells l.toArray T (0, 0) := by
  simp [Ct.obj, Cn.cs, Sc.den, Function.comp_def]
theorem pl_at' {γ : Nat → Nat} {l : List Value} {T n : Nat} {w : World} (h : Ct.at γ (.pl l, T) n w) : w.heap[n]? = some (.cells l.toArray T (0, 0)) := by
  rw [← pl_obj γ]; exact h
theorem apart_pn {k1 k2 gu kv n x T : Nat} {l : List Value} (h : ¬ Nb kv gu) : Ent.Apart [(k1, gu, (.pl l, T)), (k2, kv, (.abs (rawA n x), 0))] :=
  ⟨fun d hd => by
    rw [List.mem_singleton.1 hd]
    exact ⟨fun _ g h1 h2 => h (by have e : g = gu := h1; rw [← e]; exact h2), fun hm => by cases hm⟩, ⟨(fun _ h => by cases h), trivial⟩⟩
theorem only_pn {k1 k2 gu kv n x T : Nat} {l : List Value} {w0 w : World} (h : Keep (Ent.B [(k1, gu, (.pl l, T)), (k2, kv, (.abs (rawA n x), 0))]) w0 w) : Only gu w0 w :=
  ⟨h.os, h.tape, h.output, h.size, fun j hj hne => h.block j hj (fun ⟨e, he, hmu, hf⟩ => by
    rcases List.mem_cons.1 he with rfl | he
    · exact hne hf
    · rw [List.mem_singleton.1 he] at hmu; cases hmu)⟩
theorem sp_setup {U V j : Nat} (h2 : 2 ≤ nd V) (hn : 2 ^ (32 * nd V) ≤ 2 * V) (hU : U < V * 2 ^ (32 * (j + 1))) : ∃ C q, 0 < C ∧ q = U / 2 ^ (32 * j) / V ∧ V / C = dg32 V (nd V - 1) * 4294967296 + dg32 V (nd V - 2) ∧ 9223372036854775808 ≤ V / C ∧
    U / 2 ^ (32 * j) / C = (dg32 U (j + nd V) * 4294967296 + dg32 U (j + nd V - 1)) * 4294967296 + dg32 U (j + nd V - 2) ∧ q * (V / C) ≤ U / 2 ^ (32 * j) / C ∧ q < 4294967296 ∧ 2147483648 ≤ dg32 V (nd V - 1) ∧ U < 2 ^ (32 * (j + nd V + 1)) ∧
    dg32 U (j + nd V) * 4294967296 + dg32 U (j + nd V - 1) ≤ dg32 V (nd V - 1) * 4294967296 + dg32 V (nd V - 2) ∧ 0 < V := by
  obtain ⟨m, hm⟩ : ∃ m, nd V = m + 2 := ⟨nd V - 2, by omega⟩
  have hVlt := nd_lt V
  rw [hm] at hVlt hn ⊢
  rw [show m + 2 - 2 = m by omega, show m + 2 - 1 = m + 1 by omega, show j + (m + 2) - 1 = j + m + 1 by omega, show j + (m + 2) - 2 = j + m by omega, show j + (m + 2) = j + m + 2 by omega]
  have hp := pv_pos m
  have hV0 : 0 < V := by have := pv_pos (m + 2); omega
  have hUlt : U < 2 ^ (32 * (j + m + 3)) := by
    refine Nat.lt_of_lt_of_le hU ?_
    rw [show 32 * (j + m + 3) = 32 * (m + 2) + 32 * (j + 1) by omega, Nat.pow_add]
    exact Nat.mul_le_mul_right _ (Nat.le_of_lt hVlt)
  have a1 : V / 2 ^ (32 * m) = dg32 V (m + 1) * 4294967296 + dg32 V m := by
    have e1 := hi32 V m
    have e2 := hi32 V (m + 1)
    rw [Nat.div_eq_of_lt (show V < 2 ^ (32 * (m + 1 + 1)) from hVlt), Nat.zero_mul, Nat.zero_add] at e2
    rw [e1, e2]
  have a2 : 9223372036854775808 ≤ V / 2 ^ (32 * m) := by
    rw [Nat.le_div_iff_mul_le hp]
    rw [show 32 * (m + 2) = 32 * m + 64 by omega, Nat.pow_add] at hn
    have e : (2 : Nat) ^ 64 = 18446744073709551616 := rfl
    rw [e] at hn
    generalize 2 ^ (32 * m) = z at *
    omega
  have a3 : U / 2 ^ (32 * j) / 2 ^ (32 * m) = (dg32 U (j + m + 2) * 4294967296 + dg32 U (j + m + 1)) * 4294967296 + dg32 U (j + m) := by
    rw [Nat.div_div_eq_div_mul, ← Nat.pow_add, show 32 * j + 32 * m = 32 * (j + m) by omega]
    exact sp_top hUlt
  have a4 : U / 2 ^ (32 * j) / V < 4294967296 := by
    rw [Nat.div_lt_iff_lt_mul hV0, Nat.div_lt_iff_lt_mul (pv_pos j)]
    rw [pv_succ] at hU
    rw [Nat.mul_comm 4294967296 V, Nat.mul_assoc]; exact hU
  have a5 := dg32_lt V m
  have a6 : U / 2 ^ (32 * j) / 2 ^ (32 * m) < (V / 2 ^ (32 * m) + 1) * 4294967296 := by
    rw [Nat.div_lt_iff_lt_mul hp, Nat.div_lt_iff_lt_mul (pv_pos j)]
    have e := Nat.lt_div_mul_add (a := V) hp
    rw [pv_succ] at hU
    have e2 : V * (4294967296 * 2 ^ (32 * j)) ≤ (V / 2 ^ (32 * m) + 1) * 2 ^ (32 * m) * (4294967296 * 2 ^ (32 * j)) := Nat.mul_le_mul_right _ (by rw [Nat.add_mul, Nat.one_mul]; exact Nat.le_of_lt e)
    refine Nat.lt_of_lt_of_le hU (Nat.le_trans e2 ?_)
    simp only [Nat.mul_assoc, Nat.mul_comm, Nat.mul_left_comm]
    exact Nat.le_refl _
  have a7 := dg32_lt U (j + m)
  refine ⟨2 ^ (32 * m), _, hp, rfl, a1, a2, a3, sp_le hp, a4, ?_, hUlt, ?_, hV0⟩
  · rw [a1] at a2; omega
  · rw [a3, a1] at a6; omega
end Go.Proofs.Ytddfimfgcfgpbaa
namespace Go.Proofs.Ytddfimfgcfgpbaa
open Sx
open Go.RowKit (Below)
section
variable {P : Program} {F : Fx} {B0 : Bs} {w0 : World} {ops : Array Oper} {o : Oper} {r : Row}
theorem Vn_copy {n z : Nat} (h : nd z ≤ n) : (Vn n 0).take 0 ++ Vn (nd z) z ++ (Vn n 0).drop (0 + (Vn (nd z) z).length) = Vn n z := by
  apply List.ext_getElem?
  intro j
  rw [List.take_zero, List.nil_append, Nat.zero_add, Vn_len]
  by_cases h1 : j < nd z
  · rw [List.getElem?_append_left (by rw [Vn_len]; exact h1), Vn_get h1, Vn_get (by omega)]
  · rw [List.getElem?_append_right (by rw [Vn_len]; omega), Vn_len, List.getElem?_drop]
    rw [show nd z + (j - nd z) = j by omega]
    by_cases h2 : j < n
    · rw [Vn_get h2, Vn_get h2, dg32_big (nd_lt z) (by omega), dg32, Nat.zero_div]
    · rw [List.getElem?_eq_none (by rw [Vn_len]; omega), List.getElem?_eq_none (by rw [Vn_len]; omega)]
theorem tcp {k kz n m z t1 t2 dT sT T : Nat} {c : Call} (hT : SlT P dT 1) (hop : o.op = .call c := by exact rfl) (hc : c.callee = .builtin .copy := by exact rfl) (ha : c.args = #[.tmp t1, .tmp t2] := by exact rfl) (hat : c.argTypes = #[dT, sT] := by exact rfl) (hd : o.dst = r.dst := by exact rfl) (hg : o.guard = none := by exact rfl) (hn : r.neu = [] := by exact rfl)
    (hkey : r.keys = [(kz, (.abs (numA z), 0)), (k, (.pl (Vn n 0), T))] := by exact rfl) (hp : r.puts = [(k, (.pl (Vn n z), T))] := by exact rfl) (hx : lk r.use t1 = some (.s (.sl k 0 n m)) := by exact rfl) (hy : lk r.use t2 = some (.s (.fn kz nfN)) := by exact rfl) (hv : r.v = .s (.v (.int .i64 (nd z : Int))) := by exact rfl)
    (hkk : kz ≠ k := by decide) (h0 : 0 < nd z := by omega) (hz : nd z ≤ n := by omega) : Trip P F B0 w0 ops o r := by
  refine ⟨hd, fun γ a w Q K hkeep hfix hu hks _hap hK => stepGoal_wp hg ?_⟩
  have hh : w.heap[γ k]? = some (.cells (Vn n 0).toArray T (0, 0)) := by
    have := Ct.pl_at (hks (k, (.pl (Vn n 0), T)) (by rw [hkey]; exact .tail _ (.head _)))
    rw [pl_obj] at this; exact this
  have hnum : Raw w (γ kz) (nd z) z := hks (kz, (.abs (numA z), 0)) (by rw [hkey]; exact .head _)
  obtain ⟨s, m', h1, h2, h3⟩ := hnum
  obtain ⟨g, vs, T', h4, h5, h6⟩ := h3 h0
  have hk : known r.use o.op = true := by rw [hop]; simp only [known, hc, ha]; simp [knownX, hasKey_of_lk hx, hasKey_of_lk hy]
  have e1 : envOf γ r.use (.tmp t1) = .slice (some ⟨γ k, 0, none⟩) n m := by simp only [envOf, hx, SV.den, Sc.den]
  have e2 : envOf γ r.use (.tmp t2) = .slice (some ⟨g, 0, none⟩) (nd z) m' := by simp only [envOf, hy, SV.den, Sc.den, nfN, h1, dec_enc, h4]; rfl
  have hrun : (execOp (envOf γ r.use) o).run P w = .ok (.value (.int .i64 (nd z : Int))) (w.setRow (γ k) (Vn n z).toArray) := by
    unfold SlT slOf at hT
    cases hu2 : P.underlying dT with
    | none => rw [hu2] at hT; cases hT
    | some d =>
      rw [hu2] at hT
      cases d with
      | slice e =>
        simp only at hT
        have hcp := run_copy_row (P := P) w dT sT o.type e (γ k) 0 n m ⟨g, 0, none⟩ (nd z) m' (Vn n 0).toArray T (Vn (nd z) z) hu2 hT hh (by rw [Vn_len]; exact (Nat.min_eq_left hz).symm) (fun j v hj => by
          rw [add_none, Nat.zero_add]
          have hj2 : j < nd z := by
            have := (List.getElem?_eq_some_iff.1 hj).1
            rwa [Vn_len] at this
          rw [Vn_get hj2] at hj
          simp only [Option.some.injEq] at hj
          subst hj
          simp only [World.cell?, h5]
          exact h6 j hj2) (by rw [Vn_len]; simp [Vn_len]; exact hz) (fun v hv => by
            obtain ⟨j, -, rfl⟩ := List.mem_map.1 hv
            rfl)
        have h7 : (Vn n 0).toArray.toList = Vn n 0 := by simp
        rw [h7, Vn_copy hz, Vn_len] at hcp
        obtain ⟨cs, h8⟩ : ∃ cs, resolve (envOf γ r.use) c o.type = pure { target := .builtin .copy c.argTypes o.type cs, args := #[.slice (some ⟨γ k, 0, none⟩) n m, .slice (some ⟨g, 0, none⟩) (nd z) m'] } := by
          unfold resolve
          simp only [hc, ha, List.map_toArray, List.map_cons, List.map_nil, e1, e2]
          exact ⟨_, rfl⟩
        simp only [execOp, hop]
        rw [h8]
        simp only [pure_bind, invoke, builtin, hat]
        rw [Sem.run_bind, hcp]
        rfl
      | _ => cases hT
  unfold Oper.wp
  rw [Sx.execOp_congr (fun x hx => use_get hu hx) hk, hrun]
  have h9 := Eff.fill (r := r) (γ := γ) (w := w) k (.pl (Vn n 0), T) (.pl (Vn n z), T) hn hp rfl rfl rfl (by rw [hkey]; exact .tail _ (.head _)) hks (fun p hpk e => by
    rw [hkey] at hpk
    rcases List.mem_cons.1 hpk with h | h
    · rw [h] at e; exact absurd e hkk
    · rw [List.mem_singleton.1 h])
  have h10 := hK γ _ h9
  have h11 : ((.pl (Vn n z) : Cn).cs.map (Sc.den γ)) = Vn n z := by simp [Cn.cs, Sc.den, Function.comp_def]
  rw [h11, hv] at h10
  show K (a.put o.dst _) _
  rw [hd]
  exact h10
end
end Go.Proofs.Ytddfimfgcfgpbaa
namespace Go.Proofs.Ytddfimfgcfgpbaa
open Sx
open Go.RowKit (Below)
section
variable {P : Program} {F : Fx} {B0 : Bs} {w0 : World} {ops : Array Oper} {o : Oper} {r : Row}
theorem run_app_call {c : Call} {t ty : Nat} {x y : Operand} {ρ : Operand → Value} {v : Value} {w w' : World} (hc : c.callee = .builtin .append) (ha : c.args = #[x, y]) (hat : c.argTypes = #[t, t]) (h : (Builtin.append_ #[t, t] ty #[ρ x, ρ y]).run P w = .ok v w') :
    (do let d ← resolve ρ c ty; invoke d.target d.args : Sem Next).run P w = .ok (.value v) w' := by
  obtain ⟨cs, h1⟩ : ∃ cs, resolve ρ c ty = pure { target := .builtin .append c.argTypes ty cs, args := #[ρ x, ρ y] } := by
    unfold resolve
    simp only [hc, ha, List.map_toArray, List.map_cons, List.map_nil]
    exact ⟨_, rfl⟩
  rw [h1]
  simp only [pure_bind, invoke, builtin, hat]
  rw [Sem.run_bind, h]
  rfl
theorem tcl {k kz d t1 t2 t e bytes x : Nat} {z : Value} {T : TypeId} {c : Call} (hT : ElT P t e z 1 bytes) (hop : o.op = .call c := by exact rfl) (hc : c.callee = .builtin .append := by exact rfl) (ha : c.args = #[.tmp t1, .tmp t2] := by exact rfl) (hat : c.argTypes = #[t, t] := by exact rfl) (hd : o.dst = r.dst := by exact rfl) (hg : o.guard = none := by exact rfl)
    (hkey : r.keys = [(kz, (.abs (numA x), 0)), (k, (.sc [], T))] := by exact rfl) (hp : r.puts = [] := by exact rfl) (hn : r.neu = [(d, (.abs (numA x), 0))] := by exact rfl) (hv : r.v = .s (.fn d nfN) := by exact rfl)
    (hx : lk r.use t1 = some (.s (.sl k 0 0 0)) := by exact rfl) (hy : lk r.use t2 = some (.s (.fn kz nfN)) := by exact rfl) (h63 : nd x ≤ 1000000 := by omega) (hb : bytes ≤ 1000 := by decide) : Trip P F B0 w0 ops o r := by
  refine ⟨hd, fun γ a w Q K hkeep hfix hu hks _hap hK => stepGoal_wp hg ?_⟩
  have hk : known r.use o.op = true := by rw [hop]; simp only [known, hc, ha]; simp [knownX, hasKey_of_lk hx, hasKey_of_lk hy]
  have hnum : Raw w (γ kz) (nd x) x := hks (kz, (.abs (numA x), 0)) (by rw [hkey]; exact .head _)
  obtain ⟨s, m', h1, h2, h3⟩ := hnum
  have e1 : envOf γ r.use (.tmp t1) = .slice (some ⟨γ k, 0, none⟩) 0 0 := by simp only [envOf, hx, SV.den, Sc.den]
  have e2 : envOf γ r.use (.tmp t2) = slv s (nd x) m' := by simp only [envOf, hy, SV.den, Sc.den, nfN, h1, dec_enc]
  have hby : nd x * bytes ≤ 1000000 * 1000 := Nat.mul_le_mul h63 hb
  obtain ⟨ht, hi2⟩ := hT
  cases hi : P.info? e with
  | none => rw [hi] at hi2; cases hi2
  | some i =>
    rw [hi] at hi2
    simp only [Option.map_some, Option.some.injEq, Prod.mk.injEq] at hi2
    obtain ⟨hz, hsize, hbytes⟩ := hi2
    have key : ∃ k' w', (Builtin.append_ #[t, t] o.type #[.slice (some ⟨γ k, 0, none⟩) 0 0, slv s (nd x) m']).run P w = .ok (dec k') w' ∧ Num w' k' x ∧ (∀ g, Nb k' g → w.heap.size ≤ g) ∧ Below w.heap.size w w' := by
      by_cases h0 : nd x = 0
      · refine ⟨enc (some (γ k)) 0 0, w, ?_, ⟨some (γ k), 0, by rw [h0], by omega, fun h => by omega⟩, fun g ⟨n', m', h, hn'⟩ => by have := (enc_inj h).2.1; omega, Below.refl _ _⟩
        rw [dec_enc]
        cases s with
        | none => simp [Builtin.append_, run_underlying ht, sizeOf, typeInfo, hi, Builtin.lenOf, Builtin.firstCells, slv, h0, storeCells]
        | some g => simp [Builtin.append_, run_underlying ht, sizeOf, typeInfo, hi, Builtin.lenOf, Builtin.firstCells, loadCells, loadCellsFrom, slv, h0, storeCells]
      · obtain ⟨g, vs, T', h4, h5, h6⟩ := h3 (by omega)
        subst h4
        have hr := run_append_grow (P := P) w t o.type e i z ht hi hz ⟨γ k, 0, none⟩ 0 0 [] (by simp) (fun j u hj => by simp at hj) ⟨g, 0, none⟩ (nd x) m' (Vn (nd x) x) (by rw [hsize, Vn_len, Nat.mul_one]) (fun j u hj => by
          rw [add_none, Nat.zero_add]
          have hj2 : j < nd x := by
            have := (List.getElem?_eq_some_iff.1 hj).1
            rwa [Vn_len] at this
          rw [Vn_get hj2] at hj
          simp only [Option.some.injEq] at hj
          subst hj
          simp only [World.cell?, h5]
          exact h6 j hj2) (by omega) (by omega) (growslice_fits (by omega) (by rw [hbytes, Nat.zero_add]; omega))
        have hge := grownCap_ge w (0 + nd x) 0 e
        refine ⟨enc (some w.heap.size) (0 + nd x) (grownCap w (0 + nd x) 0 e), _, by rw [dec_enc]; exact hr, ⟨some w.heap.size, _, by rw [Nat.zero_add], by rw [Nat.zero_add] at hge; simpa using hge, fun _ => ⟨w.heap.size, _, e, rfl, heap_alloc_new w.drew _, fun j hj => ?_⟩⟩, fun g' hg' => by rw [Nb_enc hg']; exact Nat.le_refl _, ⟨rfl, rfl, rfl, by simp, fun j hj => heap_alloc_old w.drew _ hj⟩⟩
        have h7 := Vn_get (n := nd x) (x := x) hj
        have h8 : j < (Vn (nd x) x).toArray.size := by simp [Vn_len]; exact hj
        rw [Array.empty_append, Array.getElem?_append_left h8]
        simpa using h7
    obtain ⟨k', w', hr, hok, hft, hbl⟩ := key
    have hrun : (execOp (envOf γ r.use) o).run P w = .ok (.value (dec k')) w' := by
      simp only [execOp, hop]
      exact run_app_call hc ha hat (by rw [e1, e2]; exact hr)
    unfold Oper.wp
    rw [Sx.execOp_congr (fun x hx => use_get hu hx) hk, hrun]
    have hlk : ∀ j c', lk r.neu j = some c' → j = d ∧ c' = (.abs (numA x), 0) := fun j c' h => by
      rw [hn] at h
      simp only [lk] at h
      cases hb : Nat.beq d j with
      | true => rw [hb] at h; simp at h; exact ⟨(Nat.eq_of_beq_eq_true hb).symm, h.symm⟩
      | false => rw [hb] at h; simp at h
    have h2 := hK (nm γ d k') w' ⟨hbl.os, hbl.tape, hbl.output, hbl.size, fun j hj => ?_, fun j c' hj => ?_, fun j j' c1 c2 hj hj' _ hne => ?_, fun j c' hj => ?_, fun j hj _ => hbl.block j hj⟩
    · rw [hv] at h2
      simp only [SV.den, Sc.den, nm_self, nfN] at h2
      show K (a.put o.dst _) _
      rw [hd]
      exact h2
    · refine nm_ne (fun e => ?_)
      subst e
      rw [hn] at hj
      simp [lk] at hj
    · obtain ⟨rfl, rfl⟩ := hlk j c' hj
      rw [nm_self]
      exact ⟨hok, fun g hg => .inl (hft g hg)⟩
    · exact absurd ((hlk j c1 hj).1.trans (hlk j' c2 hj').1.symm) hne
    · rw [hp] at hj; cases hj
end
end Go.Proofs.Ytddfimfgcfgpbaa
