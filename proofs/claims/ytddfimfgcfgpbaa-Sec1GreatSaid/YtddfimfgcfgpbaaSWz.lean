/-
  Digits of 32 bits.
  Slices of any length: made, read and written.
  Numbers of the references: read digit by digit, handed on, handed out.
  Numbers of the references, handed on and handed out by calls.
  Bytes: slices of them, texts made of them, parts of texts.
-/
import Derived.Test.YtddfimfgcfgpbaaSWp
import Derived.Laws.MakeOwn
import Derived.Laws.IdiomStrings
namespace Go.Proofs.Ytddfimfgcfgpbaa
open Sx
set_option exponentiation.threshold 2000
theorem dg32_lt (x i : Nat) : dg32 x i < 4294967296 := Nat.mod_lt _ (by decide)
theorem pv_pos (i : Nat) : 0 < 2 ^ (32 * i) := Nat.pow_pos (by decide)
theorem pv_succ (i : Nat) : 2 ^ (32 * (i + 1)) = 4294967296 * 2 ^ (32 * i) := by
  rw [Nat.mul_succ, Nat.pow_add, Nat.mul_comm]
theorem lo32 (x i : Nat) : x % 2 ^ (32 * (i + 1)) = dg32 x i * 2 ^ (32 * i) + x % 2 ^ (32 * i) := by
  rw [Nat.mul_succ, Nat.pow_add, Nat.mod_mul, dg32, Nat.add_comm, Nat.mul_comm]
theorem hi32 (x i : Nat) : x / 2 ^ (32 * i) = x / 2 ^ (32 * (i + 1)) * 4294967296 + dg32 x i := by
  have h : 2 ^ (32 * (i + 1)) = 2 ^ (32 * i) * 2 ^ 32 := by rw [Nat.mul_succ, Nat.pow_add]
  rw [h, ← Nat.div_div_eq_div_mul, dg32]
  have := Nat.div_add_mod (x / 2 ^ (32 * i)) (2 ^ 32)
  omega
def set32 (y i d : Nat) : Nat := y / 2 ^ (32 * (i + 1)) * 2 ^ (32 * (i + 1)) + d * 2 ^ (32 * i) + y % 2 ^ (32 * i)
def mix32 (s x i : Nat) : Nat := x / 2 ^ (32 * i) * 2 ^ (32 * i) + s % 2 ^ (32 * i)
theorem pv_le {i j : Nat} (h : i ≤ j) : ∃ c, 2 ^ (32 * j) = 2 ^ (32 * i) * c ∧ (i < j → ∃ e, c = 4294967296 * e) := by
  obtain ⟨k, rfl⟩ := Nat.exists_eq_add_of_le h
  refine ⟨2 ^ (32 * k), by rw [Nat.mul_add, Nat.pow_add], fun hlt => ?_⟩
  obtain ⟨l, rfl⟩ : ∃ l, k = l + 1 := ⟨k - 1, by omega⟩
  exact ⟨_, pv_succ l⟩
theorem dg32_mix (s x i j : Nat) : dg32 (mix32 s x i) j = if j < i then dg32 s j else dg32 x j := by
  unfold dg32 mix32
  split
  · next h =>
    obtain ⟨c, hc, he⟩ := pv_le (Nat.le_of_lt h)
    obtain ⟨e, rfl⟩ := he h
    have key : ∀ q M N c : Nat, M = N * c → q * M = N * (q * c) := fun q M N c h => by rw [h, Nat.mul_left_comm]
    have this : x / 2 ^ (32 * i) * 2 ^ (32 * i) + s % 2 ^ (32 * i) = 2 ^ (32 * j) * (x / 2 ^ (32 * i) * (4294967296 * e)) + s % 2 ^ (32 * i) := congrArg (· + s % 2 ^ (32 * i)) (key (x / 2 ^ (32 * i)) _ _ _ hc)
    rw [this, Nat.mul_add_div (pv_pos j)]
    have h2 : s % 2 ^ (32 * i) / 2 ^ (32 * j) = s / 2 ^ (32 * j) % (4294967296 * e) := by
      rw [hc, Nat.mod_mul_right_div_self]
    rw [h2, show x / 2 ^ (32 * i) * (4294967296 * e) = 2 ^ 32 * (x / 2 ^ (32 * i) * e) by rw [Nat.mul_left_comm], Nat.mul_add_mod]
    exact Nat.mod_mul_right_mod _ _ _
  · next h =>
    obtain ⟨k, rfl⟩ := Nat.exists_eq_add_of_le (Nat.le_of_not_lt h)
    congr 1
    rw [Nat.mul_add, Nat.pow_add, ← Nat.div_div_eq_div_mul, ← Nat.div_div_eq_div_mul]
    congr 1
    rw [Nat.mul_comm, Nat.mul_add_div (pv_pos i), Nat.div_eq_of_lt (Nat.mod_lt _ (pv_pos i)), Nat.add_zero]
theorem set32_eq (y i d : Nat) (hd : d < 4294967296) : set32 y i d = mix32 (mix32 y (d * 2 ^ (32 * i)) i) y (i + 1) := by
  unfold set32 mix32
  rw [Nat.add_assoc]
  congr 1
  rw [Nat.mul_div_cancel _ (pv_pos i), Nat.mod_eq_of_lt (a := d * 2 ^ (32 * i) + y % 2 ^ (32 * i))]
  rw [pv_succ]
  have h1 := Nat.mod_lt y (pv_pos i)
  have h2 : d * 2 ^ (32 * i) + 2 ^ (32 * i) ≤ 4294967296 * 2 ^ (32 * i) := by
    rw [← Nat.succ_mul]; exact Nat.mul_le_mul_right _ hd
  generalize d * 2 ^ (32 * i) = e at *
  generalize 4294967296 * 2 ^ (32 * i) = f at *
  generalize 2 ^ (32 * i) = g at *
  omega
theorem dg32_set (y i d j : Nat) (hd : d < 4294967296) : dg32 (set32 y i d) j = if j = i then d else dg32 y j := by
  rw [set32_eq y i d hd, dg32_mix, dg32_mix]
  by_cases h1 : j = i
  · subst h1
    simp [dg32, Nat.mul_div_cancel _ (pv_pos j), Nat.mod_eq_of_lt hd]
  · by_cases h2 : j < i
    · simp [h1, h2, Nat.lt_succ_of_lt h2]
    · have : ¬ j < i + 1 := by omega
      simp [h1, this]
def cy32 (a b i : Nat) : Nat := (a % 2 ^ (32 * i) + b % 2 ^ (32 * i)) / 2 ^ (32 * i)
def bw32 (a b i : Nat) : Nat := if a % 2 ^ (32 * i) < b % 2 ^ (32 * i) then 1 else 0
theorem cy32_le (a b i : Nat) : cy32 a b i ≤ 1 := by
  unfold cy32
  have h1 := Nat.mod_lt a (pv_pos i)
  have h2 := Nat.mod_lt b (pv_pos i)
  have : (a % 2 ^ (32 * i) + b % 2 ^ (32 * i)) / 2 ^ (32 * i) < 2 := by rw [Nat.div_lt_iff_lt_mul (pv_pos i)]; omega
  omega
theorem bw32_le (a b i : Nat) : bw32 a b i ≤ 1 := by unfold bw32; split <;> omega
theorem cy32_zero (a b : Nat) : cy32 a b 0 = 0 := by simp [cy32, Nat.mod_one]
theorem bw32_zero (a b : Nat) : bw32 a b 0 = 0 := by simp [bw32, Nat.mod_one]
theorem add32 (a b i : Nat) : dg32 (a + b) i = (dg32 a i + dg32 b i + cy32 a b i) % 4294967296 ∧ cy32 a b (i + 1) = (dg32 a i + dg32 b i + cy32 a b i) / 4294967296 := by
  have hX : a % 2 ^ (32 * (i + 1)) + b % 2 ^ (32 * (i + 1)) = 2 ^ (32 * i) * (dg32 a i + dg32 b i + cy32 a b i) + (a % 2 ^ (32 * i) + b % 2 ^ (32 * i)) % 2 ^ (32 * i) := by
    have h := Nat.div_add_mod (a % 2 ^ (32 * i) + b % 2 ^ (32 * i)) (2 ^ (32 * i))
    rw [lo32 a, lo32 b, Nat.mul_add, Nat.mul_add, cy32, Nat.mul_comm (dg32 a i), Nat.mul_comm (dg32 b i)]
    omega
  have hr : (a % 2 ^ (32 * i) + b % 2 ^ (32 * i)) % 2 ^ (32 * i) < 2 ^ (32 * i) := Nat.mod_lt _ (pv_pos i)
  have hq : (a % 2 ^ (32 * (i + 1)) + b % 2 ^ (32 * (i + 1))) / 2 ^ (32 * i) = dg32 a i + dg32 b i + cy32 a b i := by
    rw [hX, Nat.mul_add_div (pv_pos i), Nat.div_eq_of_lt hr, Nat.add_zero]
  constructor
  · have h : 2 ^ (32 * (i + 1)) = 2 ^ (32 * i) * 2 ^ 32 := by rw [Nat.mul_succ, Nat.pow_add]
    have e1 : ∀ x, x % 2 ^ (32 * (i + 1)) / 2 ^ (32 * i) = x / 2 ^ (32 * i) % 2 ^ 32 := fun x => by rw [h]; exact Nat.mod_mul_right_div_self _ _ _
    have e2 : dg32 (a + b) i = (a + b) % 2 ^ (32 * (i + 1)) / 2 ^ (32 * i) := (e1 (a + b)).symm
    rw [e2, Nat.add_mod, e1, hq]
  · rw [← hq, Nat.div_div_eq_div_mul]
    unfold cy32
    rw [pv_succ i, Nat.mul_comm 4294967296 (2 ^ (32 * i))]
def nvk (x : Nat) : Nat → Nat
  | 0 => 0
  | n + 1 => if dg32 x n = 0 then nvk x n else n + 1
theorem nvk_le (x n : Nat) : nvk x n ≤ n := by
  induction n with
  | zero => exact Nat.le_refl _
  | succ n ih => unfold nvk; split <;> omega
theorem nvk_zero {x n : Nat} (h : dg32 x n = 0) : nvk x (n + 1) = nvk x n := by simp [nvk, h]
theorem nvk_pos {x n : Nat} (h : dg32 x n ≠ 0) : nvk x (n + 1) = n + 1 := by simp [nvk, h]
theorem nvk_top {x n : Nat} (h : 0 < nvk x n) : dg32 x (nvk x n - 1) ≠ 0 := by
  induction n with
  | zero => exact absurd h (Nat.lt_irrefl 0)
  | succ n ih =>
    by_cases h0 : dg32 x n = 0
    · rw [nvk_zero h0] at h ⊢; exact ih h
    · rw [nvk_pos h0]; simpa using h0
theorem nvk_lt {x n : Nat} (hx : x < 2 ^ (32 * n)) : x < 2 ^ (32 * nvk x n) := by
  induction n with
  | zero => exact hx
  | succ n ih =>
    by_cases h0 : dg32 x n = 0
    · rw [nvk_zero h0]
      refine ih ?_
      have := lo32 x n
      rw [Nat.mod_eq_of_lt hx, h0, Nat.zero_mul, Nat.zero_add] at this
      rw [this]; exact Nat.mod_lt _ (pv_pos n)
    · rw [nvk_pos h0]; exact hx
theorem dg32_big {a i n : Nat} (ha : a < 2 ^ (32 * n)) (h : n ≤ i) : dg32 a i = 0 := by
  unfold dg32
  rw [Nat.div_eq_of_lt (Nat.lt_of_lt_of_le ha (Nat.pow_le_pow_right (by decide) (Nat.mul_le_mul_left _ h)))]
theorem set32_val (y i d : Nat) : set32 y i d + dg32 y i * 2 ^ (32 * i) = y + d * 2 ^ (32 * i) := by
  unfold set32
  have h := Nat.div_add_mod y (2 ^ (32 * (i + 1)))
  have h2 := lo32 y i
  rw [Nat.mul_comm] at h
  generalize y / 2 ^ (32 * (i + 1)) * 2 ^ (32 * (i + 1)) = u at *
  generalize d * 2 ^ (32 * i) = v at *
  generalize dg32 y i * 2 ^ (32 * i) = z at *
  omega
theorem mod32_succ (b k : Nat) : b % 2 ^ (32 * (k + 1)) = dg32 b k * 2 ^ (32 * k) + b % 2 ^ (32 * k) := lo32 b k
theorem set32_lt {y i d n : Nat} (hy : y < 2 ^ (32 * n)) (hd : d < 4294967296) (h : i < n) : set32 y i d < 2 ^ (32 * n) := by
  have h1 := set32_val y i d
  obtain ⟨m, rfl⟩ : ∃ m, n = i + 1 + m := ⟨n - (i + 1), by omega⟩
  unfold set32
  have e : 2 ^ (32 * (i + 1 + m)) = 2 ^ (32 * m) * 2 ^ (32 * (i + 1)) := by rw [← Nat.pow_add]; congr 1; omega
  have h2 : y / 2 ^ (32 * (i + 1)) < 2 ^ (32 * m) := by rw [Nat.div_lt_iff_lt_mul (pv_pos _), ← e]; exact hy
  have h3 : (y / 2 ^ (32 * (i + 1)) + 1) * 2 ^ (32 * (i + 1)) ≤ 2 ^ (32 * m) * 2 ^ (32 * (i + 1)) := Nat.mul_le_mul_right _ h2
  rw [Nat.add_mul, Nat.one_mul] at h3
  have h4 : d * 2 ^ (32 * i) + 2 ^ (32 * i) ≤ 2 ^ (32 * (i + 1)) := by rw [pv_succ, ← Nat.succ_mul]; exact Nat.mul_le_mul_right _ hd
  have h5 := Nat.mod_lt y (pv_pos i)
  rw [e]
  omega
def Vn (n x : Nat) : List Value := (List.range n).map fun i => .int .u32 (dg32 x i : Int)
theorem Vn_len (n x : Nat) : (Vn n x).length = n := by simp [Vn]
theorem Vn_get {n x i : Nat} (h : i < n) : (Vn n x)[i]? = some (.int .u32 (dg32 x i : Int)) := by simp [Vn, h]
theorem Vn_congr {n x y : Nat} (h : ∀ j, j < n → dg32 x j = dg32 y j) : Vn n x = Vn n y := by
  unfold Vn
  exact List.map_congr_left (fun j hj => by rw [h j (List.mem_range.1 hj)])
theorem Vn_set {n y i d : Nat} (_h : i < n) (hd : d < 4294967296) : (Vn n y).set i (.int .u32 (d : Int)) = Vn n (set32 y i d) := by
  apply List.ext_getElem?
  intro j
  rw [List.getElem?_set]
  by_cases hj : j < n
  · rw [Vn_get hj, Vn_get hj, dg32_set _ _ _ _ hd]
    by_cases h1 : i = j
    · subst h1; simp [Vn_len, hj]
    · rw [if_neg h1, if_neg (fun e => h1 e.symm)]
  · rw [List.getElem?_eq_none (by rw [Vn_len]; omega)]
    by_cases h1 : i = j
    · subst h1; omega
    · rw [if_neg h1, List.getElem?_eq_none (by rw [Vn_len]; omega)]
theorem nd_nvk {x n : Nat} (h : x < 2 ^ (32 * n)) : nvk x n = nd x := by
  have h1 := nvk_lt h
  unfold nd
  by_cases h0 : x = 0
  · subst h0
    rw [if_pos rfl]
    have : ∀ n, nvk 0 n = 0 := fun n => by
      induction n with
      | zero => rfl
      | succ n ih => rw [nvk_zero (by simp [dg32]), ih]
    exact this n
  · rw [if_neg h0]
    have hp : 0 < nvk x n := by
      rcases Nat.eq_zero_or_pos (nvk x n) with e | e
      · rw [e] at h1; simp at h1; omega
      · exact e
    have h2 := nvk_top hp
    obtain ⟨k, hk⟩ : ∃ k, nvk x n = k + 1 := ⟨nvk x n - 1, by omega⟩
    rw [hk, Nat.add_sub_cancel] at h2
    rw [hk] at h1 ⊢
    have h3 : 2 ^ (32 * k) ≤ x := by
      refine Nat.le_of_not_lt fun h4 => h2 ?_
      unfold dg32
      rw [Nat.div_eq_of_lt h4]
    have h4 := (Nat.le_log2 h0).2 h3
    have h5 := (Nat.log2_lt h0).2 h1
    omega
theorem nd_lt (x : Nat) : x < 2 ^ (32 * nd x) := by
  by_cases h0 : x = 0
  · subst h0; decide
  · unfold nd
    rw [if_neg h0]
    refine (Nat.log2_lt h0).1 ?_
    omega
theorem nd_le {x n : Nat} (h : x < 2 ^ (32 * n)) : nd x ≤ n := by rw [← nd_nvk h]; exact nvk_le x n
theorem nd_pos {x : Nat} (h : 0 < x) : 0 < nd x := by unfold nd; rw [if_neg (by omega)]; omega
theorem nd_zero : nd 0 = 0 := rfl
end Go.Proofs.Ytddfimfgcfgpbaa
namespace Go.Proofs.Ytddfimfgcfgpbaa
open Sx
open Go.RowKit (Below)
section
variable {P : Program} {F : Fx} {B0 : Bs} {w0 : World} {ops : Array Oper} {o : Oper} {r : Row}
theorem trip_loadV (t k off ty : Nat) (l : List Value) (T : TypeId) (x : Value) (hop : o.op = .load ty (.tmp t)) (hd : o.dst = r.dst) (hg : o.guard = none) (hn : r.neu = []) (hp : r.puts = [])
    (hx : lk r.use t = some (.s (.ptr k off))) (hkey : (k, (.pl l, T)) ∈ r.keys) (hT : OneT P ty) (hpart : l[off]? = some x) (hv : r.v = .s (.v x)) : Trip P F B0 w0 ops o r :=
  trip_load1 t k off ty (.pl l, T) (.v x) hop hd hg hn hp hx hkey hT (by show (l.map Sc.v)[off]? = _; rw [List.getElem?_map, hpart]; rfl) hv
theorem trip_storeV (t k off ty : Nat) (y : Operand) (l l' : List Value) (T : TypeId) (x : Value) (hop : o.op = .store ty (.tmp t) y) (hd : o.dst = none) (hrd : r.dst = none) (hg : o.guard = none) (hn : r.neu = []) (hp : r.puts = [(k, (.pl l', T))])
    (hx : lk r.use t = some (.s (.ptr k off))) (hkx : knownX r.use y = true) (hval : ∀ γ, envOf γ r.use y = x) (h1 : x.cells = #[x]) (ho : x.oneCell' = true) (hkey : r.keys = [(k, (.pl l, T))]) (hs : (P.info? ty).map (·.size) = some 1)
    (hle : off < l.length) (hnew : l.set off x = l') : Trip P F B0 w0 ops o r :=
  trip_fill k (.pl l, T) (.pl l', T) (hd.trans hrd.symm) hrd hg (by rw [hop]; simp only [known, Bool.and_eq_true]; exact ⟨hasKey_of_lk hx, hkx⟩) hn hp rfl rfl rfl hkey (fun γ w hh => by
    have hcs : ∀ m : List Value, (Cn.cs (.pl m)).map (Sc.den γ) = m := fun m => by simp [Cn.cs, Sc.den, Function.comp_def]
    have hh' : w.heap[γ k]? = some (.cells l.toArray T (0, 0)) := by rw [hh, Ct.obj, hcs l]
    have hl := run_storeVar_part (P := P) (off := off) (ty := ty) (v := x) hh' (by rw [h1]; exact hs) (by rw [h1]; exact hle) (by rw [h1]; intro z hz; simp only [List.mem_singleton] at hz; rw [hz]; exact ho)
    rw [h1] at hl
    have e : l.take off ++ [x] ++ l.drop (off + 1) = l' := by rw [← hnew, List.set_eq_take_append_cons_drop, if_pos hle, List.append_assoc]; rfl
    simp only [List.length_singleton, e] at hl
    simp only [execOp, hop, hcs l']
    simp only [show envOf γ r.use (.tmp t) = .pointer (some ⟨γ k, off, none⟩) by simp [envOf, hx, SV.den, Sc.den], hval γ, Instr.storeAt, Instr.sureAddr, Sem.run_bind, Sem.run_pure, Result.andThen_ok, hl])
def mkOf (P : Program) (ty : Nat) : Option (Nat × Option Value × Nat × Nat) := match P.underlying ty with
  | some (.slice e) => (P.info? e).map fun i => (e, i.zero, i.size, i.bytes)
  | _ => none
def MakeT (P : Program) (ty e : Nat) (z : Value) (b : Nat) : Prop := mkOf P ty = some (e, some z, 1, b)
theorem run_makeN {ty e b n : Nat} {z : Value} (hT : MakeT P ty e z b) (hz : z.cells = #[z]) (hb : b ≤ 8) (hn : n ≤ 1000000) (w : World) :
    (Instr.makeSlice ty (.int .i64 (n : Int)) (.int .i64 (n : Int))).run P w = .ok (.slice (some ⟨w.heap.size, 0, none⟩) n n) (w.alloc (.cells (List.replicate n z).toArray e (0, 0))) := by
  unfold MakeT mkOf at hT
  cases hu : P.underlying ty with
  | none => rw [hu] at hT; cases hT
  | some d =>
    rw [hu] at hT
    cases d with
    | slice e' =>
      simp only at hT
      cases hi : P.info? e' with
      | none => rw [hi] at hT; cases hT
      | some i =>
        rw [hi] at hT
        simp only [Option.map_some, Option.some.injEq, Prod.mk.injEq] at hT
        obtain ⟨rfl, h1, h2, h3⟩ := hT
        have hbn : (i.bytes : Int) * (n : Int) ≤ 281474976710656 := by
          have : i.bytes * n ≤ 8 * 1000000 := Nat.mul_le_mul (by omega) hn
          rw [← Int.natCast_mul]; omega
        have hr := run_make (P := P) w ty e' i z hu hi h1 .i64 .i64 n n (by omega) (Int.le_refl _) hbn (by omega)
        rw [hr]
        have hm : madeCells z.cells ((n : Int).toNat * i.size) = (List.replicate n z).toArray := by
          rw [h2, Nat.mul_one, Int.toNat_natCast, hz]
          apply Array.ext
          · simp [madeCells]
          · intro j h1 h2
            simp [madeCells, Nat.mod_one]
        rw [hm]; simp
    | _ => cases hT
theorem trip_make (k ty e b n : Nat) (x y : Operand) (z : Value) (hop : o.op = .makeSlice ty x y) (hd : o.dst = r.dst) (hg : o.guard = none) (hk : known r.use o.op = true) (hn : r.neu = [(k, (.pl (List.replicate n z), e))]) (hp : r.puts = [])
    (hx : ∀ γ, envOf γ r.use x = .int .i64 (n : Int)) (hy : ∀ γ, envOf γ r.use y = .int .i64 (n : Int)) (hT : MakeT P ty e z b) (hz : z.cells = #[z]) (hb : b ≤ 8) (hle : n ≤ 1000000) (hv : r.v = .s (.sl k 0 n n)) : Trip P F B0 w0 ops o r :=
  trip_new k (.pl (List.replicate n z), e) hd hg hk hn hp rfl rfl (fun γ w _ _ _ => by
    simp only [execOp, hop, hx γ, hy γ, Sem.run_bind, run_makeN hT hz hb hle w, Result.andThen_ok, Sem.run_pure, hv, SV.den, Sc.den, nm_self]
    simp [Ct.obj, Cn.cs, Sc.den])
theorem tlv {t k i n x ty : Nat} {T : TypeId} (hT : OneT P ty) (hop : o.op = .load ty (.tmp t) := by exact rfl) (hd : o.dst = r.dst := by exact rfl) (hg : o.guard = none := by exact rfl) (hn : r.neu = [] := by exact rfl) (hp : r.puts = [] := by exact rfl)
    (hx : lk r.use t = some (.s (.ptr k i)) := by exact rfl) (hkey : (k, (.pl (Vn n x), T)) ∈ r.keys := by exact .head _) (hv : r.v = .s (.v (.int .u32 (dg32 x i : Int))) := by exact rfl) (hlt : i < n := by omega) : Trip P F B0 w0 ops o r :=
  trip_loadV t k i ty (Vn n x) T _ hop hd hg hn hp hx hkey hT (Vn_get hlt) hv
theorem tsv {t k i n x d ty : Nat} {y : Operand} {T : TypeId} (hs : (P.info? ty).map (·.size) = some 1) (hop : o.op = .store ty (.tmp t) y := by exact rfl) (hd : o.dst = none := by exact rfl) (hrd : r.dst = none := by exact rfl) (hg : o.guard = none := by exact rfl) (hn : r.neu = [] := by exact rfl)
    (hx : lk r.use t = some (.s (.ptr k i)) := by exact rfl) (hkey : r.keys = [(k, (.pl (Vn n x), T))] := by exact rfl) (hp : r.puts = [(k, (.pl (Vn n (set32 x i d)), T))] := by exact rfl) (hkx : knownX r.use y = true := by exact rfl) (hval : ∀ γ, envOf γ r.use y = .int .u32 (d : Int) := by (intro γ; kernel_rfl))
    (hd32 : d < 4294967296 := by omega) (hlt : i < n := by omega) : Trip P F B0 w0 ops o r :=
  trip_storeV t k i ty y (Vn n x) (Vn n (set32 x i d)) T _ hop hd hrd hg hn hp hx hkx hval rfl rfl hkey hs (by rw [Vn_len]; exact hlt) (Vn_set hlt hd32)
theorem Vn_zero (n : Nat) : List.replicate n (.int .u32 0) = Vn n 0 := by
  apply List.ext_getElem?
  intro j
  by_cases h : j < n
  · rw [Vn_get h, List.getElem?_replicate_of_lt h, dg32, Nat.zero_div]; rfl
  · rw [List.getElem?_eq_none (by simp; omega), List.getElem?_eq_none (by rw [Vn_len]; omega)]
theorem tmk {k ty e b n : Nat} {x y : Operand} (hT : MakeT P ty e (.int .u32 0) b) (hop : o.op = .makeSlice ty x y := by exact rfl) (hd : o.dst = r.dst := by exact rfl) (hg : o.guard = none := by exact rfl) (hk : known r.use o.op = true := by exact rfl) (hn : r.neu = [(k, (.pl (Vn n 0), e))] := by exact rfl) (hp : r.puts = [] := by exact rfl)
    (hx : ∀ γ, envOf γ r.use x = .int .i64 (n : Int) := by (intro γ; kernel_rfl)) (hy : ∀ γ, envOf γ r.use y = .int .i64 (n : Int) := by (intro γ; kernel_rfl)) (hv : r.v = .s (.sl k 0 n n) := by exact rfl) (hb : b ≤ 8 := by decide) (hle : n ≤ 1000000 := by omega) : Trip P F B0 w0 ops o r :=
  trip_make k ty e b n x y (.int .u32 0) hop hd hg hk (by rw [hn, Vn_zero]) hp hx hy hT rfl hb hle hv
theorem run_sliceAt_sl {ty g h n m sz : Nat} (hT : SlT P ty sz) (hle : h ≤ n) (hnm : n ≤ m) (w : World) :
    (Instr.sliceAt ty (.slice (some ⟨g, 0, none⟩) n m) none (some (.int .i64 (h : Int))) none).run P w = .ok (.slice (some ⟨g, 0, none⟩) h m) w := by
  unfold SlT slOf at hT
  cases hu : P.underlying ty with
  | none => rw [hu] at hT; cases hT
  | some d =>
    rw [hu] at hT
    cases d with
    | slice e =>
      simp only at hT
      cases he : P.info? e with
      | none => rw [he] at hT; cases hT
      | some inf =>
        have h1 : (0 : Int) ≤ (h : Int) := by omega
        have h2 : h ≤ m := by omega
        have h3 : (h : Int) ≤ (m : Int) := by omega
        simp [Instr.sliceAt, Instr.slice, asIntOf, run_underlying hu, sizeOf, typeInfo, he, Instr.sliceBounds, Instr.sliceBound, h2, add_none]
    | _ => cases hT
theorem tshx {t th g h n m ty sz : Nat} (hT : SlT P ty sz) (hop : o.op = .slice ty (.tmp t) none (some (.tmp th)) none := by exact rfl) (hd : o.dst = r.dst := by exact rfl) (hg : o.guard = none := by exact rfl) (hn : r.neu = [] := by exact rfl) (hp : r.puts = [] := by exact rfl)
    (hx : lk r.use t = some (.s (.v (.slice (some ⟨g, 0, none⟩) n m))) := by exact rfl) (hh : lk r.use th = some (.s (.v (.int .i64 (h : Int)))) := by exact rfl) (hv : r.v = .s (.v (.slice (some ⟨g, 0, none⟩) h m)) := by exact rfl) (hle : h ≤ n := by omega) (hnm : n ≤ m := by omega) : Trip P F B0 w0 ops o r :=
  trip_pure hd hg (by rw [hop]; simp only [known, knownO, Bool.and_eq_true]; simp [knownX, hasKey_of_lk hx, hasKey_of_lk hh]) hn hp (fun γ w => by
    simp only [execOp, hop, Option.map_some, Option.map_none, show envOf γ r.use (.tmp t) = .slice (some ⟨g, 0, none⟩) n m by simp [envOf, hx, SV.den, Sc.den], show envOf γ r.use (.tmp th) = .int .i64 (h : Int) by simp [envOf, hh, SV.den, Sc.den], Sem.run_bind, run_sliceAt_sl hT hle hnm w, Result.andThen_ok, Sem.run_pure, hv, SV.den, Sc.den])
theorem tsh {t th k h n m ty sz : Nat} (hT : SlT P ty sz) (hop : o.op = .slice ty (.tmp t) none (some (.tmp th)) none := by exact rfl) (hd : o.dst = r.dst := by exact rfl) (hg : o.guard = none := by exact rfl) (hn : r.neu = [] := by exact rfl) (hp : r.puts = [] := by exact rfl)
    (hx : lk r.use t = some (.s (.sl k 0 n m)) := by exact rfl) (hh : lk r.use th = some (.s (.v (.int .i64 (h : Int)))) := by exact rfl) (hv : r.v = .s (.sl k 0 h m) := by exact rfl) (hle : h ≤ n := by omega) (hnm : n ≤ m := by omega) : Trip P F B0 w0 ops o r :=
  trip_pure hd hg (by rw [hop]; simp only [known, knownO, Bool.and_eq_true]; simp [knownX, hasKey_of_lk hx, hasKey_of_lk hh]) hn hp (fun γ w => by
    simp only [execOp, hop, Option.map_some, Option.map_none, show envOf γ r.use (.tmp t) = .slice (some ⟨γ k, 0, none⟩) n m by simp [envOf, hx, SV.den, Sc.den], show envOf γ r.use (.tmp th) = .int .i64 (h : Int) by simp [envOf, hh, SV.den, Sc.den], Sem.run_bind, run_sliceAt_sl hT hle hnm w, Result.andThen_ok, Sem.run_pure, hv, SV.den, Sc.den])
end
end Go.Proofs.Ytddfimfgcfgpbaa
namespace Go.Proofs.Ytddfimfgcfgpbaa
open Sx
open Go.RowKit (Below)
section
variable {P : Program} {F : Fx} {B0 : Bs} {w0 : World} {ops : Array Oper} {o : Oper} {r : Row}
theorem txn {t k i n x ty : Nat} {T : TypeId} {ix : Operand} (hT : SlT P ty 1) (hop : o.op = .indexAddr ty (.tmp t) ix := by exact rfl) (hd : o.dst = r.dst := by exact rfl) (hg : o.guard = none := by exact rfl) (hn : r.neu = [] := by exact rfl) (hp : r.puts = [] := by exact rfl)
    (hx : lk r.use t = some (.s (.fn k nfN)) := by exact rfl) (hv : r.v = .s (.fn k (nfP i)) := by exact rfl) (hkx : knownX r.use ix = true := by exact rfl) (hi : ∀ γ, envOf γ r.use ix = .int .i64 (i : Int) := by (intro γ; kernel_rfl)) (hkey : (k, (.abs (rawA n x), T)) ∈ r.keys := by exact .head _) (hlt : i < n := by omega) : Trip P F B0 w0 ops o r :=
  trip_val hd hg (by rw [hop]; simp only [known, Bool.and_eq_true]; exact ⟨hasKey_of_lk hx, hkx⟩) hn hp (fun γ w _ _ hks => by
    have h : Raw w (γ k) n x := hks _ hkey
    obtain ⟨s, m, h1, h2, h3⟩ := h
    obtain ⟨g, vs, T', h4, h5, h6⟩ := h3 (by omega)
    have e : envOf γ r.use (.tmp t) = .slice (some ⟨g, 0, none⟩) n m := by
      simp only [envOf, hx, SV.den, Sc.den, nfN, h1, dec_enc, h4]; rfl
    simp only [execOp, hop, hi γ, e, Sem.run_bind, run_indexAt_sl hT hlt w, Result.andThen_ok, Sem.run_pure, hv, SV.den, Sc.den, nfP, h1, h4, decP_enc]
    simp)
theorem tln {t k i n x ty : Nat} {T : TypeId} (hT : OneT P ty) (hop : o.op = .load ty (.tmp t) := by exact rfl) (hd : o.dst = r.dst := by exact rfl) (hg : o.guard = none := by exact rfl) (hn : r.neu = [] := by exact rfl) (hp : r.puts = [] := by exact rfl)
    (hx : lk r.use t = some (.s (.fn k (nfP i))) := by exact rfl) (hkey : (k, (.abs (rawA n x), T)) ∈ r.keys := by exact .head _) (hv : r.v = .s (.v (.int .u32 (dg32 x i : Int))) := by exact rfl) (hlt : i < n := by omega) : Trip P F B0 w0 ops o r :=
  trip_val hd hg (by rw [hop]; exact hasKey_of_lk hx) hn hp (fun γ w _ _ hks => by
    have h : Raw w (γ k) n x := hks _ hkey
    obtain ⟨s, m, h1, h2, h3⟩ := h
    obtain ⟨g, vs, T', h4, h5, h6⟩ := h3 (by omega)
    have e : envOf γ r.use (.tmp t) = .pointer (some ⟨g, i, none⟩) := by
      simp only [envOf, hx, SV.den, Sc.den, nfP, h1, h4, decP_enc]
    have h7 := h6 i hlt
    rw [← Array.getElem?_toList] at h7
    have hl := run_loadVar_one (P := P) (off := i) (ty := ty) (cells := vs.toList) (by rw [Array.toArray_toList]; exact h5) hT h7
    simp only [execOp, hop, e, Instr.loadAt, Instr.sureAddr, Sem.run_bind, Sem.run_pure, Result.andThen_ok, hl, hv, SV.den, Sc.den])
theorem run_len_sl {c : Call} {T sz ty : Nat} {ρ : Operand → Value} {a : Option Addr} {n m : Nat} {x : Operand} (hT : SlT P T sz) (hc : c.callee = .builtin .len) (ha : c.args = #[x]) (hat : c.argTypes[0]? = some T) (hx : ρ x = .slice a n m) (w : World) :
    (do let d ← resolve ρ c ty; invoke d.target d.args : Sem Next).run P w = .ok (.value (.int .i64 (n : Int))) w := by
  unfold SlT slOf at hT
  cases hu : P.underlying T with
  | none => rw [hu] at hT; cases hT
  | some d =>
    rw [hu] at hT
    cases d with
    | slice e =>
      obtain ⟨cs, h1⟩ : ∃ cs, resolve ρ c ty = pure { target := .builtin .len c.argTypes ty cs, args := #[.slice a n m] } := by
        unfold resolve
        simp only [hc, ha, hx, List.map_toArray, List.map_cons, List.map_nil]
        exact ⟨_, rfl⟩
      rw [h1]
      simp only [pure_bind, invoke, builtin, Builtin.len_, hat]
      simp [run_underlying hu, goInt]
    | _ => cases hT
theorem tnl {t k n x T0 sz : Nat} {T : TypeId} {c : Call} (hT : SlT P T0 sz) (hop : o.op = .call c := by exact rfl) (hc : c.callee = .builtin .len := by exact rfl) (ha : c.args = #[.tmp t] := by exact rfl) (hat : c.argTypes[0]? = some T0 := by exact rfl) (hd : o.dst = r.dst := by exact rfl) (hg : o.guard = none := by exact rfl) (hn : r.neu = [] := by exact rfl) (hp : r.puts = [] := by exact rfl)
    (hx : lk r.use t = some (.s (.fn k nfN)) := by exact rfl) (hkey : (k, (.abs (rawA n x), T)) ∈ r.keys := by exact .head _) (hv : r.v = .s (.v (.int .i64 (n : Int))) := by exact rfl) : Trip P F B0 w0 ops o r :=
  trip_val hd hg (by rw [hop]; simp only [known, hc, ha]; simp [knownX, hasKey_of_lk hx]) hn hp (fun γ w _ _ hks => by
    have h : Raw w (γ k) n x := hks _ hkey
    obtain ⟨s, m, h1, h2, h3⟩ := h
    have e : envOf γ r.use (.tmp t) = .slice (s.map fun g => ⟨g, 0, none⟩) n m := by
      simp only [envOf, hx, SV.den, Sc.den, nfN, h1, dec_enc]; rfl
    simp only [execOp, hop]
    rw [run_len_sl hT hc ha hat e w, hv]
    rfl)
end
end Go.Proofs.Ytddfimfgcfgpbaa
namespace Go.Proofs.Ytddfimfgcfgpbaa
open Sx
open Go.RowKit (Below)
def ElT (P : Program) (t e : Nat) (z : Value) (size bytes : Nat) : Prop := (P.underlying t = some (.slice e)) ∧ (P.info? e).map (fun i => (i.zero, i.size, i.bytes)) = some (some z, size, bytes)
def cn (p : Nat × Nat) : Nat × Ct := (p.1, (.abs (numA p.2), 0))
def NumX (w : World) (γ : Nat → Nat) : List (Nat × Nat) → Prop
  | [] => True
  | p :: r => Num w (γ p.1) p.2 ∧ NumX w γ r
def NRet (w : World) (ns zs : List Nat) (V : (Nat → Nat) → Value) (e : Ending) (w' : World) : Prop :=
  ∃ f : Nat → Nat, e = .returned (V f) ∧ (∀ i z, zs[i]? = some z → Num w' (f i) z ∧ ∀ g, Nb (f i) g → w.heap.size ≤ g ∨ ∃ n ∈ ns, Nb n g) ∧ Below w.heap.size w w'
abbrev Rn (d : Nat) (v : SV) (u : Sl) (X Z : List (Nat × Nat)) : Row := ⟨some d, v, u, X.map cn, Z.map cn, []⟩
def ixK : List (Nat × Nat) → Nat → Option Nat
  | [], _ => none
  | p :: r, k => bif Nat.beq p.1 k then some 0 else (ixK r k).map (· + 1)
def ov (Z : List (Nat × Nat)) (f γ : Nat → Nat) : Nat → Nat := fun k => match ixK Z k with
  | some i => f i
  | none => γ k
theorem ixK_cn {k : Nat} : ∀ {Z : List (Nat × Nat)}, lk (Z.map cn) k = none → ixK Z k = none
  | [], _ => rfl
  | p :: r, h => by
    simp only [List.map_cons, cn, lk] at h
    simp only [ixK]
    cases hb : Nat.beq p.1 k with
    | true => rw [hb] at h; cases h
    | false =>
      rw [hb] at h
      simp only [cond_false] at h ⊢
      rw [ixK_cn h]; rfl
theorem cn_ixK {k : Nat} {c : Ct} : ∀ {Z : List (Nat × Nat)}, lk (Z.map cn) k = some c → ∃ i z, ixK Z k = some i ∧ (Z.map fun p => p.2)[i]? = some z ∧ c = (.abs (numA z), 0)
  | [], h => by cases h
  | p :: r, h => by
    simp only [List.map_cons, cn, lk] at h
    simp only [ixK]
    cases hb : Nat.beq p.1 k with
    | true =>
      rw [hb] at h
      simp only [cond_true, Option.some.injEq] at h
      exact ⟨0, p.2, rfl, rfl, h.symm⟩
    | false =>
      rw [hb] at h
      simp only [cond_false] at h ⊢
      obtain ⟨i, z, h1, h2, h3⟩ := cn_ixK h
      exact ⟨i + 1, z, by rw [h1]; rfl, by simpa using h2, h3⟩
theorem NumX_of {w : World} {γ : Nat → Nat} : ∀ {X : List (Nat × Nat)}, (∀ p ∈ X.map cn, p.2.at γ (γ p.1) w) → NumX w γ X
  | [], _ => trivial
  | p :: r, h => ⟨h (cn p) (.head _), NumX_of (fun q hq => h q (.tail _ hq))⟩
theorem Eff.nums {γ : Nat → Nat} {w w' : World} {r : Row} {X Z : List (Nat × Nat)} {f : Nat → Nat} (hkeys : ∀ n ∈ X.map (fun p => γ p.1), ∃ p ∈ r.keys, p.2.ft (γ p.1) = Nb n ∧ p.2.mu = false) (hn : r.neu = Z.map cn) (hp : r.puts = [])
    (h : ∀ i z, (Z.map fun p => p.2)[i]? = some z → Num w' (f i) z ∧ ∀ g, Nb (f i) g → w.heap.size ≤ g ∨ ∃ n ∈ X.map (fun p => γ p.1), Nb n g) (hb : Below w.heap.size w w') : Eff γ (ov Z f γ) w w' r := by
  obtain ⟨b1, b2, b3, b4, b5⟩ := hb
  refine ⟨b1, b2, b3, b4, fun k hk => ?_, fun k c hk => ?_, fun k k' c c' hk _ hmu => ?_, fun k c hk => ?_, fun j hj _ => b5 j hj⟩
  · rw [hn] at hk
    simp only [ov, ixK_cn hk]
  · rw [hn] at hk
    obtain ⟨i, z, h1, h2, rfl⟩ := cn_ixK hk
    obtain ⟨h3, h4⟩ := h i z h2
    have e : ov Z f γ k = f i := by simp only [ov, h1]
    rw [e]
    refine ⟨h3, fun g hg => ?_⟩
    rcases h4 g hg with h5 | ⟨n, hn', h5⟩
    · exact .inl h5
    · obtain ⟨p, hpk, hpf, hpm⟩ := hkeys n hn'
      exact .inr ⟨p, hpk, by rw [hpf]; exact h5, .inr ⟨hpm, rfl⟩⟩
  · rw [hn] at hk
    obtain ⟨i, z, h1, h2, rfl⟩ := cn_ixK hk
    cases hmu
  · rw [hp] at hk; cases hk
section
variable {P : Program} {F : Fx} {B0 : Bs} {w0 : World} {ops : Array Oper} {o : Oper} {r : Row}
theorem tnc {f : FuncId} {args : (Nat → Nat) → Array Value} {d : Nat} {v : SV} {u : Sl} {X Z : List (Nat × Nat)} {V : (Nat → Nat) → Value} (hcall : ∀ γ w, NumX w γ X → Calls P f (args γ) w (NRet w (X.map fun p => γ p.1) (Z.map fun p => p.2) V)) (hd : o.dst = some d := by exact rfl) (hg : o.guard = none := by exact rfl) (hk : known u o.op = true := by exact rfl)
    (hrun : ∀ γ w, (execOp (envOf γ u) o).run P w = .ok (.enter f (args γ)) w := by (intro γ w; kernel_rfl)) (hval : ∀ γ g, V g = v.den (ov Z g γ) := by (intro γ g; kernel_rfl)) : Trip P F B0 w0 ops o (Rn d v u X Z) :=
  trip_call f args hd hg hk hrun (fun γ w _ _ hks => (hcall γ w (NumX_of hks)).mono fun e w' ⟨g, he, h, hb⟩ => ⟨ov Z g γ, Eff.nums (X := X) (fun n hn' => by
    obtain ⟨p, hp1, rfl⟩ := List.mem_map.1 hn'
    exact ⟨cn p, List.mem_map.2 ⟨p, hp1, rfl⟩, rfl, rfl⟩) rfl rfl h hb, by rw [he, hval γ g]⟩)
theorem tnv {f : FuncId} {args : (Nat → Nat) → Array Value} {d : Nat} {v : SV} {u : Sl} {X : List (Nat × Nat)} {val : Value} (hcall : ∀ γ w, NumX w γ X → Calls P f (args γ) w fun e w' => e = .returned val ∧ Below w.heap.size w w') (hd : o.dst = some d := by exact rfl) (hg : o.guard = none := by exact rfl) (hk : known u o.op = true := by exact rfl)
    (hrun : ∀ γ w, (execOp (envOf γ u) o).run P w = .ok (.enter f (args γ)) w := by (intro γ w; kernel_rfl)) (hval : ∀ γ, val = v.den γ := by (intro γ; kernel_rfl)) : Trip P F B0 w0 ops o (Rn d v u X []) :=
  tt (val := fun _ => val) (fun γ w _ _ hks => hcall γ w (NumX_of hks)) hd hg hk rfl rfl hrun hval
end
abbrev NX := List (Nat × Nat × Nat × Nat)
def BN (X : NX) : Bs := ⟨fun _ => False, fun g => ∃ p ∈ X, Nb p.2.1 g⟩
def NX.fx (X : NX) : Fx := X.map fun p => (p.1, p.2.1)
def NX.bl (X : NX) : Bl := X.map fun p => (p.1, (.abs (rawA p.2.2.1 p.2.2.2), 0))
def NX.nms (X : NX) : Nat → Nat := fun j => (lk X.fx j).getD 0
def NX.At (w : World) : NX → Prop
  | [] => True
  | p :: r => Raw w p.2.1 p.2.2.1 p.2.2.2 ∧ NX.At w r
theorem NX.At.get {w : World} : ∀ {X : NX}, X.At w → ∀ p ∈ X, Raw w p.2.1 p.2.2.1 p.2.2.2
  | [], _, _, h => by cases h
  | q :: r, ⟨h1, h2⟩, p, h => by
    rcases List.mem_cons.1 h with rfl | h
    · exact h1
    · exact NX.At.get h2 p h
theorem NX.mem_bl {X : NX} {k : Nat} {c : Ct} (h : lk X.bl k = some c) : ∃ p ∈ X, p.1 = k ∧ c = (.abs (rawA p.2.2.1 p.2.2.2), 0) ∧ lk X.fx k = some p.2.1 := by
  unfold NX.bl at h
  rw [show X.map (fun p => (p.1, ((.abs (rawA p.2.2.1 p.2.2.2), 0) : Ct))) = X.map (fun e => (e.1, (fun x : Nat × Nat × Nat => ((.abs (rawA x.2.1 x.2.2), 0) : Ct)) e.2)) from rfl, lk_map_snd (fun x : Nat × Nat × Nat => ((.abs (rawA x.2.1 x.2.2), 0) : Ct))] at h
  cases hl : lk X k with
  | none => rw [hl] at h; cases h
  | some x =>
    rw [hl] at h
    simp only [Option.map_some, Option.some.injEq] at h
    refine ⟨(k, x), lk_mem hl, rfl, h.symm, ?_⟩
    unfold NX.fx
    rw [show X.map (fun p => (p.1, p.2.1)) = X.map (fun e => (e.1, (fun x : Nat × Nat × Nat => x.1) e.2)) from rfl, lk_map_snd (fun x : Nat × Nat × Nat => x.1), hl]; rfl
section
variable {P : Program} {N : Nat} {F : Fx} {w0 : World} {γ : Nat → Nat} {a : Act} {w : World} {S : Nat → Option SV} {C : Nat → Option Ct}
theorem enter_n {f : FuncId} {fn : Func} {c : Code} {R : Ending → World → Prop} {args : Array Value} (X : NX) (L : Sl) (hf : P.funcs[f]? = some fn) (hb : fn.body = some c) (hN : fn.ntmps = N) (hX : X.At w0)
    (h : ∀ γ a, Env N X.fx (BN X) w0 (lk L) (lk X.bl) γ a w0 → c.wp P (bodyPost P fn R) a w0) (hs : args.size ≤ N := by exact Nat.le_of_ble_eq_true (by kernel_rfl))
    (hL : L.map (fun p => args[p.1]?) = L.map (fun p => some (p.2.den X.nms)) := by kernel_rfl) (hnd : nodupK X.fx = true := by kernel_rfl) : Calls P f args w0 R := by
  refine enter_fx X.fx (BN X) X.nms L X.bl N hf hb hN hs hL (fun p hp => ?_) (fun k c hc => ?_) (fun k k' c c' hc _ hmu => ?_) h
  · obtain ⟨k, g⟩ := p
    simp only [NX.nms, lk_of_mem_nodup hnd hp, Option.getD_some]
  · obtain ⟨p, hp, rfl, rfl, hl⟩ := NX.mem_bl hc
    have e : X.nms p.1 = p.2.1 := by simp only [NX.nms, hl, Option.getD_some]
    rw [e]
    exact ⟨hX.get p hp, fun g hg => .inr ⟨rfl, p, hp, hg⟩⟩
  · obtain ⟨p, hp, rfl, rfl, hl⟩ := NX.mem_bl hc
    cases hmu
theorem Sx.Keep.belowN {X : NX} (h : Keep (BN X) w0 w) : Below w0.heap.size w0 w := ⟨h.os, h.tape, h.output, h.size, fun k hk => h.block k hk (fun h => h)⟩
theorem nret {X : NX} {M : Bl} {V : (Nat → Nat) → Value} (hE : Env N F (BN X) w0 S (lk M) γ a w) (D : List (Nat × Nat)) (hD : D.map (fun p => lk M p.1) = D.map (fun p => some ((.abs (numA p.2), 0) : Ct)) := by kernel_rfl) :
    NRet w0 (X.map fun p => p.2.1) (D.map fun p => p.2) V (.returned (V fun i => γ ((D.map fun p => p.1).getD i 0))) w := by
  refine ⟨_, rfl, fun i z hz => ?_, hE.keep.belowN⟩
  rw [List.getElem?_map] at hz
  cases hd : D[i]? with
  | none => rw [hd] at hz; cases hz
  | some p =>
    rw [hd] at hz
    simp only [Option.map_some, Option.some.injEq] at hz
    subst hz
    have hk : (D.map fun p => p.1).getD i 0 = p.1 := by simp [List.getD, hd]
    have hc := List.map_inj_left.1 hD p (List.mem_of_getElem? hd)
    rw [hk]
    refine ⟨hE.heap _ _ hc, fun g hg => ?_⟩
    rcases hE.own _ _ hc g hg with h | h | ⟨-, p, hp, h⟩
    · exact .inl h
    · exact h.elim
    · exact .inr ⟨_, List.mem_map.2 ⟨p, hp, rfl⟩, h⟩
end
theorem raw_of {w : World} {g n m x T : Nat} (hh : w.heap[g]? = some (.cells (Vn m x).toArray T (0, 0))) (h : n ≤ m) {c : Nat} (hc : n ≤ c) : Raw w (enc (some g) n c) n x :=
  ⟨some g, c, rfl, hc, fun _ => ⟨g, _, T, rfl, hh, fun i hi => by
    have := Vn_get (n := m) (x := x) (i := i) (by omega)
    simpa using this⟩⟩
theorem Nb_enc {g n c j : Nat} (h : Nb (enc (some g) n c) j) : j = g := by
  obtain ⟨n', m', h1, _⟩ := h
  have := (enc_inj h1).1
  simp only [Option.some.injEq] at this
  exact this.symm
theorem num_nil {w : World} : Num w (enc none 0 0) 0 := ⟨none, 0, rfl, Nat.le_refl _, fun h => by exact absurd h (Nat.lt_irrefl 0)⟩
theorem Nb_nil {j n c : Nat} : ¬ Nb (enc none n c) j := fun ⟨n', m', h1, _⟩ => by
  have := (enc_inj h1).1
  cases this
end Go.Proofs.Ytddfimfgcfgpbaa
namespace Go.Proofs.Ytddfimfgcfgpbaa
open Sx
open Go.RowKit (Below)
set_option exponentiation.threshold 2000
def beM (x n i : Nat) : List Value := (List.range n).map fun j => .int .u8 ((if n - 1 - j < i then x / 2 ^ (8 * (n - 1 - j)) % 256 else 0 : Nat) : Int)
def beS (x n : Nat) : ByteArray := ⟨((List.range n).map fun j => UInt8.ofNat (x / 2 ^ (8 * (n - 1 - j)))).toArray⟩
theorem beM_len (x n i : Nat) : (beM x n i).length = n := by simp [beM]
theorem beM_get {x n i j : Nat} (h : j < n) : (beM x n i)[j]? = some (.int .u8 ((if n - 1 - j < i then x / 2 ^ (8 * (n - 1 - j)) % 256 else 0 : Nat) : Int)) := by simp [beM, h]
theorem beM_zero (x n : Nat) : List.replicate n (.int .u8 0) = beM x n 0 := by
  apply List.ext_getElem?
  intro j
  by_cases h : j < n
  · rw [beM_get h, List.getElem?_replicate_of_lt h, if_neg (by omega)]; rfl
  · rw [List.getElem?_eq_none (by simp; omega), List.getElem?_eq_none (by rw [beM_len]; omega)]
theorem beM_set {x n i j d : Nat} (h : i < n) (hj : j = n - 1 - i) (hd : d = x / 2 ^ (8 * i) % 256) : (beM x n i).set j (.int .u8 (d : Int)) = beM x n (i + 1) := by
  apply List.ext_getElem?
  intro k
  rw [List.getElem?_set]
  by_cases hk : k < n
  · rw [beM_get hk, beM_get hk]
    by_cases h1 : j = k
    · subst h1
      have e : n - 1 - j = i := by omega
      rw [if_pos rfl, if_pos (by rw [beM_len]; exact hk), e, if_pos (by omega), hd]
    · rw [if_neg h1]
      have : (n - 1 - k < i) ↔ (n - 1 - k < i + 1) := by omega
      simp only [this]
  · rw [List.getElem?_eq_none (by rw [beM_len]; omega)]
    by_cases h1 : j = k
    · omega
    · rw [if_neg h1, List.getElem?_eq_none (by rw [beM_len]; omega)]
theorem beS_size (x n : Nat) : (beS x n).size = n := by simp [beS, ByteArray.size]
theorem byt_beS {x n j : Nat} (h : j < n) : byt (beS x n) j = x / 2 ^ (8 * (n - 1 - j)) % 256 := by
  unfold byt
  have e : (beS x n)[j]? = some (UInt8.ofNat (x / 2 ^ (8 * (n - 1 - j)))) := by
    rw [getElem?_pos (beS x n) j (by rw [beS_size]; exact h)]
    congr 1
    show (beS x n).data[j]'(by have := beS_size x n; rw [ByteArray.size] at this; omega) = _
    simp [beS]
  rw [e]
  simp
def CvB (P : Program) (src dst e : Nat) : Prop := P.underlying src = some (.slice e) ∧ P.underlying e = some (.int .u8) ∧ P.underlying dst = some .string
section
variable {P : Program} {F : Fx} {B0 : Bs} {w0 : World} {ops : Array Oper} {o : Oper} {r : Row}
theorem tmkB {k ty e b n x' : Nat} {x y : Operand} (hT : MakeT P ty e (.int .u8 0) b) (hop : o.op = .makeSlice ty x y := by exact rfl) (hd : o.dst = r.dst := by exact rfl) (hg : o.guard = none := by exact rfl) (hk : known r.use o.op = true := by exact rfl) (hn : r.neu = [(k, (.pl (beM x' n 0), e))] := by exact rfl) (hp : r.puts = [] := by exact rfl)
    (hx : ∀ γ, envOf γ r.use x = .int .i64 (n : Int) := by (intro γ; kernel_rfl)) (hy : ∀ γ, envOf γ r.use y = .int .i64 (n : Int) := by (intro γ; kernel_rfl)) (hv : r.v = .s (.sl k 0 n n) := by exact rfl) (hb : b ≤ 8 := by decide) (hle : n ≤ 1000000 := by omega) : Trip P F B0 w0 ops o r :=
  trip_make k ty e b n x y (.int .u8 0) hop hd hg hk (by rw [hn, beM_zero x']) hp hx hy hT rfl hb hle hv
theorem tsB {t k i j n x d ty : Nat} {y : Operand} {T : TypeId} (hs : (P.info? ty).map (·.size) = some 1) (hop : o.op = .store ty (.tmp t) y := by exact rfl) (hd : o.dst = none := by exact rfl) (hrd : r.dst = none := by exact rfl) (hg : o.guard = none := by exact rfl) (hn : r.neu = [] := by exact rfl)
    (hx : lk r.use t = some (.s (.ptr k j)) := by exact rfl) (hkey : r.keys = [(k, (.pl (beM x n i), T))] := by exact rfl) (hp : r.puts = [(k, (.pl (beM x n (i + 1)), T))] := by exact rfl) (hkx : knownX r.use y = true := by exact rfl) (hval : ∀ γ, envOf γ r.use y = .int .u8 (d : Int) := by (intro γ; kernel_rfl))
    (hdd : d = x / 2 ^ (8 * i) % 256) (hlt : i < n := by omega) (hj : j = n - 1 - i := by omega) : Trip P F B0 w0 ops o r :=
  trip_storeV t k j ty y (beM x n i) (beM x n (i + 1)) T _ hop hd hrd hg hn hp hx hkx hval rfl rfl hkey hs (by rw [beM_len]; omega) (beM_set hlt hj hdd)
theorem tcvB {t k i n x c src dst e : Nat} {T : TypeId} (hT : CvB P src dst e) (hop : o.op = .convert src dst (.tmp t) := by exact rfl) (hd : o.dst = r.dst := by exact rfl) (hg : o.guard = none := by exact rfl) (hn : r.neu = [] := by exact rfl) (hp : r.puts = [] := by exact rfl)
    (hx : lk r.use t = some (.s (.sl k 0 n c)) := by exact rfl) (hkey : (k, (.pl (beM x n i), T)) ∈ r.keys := by exact .head _) (hv : r.v = .s (.v (.string (beS x n))) := by exact rfl) (hi : n ≤ i := by omega) : Trip P F B0 w0 ops o r :=
  trip_val hd hg (by rw [hop]; exact hasKey_of_lk hx) hn hp (fun γ w _ _ hks => by
    have hh := Ct.pl_at (hks _ hkey)
    have hc : ∀ j (hj : j < ((List.range n).map fun j => UInt8.ofNat (x / 2 ^ (8 * (n - 1 - j)))).length), w.cell? ((⟨γ k, 0, none⟩ : Addr).add j) = some (.int .u8 (((List.range n).map fun j => UInt8.ofNat (x / 2 ^ (8 * (n - 1 - j))))[j].toNat : Int)) := fun j hj => by
      have hj' : j < n := by simpa using hj
      have h1 := beM_get (x := x) (i := i) hj'
      rw [if_pos (by omega)] at h1
      have e1 : ((List.range n).map fun j => UInt8.ofNat (x / 2 ^ (8 * (n - 1 - j))))[j] = UInt8.ofNat (x / 2 ^ (8 * (n - 1 - j))) := by simp
      rw [e1]
      have e2 : (UInt8.ofNat (x / 2 ^ (8 * (n - 1 - j)))).toNat = x / 2 ^ (8 * (n - 1 - j)) % 256 := by simp
      rw [e2]
      have hh2 : w.heap[γ k]? = some (.cells (beM x n i).toArray T (0, 0)) := by
        refine hh.trans ?_
        simp only [Ct.obj, Cn.cs, List.map_map, Function.comp_def, Sc.den, List.map_id']
      have ea : (⟨γ k, 0, none⟩ : Addr).add j = ⟨γ k, j, none⟩ := by simp [add_none]
      rw [ea]
      unfold World.cell?
      simp only [hh2, Option.isSome_none, Bool.false_eq_true, if_false, List.getElem?_toArray]
      exact h1
    have hr := run_convert_bytes_back (P := P) w src dst e ⟨γ k, 0, none⟩ c ((List.range n).map fun j => UInt8.ofNat (x / 2 ^ (8 * (n - 1 - j)))) hT.1 hT.2.1 hT.2.2 hc
    simp only [List.length_map, List.length_range] at hr
    simp only [execOp, hop, show envOf γ r.use (.tmp t) = .slice (some ⟨γ k, 0, none⟩) n c by simp [envOf, hx, SV.den, Sc.den], Sem.run_bind, hr, Result.andThen_ok, Sem.run_pure, hv, SV.den, Sc.den]
    rfl)
theorem tsuf {x : Operand} {ty i : Nat} {s : ByteArray} {lo : Operand} (hT : StrT P ty) (hop : o.op = .slice ty x (some lo) none none := by exact rfl) (hd : o.dst = r.dst := by exact rfl) (hg : o.guard = none := by exact rfl) (hk : known r.use o.op = true := by exact rfl) (hn : r.neu = [] := by exact rfl) (hp : r.puts = [] := by exact rfl) (hv : r.v = .s (.v (.string (s.extract i s.size))) := by exact rfl)
    (hx : ∀ γ, envOf γ r.use x = .string s := by (intro γ; kernel_rfl)) (hy : ∀ γ, envOf γ r.use lo = .int .i64 (i : Int) := by (intro γ; kernel_rfl)) (hle : i ≤ s.size := by omega) : Trip P F B0 w0 ops o r :=
  trip_pure hd hg hk hn hp (fun γ w => by
    have h1 : (0 : Int) ≤ (i : Int) := by omega
    have h2 : (i : Int) ≤ (s.size : Int) := by omega
    simp only [execOp, hop, Option.map_some, Option.map_none, hx γ, hy γ]
    simp [Instr.sliceAt, Instr.slice, asIntOf, run_underlying hT, Instr.sliceBounds, Instr.sliceBound, hle, hv, SV.den, Sc.den])
theorem tpre {x : Operand} {ty i : Nat} {s : ByteArray} {hi : Operand} (hT : StrT P ty) (hop : o.op = .slice ty x none (some hi) none := by exact rfl) (hd : o.dst = r.dst := by exact rfl) (hg : o.guard = none := by exact rfl) (hk : known r.use o.op = true := by exact rfl) (hn : r.neu = [] := by exact rfl) (hp : r.puts = [] := by exact rfl) (hv : r.v = .s (.v (.string (s.extract 0 i))) := by exact rfl)
    (hx : ∀ γ, envOf γ r.use x = .string s := by (intro γ; kernel_rfl)) (hy : ∀ γ, envOf γ r.use hi = .int .i64 (i : Int) := by (intro γ; kernel_rfl)) (hle : i ≤ s.size := by omega) : Trip P F B0 w0 ops o r :=
  trip_pure hd hg hk hn hp (fun γ w => by
    have h1 : (0 : Int) ≤ (i : Int) := by omega
    have h2 : (i : Int) ≤ (s.size : Int) := by omega
    simp only [execOp, hop, Option.map_some, Option.map_none, hx γ, hy γ]
    simp [Instr.sliceAt, Instr.slice, asIntOf, run_underlying hT, Instr.sliceBounds, Instr.sliceBound, hle, hv, SV.den, Sc.den])
end
end Go.Proofs.Ytddfimfgcfgpbaa
