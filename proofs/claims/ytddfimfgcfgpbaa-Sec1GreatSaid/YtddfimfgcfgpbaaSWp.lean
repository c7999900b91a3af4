/-
  Carries and borrows; numbers of any count of words.
  Slices of words; what a callee leaves that fills one block.
  Bits of numbers: how many, which, shifts; products word by word.
  When two numbers of nine words are the same.
  Texts: a byte of a text; whole numbers that are compared.
  When two points are the same.
-/
import Derived.Test.YtddfimfgcfgpbaaSWm
import Derived.Lib.BitFns
import Derived.Laws.StructEq
import Derived.ChangeKeysEq
namespace Go.Proofs.Ytddfimfgcfgpbaa
open Sx
open Go.RowKit (Below)
set_option exponentiation.threshold 2000
def cy (a b i : Nat) : Nat := (a % 2 ^ (64 * i) + b % 2 ^ (64 * i)) / 2 ^ (64 * i)
def bw (a b i : Nat) : Nat := if a % 2 ^ (64 * i) < b % 2 ^ (64 * i) then 1 else 0
theorem cy_le (a b i : Nat) : cy a b i ≤ 1 := by
  unfold cy
  have h1 := Nat.mod_lt a (pw_pos i)
  have h2 := Nat.mod_lt b (pw_pos i)
  have : (a % 2 ^ (64 * i) + b % 2 ^ (64 * i)) / 2 ^ (64 * i) < 2 := by rw [Nat.div_lt_iff_lt_mul (pw_pos i)]; omega
  omega
theorem bw_le (a b i : Nat) : bw a b i ≤ 1 := by unfold bw; split <;> omega
theorem cy_zero (a b : Nat) : cy a b 0 = 0 := by simp [cy, Nat.mod_one]
theorem bw_zero (a b : Nat) : bw a b 0 = 0 := by simp [bw, Nat.mod_one]
theorem add_word (a b i : Nat) : dg (a + b) i = (dg a i + dg b i + cy a b i) % 18446744073709551616 ∧ cy a b (i + 1) = (dg a i + dg b i + cy a b i) / 18446744073709551616 := by
  have hX : a % 2 ^ (64 * (i + 1)) + b % 2 ^ (64 * (i + 1)) = 2 ^ (64 * i) * (dg a i + dg b i + cy a b i) + (a % 2 ^ (64 * i) + b % 2 ^ (64 * i)) % 2 ^ (64 * i) := by
    have h := Nat.div_add_mod (a % 2 ^ (64 * i) + b % 2 ^ (64 * i)) (2 ^ (64 * i))
    rw [lo_succ a, lo_succ b, Nat.mul_add, Nat.mul_add, cy, Nat.mul_comm (dg a i), Nat.mul_comm (dg b i)]
    omega
  have hr : (a % 2 ^ (64 * i) + b % 2 ^ (64 * i)) % 2 ^ (64 * i) < 2 ^ (64 * i) := Nat.mod_lt _ (pw_pos i)
  have hq : (a % 2 ^ (64 * (i + 1)) + b % 2 ^ (64 * (i + 1))) / 2 ^ (64 * i) = dg a i + dg b i + cy a b i := by
    rw [hX, Nat.mul_add_div (pw_pos i), Nat.div_eq_of_lt hr, Nat.add_zero]
  constructor
  · have h : 2 ^ (64 * (i + 1)) = 2 ^ (64 * i) * 2 ^ 64 := by rw [Nat.mul_succ, Nat.pow_add]
    have e1 : ∀ x, x % 2 ^ (64 * (i + 1)) / 2 ^ (64 * i) = x / 2 ^ (64 * i) % 2 ^ 64 := fun x => by rw [h]; exact Nat.mod_mul_right_div_self _ _ _
    have e2 : dg (a + b) i = (a + b) % 2 ^ (64 * (i + 1)) / 2 ^ (64 * i) := (e1 (a + b)).symm
    rw [e2, Nat.add_mod, e1, hq]
  · rw [← hq, Nat.div_div_eq_div_mul]
    unfold cy
    rw [pw_succ i, Nat.mul_comm 18446744073709551616 (2 ^ (64 * i))]
def sb (a b : Nat) : Nat := a + 2 ^ 576 - b
theorem dg_add576 (a i : Nat) (h : i < 9) : dg (a + 2 ^ 576) i = dg a i := by
  obtain ⟨c, hc, he⟩ := pw_le (Nat.le_of_lt h)
  obtain ⟨e, rfl⟩ := he h
  unfold dg
  rw [show (2 : Nat) ^ 576 = 2 ^ (64 * 9) from rfl, hc, Nat.add_mul_div_left _ _ (pw_pos i), Nat.add_mul_mod_self_left]
theorem mod_add576 (a i : Nat) (h : i ≤ 9) : (a + 2 ^ 576) % 2 ^ (64 * i) = a % 2 ^ (64 * i) := by
  obtain ⟨c, hc, _⟩ := pw_le h
  rw [show (2 : Nat) ^ 576 = 2 ^ (64 * 9) from rfl, hc, Nat.add_mul_mod_self_left]
theorem cy_sb (a b i : Nat) (hb : b < 2 ^ 576) (h : i ≤ 9) : cy (sb a b) b i = bw a b i := by
  have e : (sb a b + b) % 2 ^ (64 * i) = a % 2 ^ (64 * i) := by rw [show sb a b + b = a + 2 ^ 576 by unfold sb; omega]; exact mod_add576 a i h
  rw [Nat.add_mod] at e
  have h1 := Nat.mod_lt (sb a b) (pw_pos i)
  have h2 := Nat.mod_lt b (pw_pos i)
  have h3 := Nat.div_add_mod (sb a b % 2 ^ (64 * i) + b % 2 ^ (64 * i)) (2 ^ (64 * i))
  have h4 := cy_le (sb a b) b i
  unfold bw
  rw [e] at h3
  unfold cy at h4 ⊢
  generalize (sb a b % 2 ^ (64 * i) + b % 2 ^ (64 * i)) / 2 ^ (64 * i) = c at *
  have : c = 0 ∨ c = 1 := by omega
  rcases this with rfl | rfl
  · rw [if_neg (by omega)]
  · rw [if_pos (by omega)]
theorem sub_word (a b i : Nat) (hb : b < 2 ^ 576) (h : i < 9) : (dg a i + 18446744073709551616 - dg b i - bw a b i) % 18446744073709551616 = dg (sb a b) i ∧ (if dg a i < dg b i + bw a b i then 1 else 0) = bw a b (i + 1) := by
  have h1 := add_word (sb a b) b i
  rw [show sb a b + b = a + 2 ^ 576 by unfold sb; omega, dg_add576 a i h, cy_sb a b i hb (by omega), cy_sb a b (i + 1) hb (by omega)] at h1
  have h2 := dg_lt a i
  have h3 := dg_lt b i
  have h4 := dg_lt (sb a b) i
  have h5 := bw_le a b i
  generalize dg a i = x at *
  generalize dg b i = y at *
  generalize dg (sb a b) i = z at *
  generalize bw a b i = u at *
  generalize bw a b (i + 1) = v at *
  constructor
  · omega
  · split <;> omega
theorem cy9 {a b : Nat} (ha : a < 2 ^ 576) (hb : b < 2 ^ 576) : (cy a b 9 = 1) ↔ 2 ^ 576 ≤ a + b := by
  unfold cy
  rw [show (2 : Nat) ^ (64 * 9) = 2 ^ 576 from rfl, Nat.mod_eq_of_lt ha, Nat.mod_eq_of_lt hb]
  omega
theorem bw9 {a b : Nat} (ha : a < 2 ^ 576) (hb : b < 2 ^ 576) : (bw a b 9 = 1) ↔ a < b := by
  unfold bw
  rw [show (2 : Nat) ^ (64 * 9) = 2 ^ 576 from rfl, Nat.mod_eq_of_lt ha, Nat.mod_eq_of_lt hb]
  split <;> omega
theorem dg_mixi (s x i : Nat) : dg (mixw s x i) i = dg x i := by rw [dg_mixw, if_neg (by omega)]
theorem dg_mod576 (x i : Nat) (h : i < 9) : dg (x % 2 ^ 576) i = dg x i := by
  conv => rhs; rw [← Nat.div_add_mod x (2 ^ 576), Nat.add_comm]
  have : ∀ k, dg (x % 2 ^ 576 + 2 ^ 576 * k) i = dg (x % 2 ^ 576) i := by
    intro k
    induction k with
    | zero => rfl
    | succ k ih => rw [Nat.mul_succ, ← Nat.add_assoc, dg_add576 _ _ h, ih]
  rw [this]
theorem U9_mod (x : Nat) : U9 (x % 2 ^ 576) = U9 x := U9_congr (fun j h => dg_mod576 x j h)
theorem nv_mod (x : Nat) : nv (x % 2 ^ 576) = nv x := by unfold nv; rw [U9_mod]
theorem nv_sb {a b : Nat} (h : b ≤ a) : nv (sb a b) = nv (a - b) := by
  rw [← nv_mod (sb a b), ← nv_mod (a - b)]; unfold sb
  rw [show a + 2 ^ 576 - b = (a - b) + 2 ^ 576 by omega, Nat.add_mod_right]
def nwk (x : Nat) : Nat → Nat
  | 0 => 0
  | n + 1 => if dg x n = 0 then nwk x n else n + 1
theorem nwk_le (x n : Nat) : nwk x n ≤ n := by
  induction n with
  | zero => exact Nat.le_refl _
  | succ n ih => unfold nwk; split <;> omega
theorem nwk_zero {x n : Nat} (h : dg x n = 0) : nwk x (n + 1) = nwk x n := by simp [nwk, h]
theorem nwk_pos {x n : Nat} (h : dg x n ≠ 0) : nwk x (n + 1) = n + 1 := by simp [nwk, h]
theorem nwk_top {x n : Nat} (h : 0 < nwk x n) : dg x (nwk x n - 1) ≠ 0 := by
  induction n with
  | zero => exact absurd h (Nat.lt_irrefl 0)
  | succ n ih =>
    by_cases h0 : dg x n = 0
    · rw [nwk_zero h0] at h ⊢; exact ih h
    · rw [nwk_pos h0]; simpa using h0
theorem nwk_lt {x n : Nat} (hx : x < 2 ^ (64 * n)) : x < 2 ^ (64 * nwk x n) := by
  induction n with
  | zero => exact hx
  | succ n ih =>
    by_cases h0 : dg x n = 0
    · rw [nwk_zero h0]
      refine ih ?_
      have := lo_succ x n
      rw [Nat.mod_eq_of_lt hx, h0, Nat.zero_mul, Nat.zero_add] at this
      rw [this]; exact Nat.mod_lt _ (pw_pos n)
    · rw [nwk_pos h0]; exact hx
def nw (x : Nat) : Nat := nwk x 9
theorem nw_le (x : Nat) : nw x ≤ 9 := nwk_le x 9
def Un (n x : Nat) : List Sc := (List.range n).map fun i => inN .u64 (dg x i)
theorem Un_len (n x : Nat) : (Un n x).length = n := by simp [Un]
theorem Un_get {n y i : Nat} (h : i < n) : (Un n y)[i]? = some (inN .u64 (dg y i)) := by simp [Un, h]
theorem Un_set {n y i d : Nat} (h : i < n) (hd : d < 18446744073709551616) : (Un n y).take i ++ [inN .u64 d] ++ (Un n y).drop (i + [inN .u64 d].length) = Un n (setw y i d) := by
  apply List.ext_getElem?
  intro j
  by_cases hj : j < n
  · rw [Un_get hj, dg_setw _ _ _ _ hd]
    by_cases h1 : j < i
    · rw [List.append_assoc, List.getElem?_append_left (by simp [Un_len]; omega), List.getElem?_take, if_pos h1, Un_get hj, if_neg (by omega)]
    · by_cases h2 : j = i
      · subst h2
        rw [List.append_assoc, List.getElem?_append_right (by simp [Un_len]; omega)]
        simp [Un_len, Nat.min_eq_left (Nat.le_of_lt h)]
      · rw [List.getElem?_append_right (by simp [Un_len]; omega), List.getElem?_drop, if_neg h2]
        simp only [List.length_append, List.length_take, Un_len, Nat.min_eq_left (Nat.le_of_lt h), List.length_singleton]
        rw [show i + 1 + (j - (i + 1)) = j by omega, Un_get hj]
  · rw [List.getElem?_eq_none (by simp [Un_len]; omega), List.getElem?_eq_none (by simp [Un_len]; omega)]
section
variable {P : Program} {F : Fx} {B0 : Bs} {w0 : World} {ops : Array Oper} {o : Oper} {r : Row}
theorem trip_ixarrx (t : Nat) (ix : Operand) (g off i n ty : Nat) (hop : o.op = .indexAddr ty (.tmp t) ix) (hd : o.dst = r.dst) (hg : o.guard = none) (hn : r.neu = []) (hp : r.puts = [])
    (hx : lk r.use t = some (.s (.v (.pointer (some ⟨g, off, none⟩))))) (hkx : knownX r.use ix = true) (hi : ∀ γ, envOf γ r.use ix = .int .i64 (i : Int)) (hT : ArrT P ty n) (hlt : i < n) (hv : r.v = .s (.v (.pointer (some ⟨g, off + i, none⟩)))) : Trip P F B0 w0 ops o r :=
  trip_pure hd hg (by rw [hop]; simp only [known, Bool.and_eq_true]; exact ⟨hasKey_of_lk hx, hkx⟩) hn hp (fun γ w => by
    unfold ArrT arrOf at hT
    cases hu : P.underlying ty with
    | none => rw [hu] at hT; cases hT
    | some d =>
      rw [hu] at hT
      cases d with
      | array len e =>
        simp only at hT
        cases he : P.info? e with
        | none => rw [he] at hT; cases hT
        | some inf =>
          rw [he] at hT
          simp only [Option.map_some, Option.some.injEq, Prod.mk.injEq] at hT
          obtain ⟨rfl, hsz⟩ := hT
          have h1 : (0 : Int) ≤ (i : Int) := by omega
          have h2 : (i : Int) < (len : Int) := by omega
          simp only [execOp, hop, hi γ, show envOf γ r.use (.tmp t) = .pointer (some ⟨g, off, none⟩) by simp [envOf, hx, SV.den, Sc.den]]
          simp [Instr.indexAt, asIntOf, run_underlying hu, Instr.sureAddr, sizeOf, typeInfo, he, hsz, hlt, add_none, hv, SV.den, Sc.den]
      | _ => cases hT)
theorem tlU {t k i x ty T : Nat} (hT : OneT P ty) (hop : o.op = .load ty (.tmp t) := by exact rfl) (hd : o.dst = r.dst := by exact rfl) (hg : o.guard = none := by exact rfl) (hn : r.neu = [] := by exact rfl) (hp : r.puts = [] := by exact rfl)
    (hx : lk r.use t = some (.s (.ptr k i)) := by exact rfl) (hkey : (k, (.sc (U9 x), T)) ∈ r.keys := by exact .head _) (hv : r.v = .s (.v (.int .u64 (dg x i : Int))) := by exact rfl) (hlt : i < 9 := by omega) : Trip P F B0 w0 ops o r :=
  trip_load1 t k i ty (.sc (U9 x), T) (.v (.int .u64 (dg x i : Int))) hop hd hg hn hp hx hkey hT (U9_get hlt) hv
theorem tsU {t k i x d ty T : Nat} {y : Operand} (hs : (P.info? ty).map (·.size) = some 1) (hop : o.op = .store ty (.tmp t) y := by exact rfl) (hd : o.dst = none := by exact rfl) (hrd : r.dst = none := by exact rfl) (hg : o.guard = none := by exact rfl) (hn : r.neu = [] := by exact rfl)
    (hx : lk r.use t = some (.s (.ptr k i)) := by exact rfl) (hkey : r.keys = [(k, (.sc (U9 x), T))] := by exact rfl) (hp : r.puts = [(k, (.sc (U9 (setw x i d)), T))] := by exact rfl) (hkx : knownX r.use y = true := by exact rfl)
    (hval : ∀ γ, envOf γ r.use y = .int .u64 (d : Int) := by (intro γ; kernel_rfl)) (hdd : d < 18446744073709551616 := by omega) (hlt : i < 9 := by omega) : Trip P F B0 w0 ops o r :=
  trip_store t k i ty y (.sc (U9 x), T) [inN .u64 d] (U9 (setw x i d)) hop hd hrd hg hn hp hx hkx (fun γ => by rw [hval γ]; rfl) hkey hs (by simp [Cn.cs, U9]; omega) rfl (U9_set hlt hdd)
theorem tlU' {t k i x ty T : Nat} {Z : List Sc} (hT : OneT P ty) (hop : o.op = .load ty (.tmp t) := by exact rfl) (hd : o.dst = r.dst := by exact rfl) (hg : o.guard = none := by exact rfl) (hn : r.neu = [] := by exact rfl) (hp : r.puts = [] := by exact rfl)
    (hx : lk r.use t = some (.s (.ptr k i)) := by exact rfl) (hkey : (k, (.sc (U9 x ++ Z), T)) ∈ r.keys := by exact .head _) (hv : r.v = .s (.v (.int .u64 (dg x i : Int))) := by exact rfl) (hlt : i < 9 := by omega) : Trip P F B0 w0 ops o r :=
  trip_load1 t k i ty (.sc (U9 x ++ Z), T) (.v (.int .u64 (dg x i : Int))) hop hd hg hn hp hx hkey hT (U9_get' hlt) hv
theorem tsU' {t k i x d ty T : Nat} {Z : List Sc} {y : Operand} (hs : (P.info? ty).map (·.size) = some 1) (hop : o.op = .store ty (.tmp t) y := by exact rfl) (hd : o.dst = none := by exact rfl) (hrd : r.dst = none := by exact rfl) (hg : o.guard = none := by exact rfl) (hn : r.neu = [] := by exact rfl)
    (hx : lk r.use t = some (.s (.ptr k i)) := by exact rfl) (hkey : r.keys = [(k, (.sc (U9 x ++ Z), T))] := by exact rfl) (hp : r.puts = [(k, (.sc (U9 (setw x i d) ++ Z), T))] := by exact rfl) (hkx : knownX r.use y = true := by exact rfl)
    (hval : ∀ γ, envOf γ r.use y = .int .u64 (d : Int) := by (intro γ; kernel_rfl)) (hdd : d < 18446744073709551616 := by omega) (hlt : i < 9 := by omega) : Trip P F B0 w0 ops o r :=
  trip_store t k i ty y (.sc (U9 x ++ Z), T) [inN .u64 d] (U9 (setw x i d) ++ Z) hop hd hrd hg hn hp hx hkx (fun γ => by rw [hval γ]; rfl) hkey hs (by simp [Cn.cs, U9]; omega) rfl (U9_set' hlt hdd)
theorem tlW {t k i x m ty T : Nat} (hT : OneT P ty) (hop : o.op = .load ty (.tmp t) := by exact rfl) (hd : o.dst = r.dst := by exact rfl) (hg : o.guard = none := by exact rfl) (hn : r.neu = [] := by exact rfl) (hp : r.puts = [] := by exact rfl)
    (hx : lk r.use t = some (.s (.ptr k i)) := by exact rfl) (hkey : (k, (.sc (Un m x), T)) ∈ r.keys := by exact .head _) (hv : r.v = .s (.v (.int .u64 (dg x i : Int))) := by exact rfl) (hlt : i < m := by omega) : Trip P F B0 w0 ops o r :=
  trip_load1 t k i ty (.sc (Un m x), T) (.v (.int .u64 (dg x i : Int))) hop hd hg hn hp hx hkey hT (Un_get hlt) hv
theorem tsW {t k i x d m ty T : Nat} {y : Operand} (hs : (P.info? ty).map (·.size) = some 1) (hop : o.op = .store ty (.tmp t) y := by exact rfl) (hd : o.dst = none := by exact rfl) (hrd : r.dst = none := by exact rfl) (hg : o.guard = none := by exact rfl) (hn : r.neu = [] := by exact rfl)
    (hx : lk r.use t = some (.s (.ptr k i)) := by exact rfl) (hkey : r.keys = [(k, (.sc (Un m x), T))] := by exact rfl) (hp : r.puts = [(k, (.sc (Un m (setw x i d)), T))] := by exact rfl) (hkx : knownX r.use y = true := by exact rfl)
    (hval : ∀ γ, envOf γ r.use y = .int .u64 (d : Int) := by (intro γ; kernel_rfl)) (hdd : d < 18446744073709551616 := by omega) (hlt : i < m := by omega) : Trip P F B0 w0 ops o r :=
  trip_store t k i ty y (.sc (Un m x), T) [inN .u64 d] (Un m (setw x i d)) hop hd hrd hg hn hp hx hkx (fun γ => by rw [hval γ]; rfl) hkey hs (by simp [Cn.cs, Un_len]; omega) rfl (Un_set hlt hdd)
theorem txax0 {t : Nat} {ix : Operand} {g i n ty : Nat} (hT : ArrT P ty n) (hop : o.op = .indexAddr ty (.tmp t) ix := by exact rfl) (hd : o.dst = r.dst := by exact rfl) (hg : o.guard = none := by exact rfl) (hn : r.neu = [] := by exact rfl) (hp : r.puts = [] := by exact rfl)
    (hx : lk r.use t = some (.s (.v (.pointer (some ⟨g, 0, none⟩)))) := by exact rfl) (hv : r.v = .s (.v (.pointer (some ⟨g, i, none⟩))) := by exact rfl) (hkx : knownX r.use ix = true := by exact rfl) (hi : ∀ γ, envOf γ r.use ix = .int .i64 (i : Int) := by (intro γ; kernel_rfl)) (hlt : i < n := by omega) : Trip P F B0 w0 ops o r :=
  trip_ixarrx t ix g 0 i n ty hop hd hg hn hp hx hkx hi hT hlt (by rw [hv, Nat.zero_add])
end
end Go.Proofs.Ytddfimfgcfgpbaa
namespace Go.Proofs.Ytddfimfgcfgpbaa
open Sx
open Go.RowKit (Below)
def slOf (P : Program) (ty : Nat) : Option Nat := match P.underlying ty with
  | some (.slice e) => (P.info? e).map fun i => i.size
  | _ => none
def SlT (P : Program) (ty sz : Nat) : Prop := slOf P ty = some sz
section
variable {P : Program} {F : Fx} {B0 : Bs} {w0 : World} {ops : Array Oper} {o : Oper} {r : Row}
theorem run_indexAt_sl {ty sz g off i n m : Nat} (hT : SlT P ty sz) (hlt : i < n) (w : World) :
    (Instr.indexAt ty (.slice (some ⟨g, off, none⟩) n m) (.int .i64 (i : Int))).run P w = .ok (.pointer (some ⟨g, off + i * sz, none⟩)) w := by
  unfold SlT slOf at hT
  cases hu : P.underlying ty with
  | none => rw [hu] at hT; cases hT
  | some d =>
    rw [hu] at hT
    cases d with
    | slice e =>
      simp only at hT
      cases he : P.info? e with
      | none => rw [he] at hT; cases hT
      | some inf =>
        rw [he] at hT
        simp only [Option.map_some, Option.some.injEq] at hT
        have h1 : (0 : Int) ≤ (i : Int) := by omega
        have h2 : (i : Int) < (n : Int) := by omega
        simp [Instr.indexAt, asIntOf, run_underlying hu, sizeOf, typeInfo, he, hT, hlt, add_none]
    | _ => cases hT
theorem trip_ixsl (t : Nat) (ix : Operand) (k off i n m ty sz : Nat) (hop : o.op = .indexAddr ty (.tmp t) ix) (hd : o.dst = r.dst) (hg : o.guard = none) (hn : r.neu = []) (hp : r.puts = [])
    (hx : lk r.use t = some (.s (.sl k off n m))) (hkx : knownX r.use ix = true) (hi : ∀ γ, envOf γ r.use ix = .int .i64 (i : Int)) (hT : SlT P ty sz) (hlt : i < n) (hv : r.v = .s (.ptr k (off + i * sz))) : Trip P F B0 w0 ops o r :=
  trip_pure hd hg (by rw [hop]; simp only [known, Bool.and_eq_true]; exact ⟨hasKey_of_lk hx, hkx⟩) hn hp (fun γ w => by
    simp only [execOp, hop, hi γ, show envOf γ r.use (.tmp t) = .slice (some ⟨γ k, off, none⟩) n m by simp [envOf, hx, SV.den, Sc.den], Sem.run_bind, run_indexAt_sl hT hlt w, Result.andThen_ok, Sem.run_pure, hv, SV.den, Sc.den])
theorem trip_ixslx (t : Nat) (ix : Operand) (g off i n m ty sz : Nat) (hop : o.op = .indexAddr ty (.tmp t) ix) (hd : o.dst = r.dst) (hg : o.guard = none) (hn : r.neu = []) (hp : r.puts = [])
    (hx : lk r.use t = some (.s (.v (.slice (some ⟨g, off, none⟩) n m)))) (hkx : knownX r.use ix = true) (hi : ∀ γ, envOf γ r.use ix = .int .i64 (i : Int)) (hT : SlT P ty sz) (hlt : i < n) (hv : r.v = .s (.v (.pointer (some ⟨g, off + i * sz, none⟩)))) : Trip P F B0 w0 ops o r :=
  trip_pure hd hg (by rw [hop]; simp only [known, Bool.and_eq_true]; exact ⟨hasKey_of_lk hx, hkx⟩) hn hp (fun γ w => by
    simp only [execOp, hop, hi γ, show envOf γ r.use (.tmp t) = .slice (some ⟨g, off, none⟩) n m by simp [envOf, hx, SV.den, Sc.den], Sem.run_bind, run_indexAt_sl hT hlt w, Result.andThen_ok, Sem.run_pure, hv, SV.den, Sc.den])
theorem run_sliceAt_arr {ty g off h n : Nat} (hT : ArrT P ty n) (hle : h ≤ n) (h0 : 0 < n) (w : World) :
    (Instr.sliceAt ty (.pointer (some ⟨g, off, none⟩)) none (some (.int .i64 (h : Int))) none).run P w = .ok (.slice (some ⟨g, off, none⟩) h n) w := by
  unfold ArrT arrOf at hT
  cases hu : P.underlying ty with
  | none => rw [hu] at hT; cases hT
  | some d =>
    rw [hu] at hT
    cases d with
    | array len e =>
      simp only at hT
      cases he : P.info? e with
      | none => rw [he] at hT; cases hT
      | some inf =>
        rw [he] at hT
        simp only [Option.map_some, Option.some.injEq, Prod.mk.injEq] at hT
        obtain ⟨rfl, hsz⟩ := hT
        have h1 : (0 : Int) ≤ (h : Int) := by omega
        have h2 : (h : Int) ≤ (len : Int) := by omega
        simp [Instr.sliceAt, asIntOf, run_underlying hu, Instr.sureAddr, sizeOf, typeInfo, he, Instr.sliceBounds, Instr.sliceBound, hle, add_none]
    | _ => cases hT
theorem trip_slhi (t th : Nat) (k off h n ty : Nat) (hop : o.op = .slice ty (.tmp t) none (some (.tmp th)) none) (hd : o.dst = r.dst) (hg : o.guard = none) (hn : r.neu = []) (hp : r.puts = [])
    (hx : lk r.use t = some (.s (.ptr k off))) (hh : lk r.use th = some (.s (inN .i64 h))) (hT : ArrT P ty n) (hle : h ≤ n) (h0 : 0 < n) (hv : r.v = .s (.sl k off h n)) : Trip P F B0 w0 ops o r :=
  trip_pure hd hg (by rw [hop]; simp only [known, knownO, Bool.and_eq_true]; simp [knownX, hasKey_of_lk hx, hasKey_of_lk hh]) hn hp (fun γ w => by
    simp only [execOp, hop, Option.map_some, Option.map_none, show envOf γ r.use (.tmp t) = .pointer (some ⟨γ k, off, none⟩) by simp [envOf, hx, SV.den, Sc.den], show envOf γ r.use (.tmp th) = .int .i64 (h : Int) by simp [envOf, hh, SV.den, Sc.den], Sem.run_bind, run_sliceAt_arr hT hle h0 w, Result.andThen_ok, Sem.run_pure, hv, SV.den, Sc.den])
theorem txs {t : Nat} {ix : Operand} {k i n m ty : Nat} (hT : SlT P ty 1) (hop : o.op = .indexAddr ty (.tmp t) ix := by exact rfl) (hd : o.dst = r.dst := by exact rfl) (hg : o.guard = none := by exact rfl) (hn : r.neu = [] := by exact rfl) (hp : r.puts = [] := by exact rfl)
    (hx : lk r.use t = some (.s (.sl k 0 n m)) := by exact rfl) (hv : r.v = .s (.ptr k i) := by exact rfl) (hkx : knownX r.use ix = true := by exact rfl) (hi : ∀ γ, envOf γ r.use ix = .int .i64 (i : Int) := by (intro γ; kernel_rfl)) (hlt : i < n := by omega) : Trip P F B0 w0 ops o r :=
  trip_ixsl t ix k 0 i n m ty 1 hop hd hg hn hp hx hkx hi hT hlt (by rw [hv, Nat.zero_add, Nat.mul_one])
theorem txsx {t : Nat} {ix : Operand} {g i n m ty : Nat} (hT : SlT P ty 1) (hop : o.op = .indexAddr ty (.tmp t) ix := by exact rfl) (hd : o.dst = r.dst := by exact rfl) (hg : o.guard = none := by exact rfl) (hn : r.neu = [] := by exact rfl) (hp : r.puts = [] := by exact rfl)
    (hx : lk r.use t = some (.s (.v (.slice (some ⟨g, 0, none⟩) n m))) := by exact rfl) (hv : r.v = .s (.v (.pointer (some ⟨g, i, none⟩))) := by exact rfl) (hkx : knownX r.use ix = true := by exact rfl) (hi : ∀ γ, envOf γ r.use ix = .int .i64 (i : Int) := by (intro γ; kernel_rfl)) (hlt : i < n := by omega) : Trip P F B0 w0 ops o r :=
  trip_ixslx t ix g 0 i n m ty 1 hop hd hg hn hp hx hkx hi hT hlt (by rw [hv, Nat.zero_add, Nat.mul_one])
structure Only (g : Nat) (w0 w : World) : Prop where
  os : w.os = w0.os
  tape : w.tape = w0.tape
  output : w.output = w0.output
  size : w0.heap.size ≤ w.heap.size
  block : ∀ j, j < w0.heap.size → j ≠ g → w.heap[j]? = w0.heap[j]?
theorem Keep.only {k g : Nat} {c : Ct} {w0 w : World} (h : Keep (Ent.B [(k, g, c)]) w0 w) (hN : c.isNum = false := by rfl) : Only g w0 w :=
  ⟨h.os, h.tape, h.output, h.size, fun j hj hne => h.block j hj (fun ⟨e, he, _, hf⟩ => by
    rw [List.mem_singleton.1 he] at hf
    exact hne ((Ct.ft_eq hN).1 hf))⟩
theorem Eff.only {γ : Nat → Nat} {w w' : World} (k : Nat) (c' : Ct) (hn : r.neu = []) (hp : r.puts = [(k, c')]) (hN : c'.isNum = false) (h : Only (γ k) w w') (hh : w'.heap[γ k]? = some (c'.obj γ)) (hkey : ∃ c rest, r.keys = (k, c) :: rest ∧ c.isNum = false ∧ hasKey rest k = false := by exact ⟨_, _, rfl, rfl, rfl⟩) : Eff γ γ w w' r := by
  have hlk : ∀ j d, lk r.puts j = some d → j = k ∧ d = c' := fun j d h => by
    rw [hp] at h
    simp only [lk] at h
    cases hb : Nat.beq k j with
    | true => rw [hb] at h; simp at h; exact ⟨(Nat.eq_of_beq_eq_true hb).symm, h.symm⟩
    | false => rw [hb] at h; simp at h
  refine ⟨h.os, h.tape, h.output, h.size, fun _ _ => rfl, ?_, ?_, ?_, ?_⟩
  · intro j d hj; rw [hn] at hj; cases hj
  · intro j j' d d' hj; rw [hn] at hj; cases hj
  · intro j d hj
    obtain ⟨rfl, rfl⟩ := hlk j d hj
    refine ⟨(Ct.at_obj hN).2 hh, fun g hg p hpk e => ?_⟩
    obtain ⟨c, rest, hk, hcN, hrest⟩ := hkey
    rw [hk] at hpk
    have e2 : p.2 = c := by
      rcases List.mem_cons.1 hpk with h | h
      · rw [h]
      · have : ∀ {l : Bl}, p ∈ l → hasKey l p.1 = true := by
          intro l
          induction l with
          | nil => intro h; cases h
          | cons x l ih =>
            intro h
            rcases List.mem_cons.1 h with h | h
            · subst h; simp [hasKey]
            · simp [hasKey, ih h]
        rw [← e, this h] at hrest; cases hrest
    rw [e2]
    exact (Ct.ft_eq hcN).2 ((Ct.ft_eq hN).1 hg)
  · intro j hj hne
    refine h.block j hj (fun e => ?_)
    obtain ⟨c, rest, hk, hcN, -⟩ := hkey
    exact hne (k, c) (by rw [hk]; exact .head _) (by rw [hp]; simp [hasKey]) ((Ct.ft_eq hcN).2 e)
theorem ne_of_fx {k g j : Nat} {c : Ct} (h : g ≠ j) (hN : c.isNum = false := by rfl) : ¬ (Ent.B [(k, g, c)]).b j := fun ⟨e, he, _, hf⟩ => by
  rw [List.mem_singleton.1 he] at hf
  exact h ((Ct.ft_eq hN).1 hf).symm
end
end Go.Proofs.Ytddfimfgcfgpbaa
namespace Go.Proofs.Ytddfimfgcfgpbaa
open Sx
open Go.RowKit (Below)
section
variable {P : Program} {F : Fx} {B0 : Bs} {w0 : World} {ops : Array Oper} {o : Oper} {r : Row}
theorem trip_offu (j : Nat) (t : Nat) (want : Bool) (hd : o.dst = r.dst) (hg : o.guard = some (j, want)) (ht : (ops[j]?).bind (·.dst) = some t) (hu : (t, SV.s (.v undef)) ∈ r.use)
    (hv : r.v = .s (.v undef)) (hn : r.neu = []) (hp : r.puts = []) : Trip P F B0 w0 ops o r := by
  refine ⟨hd, fun γ a w Q K h1 h2 h3 h4 _h4a h5 => ?_⟩
  have hw : Region.wanted o (yielded ops a.tmps) = false := by
    have hsl := h3 _ hu
    simp only [SV.den, Sc.den] at hsl
    cases want <;> simp [Region.wanted, hg, yielded, ht, hsl, undef]
  unfold StepGoal
  rw [hw]
  have := h5 γ w (Eff.same hn hp (Below.refl _ _))
  rw [hv] at this
  rw [hd]
  simpa [SV.den, Sc.den] using this
theorem tou {j t : Nat} {want : Bool} (hd : o.dst = r.dst := by exact rfl) (hg : o.guard = some (j, want) := by exact rfl) (ht : (ops[j]?).bind (·.dst) = some t := by exact rfl) (hu : lk r.use t = some (.s (.v undef)) := by exact rfl)
    (hv : r.v = .s (.v undef) := by exact rfl) (hn : r.neu = [] := by exact rfl) (hp : r.puts = [] := by exact rfl) : Trip P F B0 w0 ops o r := trip_offu j t want hd hg ht (lk_mem hu) hv hn hp
theorem Un_den (γ : Nat → Nat) (n x : Nat) : (Un n x).map (Sc.den γ) = (Un n x).map (Sc.den fun _ => 0) := by
  simp only [Un, List.map_map]; rfl
theorem Eff.onlyU {γ : Nat → Nat} {w w' : World} (k n x T : Nat) (hn : r.neu = []) (hp : r.puts = [(k, (.sc (Un n x), T))]) (h : Only (γ k) w w') (hh : w'.heap[γ k]? = some (.cells ((Un n x).map (Sc.den fun _ => 0)).toArray T (0, 0))) (hkey : ∃ c rest, r.keys = (k, c) :: rest ∧ c.isNum = false ∧ hasKey rest k = false := by exact ⟨_, _, rfl, rfl, rfl⟩) : Eff γ γ w w' r :=
  Eff.only k _ hn hp rfl h (by rw [hh, Ct.obj, Cn.cs, Un_den γ]) hkey
theorem own_end {N k g n x T : Nat} {B0 : Bs} {S : Nat → Option SV} {C : Nat → Option Ct} {γ : Nat → Nat} {a : Act} {w : World} (E : Env N [(k, g)] B0 w0 S C γ a w) (hC : C k = some (.sc (Un n x), T)) : w.heap[g]? = some (.cells ((Un n x).map (Sc.den fun _ => 0)).toArray T (0, 0)) := by
  have h := Ct.sc_at (E.heap k _ hC)
  have h2 := E.fix (k, g) (.head _)
  simp only at h2
  rw [h2, Ct.obj, Cn.cs, Un_den γ] at h
  exact h
theorem ne_of_type {w : World} {g j : Nat} {c d : Array Value} {T U : TypeId} {x y : Nat × Nat} (hT : T ≠ U) (h1 : w.heap[g]? = some (.cells c T x)) (h2 : w.heap[j]? = some (.cells d U y)) : g ≠ j := by
  rintro rfl
  rw [h1] at h2
  simp only [Option.some.injEq, Obj.cells.injEq] at h2
  exact hT h2.2.1
theorem Eff.fresh1 {γ : Nat → Nat} {w w' : World} {g : Nat} (k : Nat) (c : Ct) (hn : r.neu = [(k, c)]) (hp : r.puts = []) (hg : w.heap.size ≤ g) (hb : Below w.heap.size w w') (hh : w'.heap[g]? = some (c.obj (nm γ k g))) (hN : c.isNum = false := by rfl) : Eff γ (nm γ k g) w w' r := by
  have hlk : ∀ j c', lk r.neu j = some c' → j = k ∧ c' = c := fun j c' h => by
    rw [hn] at h
    simp only [lk] at h
    cases hb : Nat.beq k j with
    | true => rw [hb] at h; simp at h; exact ⟨(Nat.eq_of_beq_eq_true hb).symm, h.symm⟩
    | false => rw [hb] at h; simp at h
  obtain ⟨b1, b2, b3, b4, b5⟩ := hb
  refine ⟨b1, b2, b3, b4, ?_, ?_, ?_, ?_, fun j hj _ => b5 j hj⟩
  · intro j hj
    refine nm_ne (fun e => ?_)
    subst e
    rw [hn] at hj
    simp [lk] at hj
  · intro j c' hj
    obtain ⟨rfl, rfl⟩ := hlk j c' hj
    rw [nm_self]
    exact ⟨(Ct.at_obj hN).2 hh, fun j hj => .inl (by rw [(Ct.ft_eq hN).1 hj]; exact hg)⟩
  · intro j j' c1 c2 h1 h2 _ hne
    exact absurd ((hlk j c1 h1).1.trans (hlk j' c2 h2).1.symm) hne
  · intro j c' hj
    rw [hp] at hj; cases hj
end
end Go.Proofs.Ytddfimfgcfgpbaa
namespace Go.Proofs.Ytddfimfgcfgpbaa
open Sx
set_option exponentiation.threshold 2000
def bl (x : Nat) : Nat := if x = 0 then 0 else x.log2 + 1
theorem lt_bl (x : Nat) : x < 2 ^ bl x := by
  unfold bl
  split
  · next h => subst h; decide
  · exact Nat.lt_log2_self
theorem bl_le {x k : Nat} (h : x < 2 ^ k) : bl x ≤ k := by
  unfold bl
  split
  · exact Nat.zero_le _
  · next h0 => exact (Nat.log2_lt h0).2 h
theorem le_bl {x k : Nat} (h : 2 ^ k ≤ x) : k + 1 ≤ bl x := by
  have h0 : x ≠ 0 := by have := Nat.pow_pos (n := k) (show 0 < 2 by decide); omega
  unfold bl
  rw [if_neg h0]
  have := (Nat.le_log2 h0).2 h
  omega
theorem bl_of {x k : Nat} (h1 : 2 ^ k ≤ x) (h2 : x < 2 ^ (k + 1)) : bl x = k + 1 := Nat.le_antisymm (bl_le h2) (le_bl h1)
theorem bl_pos {x : Nat} (h : 0 < x) : 0 < bl x := by unfold bl; rw [if_neg (by omega)]; omega
theorem bl_ge {x : Nat} (h : 0 < x) : 2 ^ (bl x - 1) ≤ x := by
  unfold bl
  rw [if_neg (by omega)]
  exact Nat.log2_self_le (by omega)
theorem bl_lib : ∀ x, x < 2 ^ 64 → Lib.bitLen x = bl x := by
  intro x
  induction x using Nat.strongRecOn with
  | _ x ih =>
    intro hx
    by_cases h0 : x = 0
    · subst h0; rfl
    · rw [Lib.bitLen_half x h0 hx, ih (x / 2) (by omega) (by omega)]
      by_cases h1 : x = 1
      · subst h1; decide
      · have h2 : 0 < x / 2 := by omega
        have a1 := bl_ge h2
        have a2 := lt_bl (x / 2)
        have a3 := bl_pos h2
        rw [Nat.add_comm]
        refine (bl_of ?_ ?_).symm
        · rw [show bl (x / 2) = bl (x / 2) - 1 + 1 by omega, Nat.pow_succ]; omega
        · rw [Nat.pow_succ]; omega
theorem nw_zero {x : Nat} (hx : x < 2 ^ 576) : nw x = 0 ↔ x = 0 := by
  constructor
  · intro h
    have := nwk_lt (x := x) (n := 9) hx
    unfold nw at h
    rw [h] at this
    simpa using this
  · rintro rfl
    decide
theorem nw_lt {x : Nat} (hx : x < 2 ^ 576) : x < 2 ^ (64 * nw x) := nwk_lt (n := 9) hx
theorem dg_top {x n : Nat} (h : x < 2 ^ (64 * (n + 1))) : dg x n = x / 2 ^ (64 * n) := by
  unfold dg
  refine Nat.mod_eq_of_lt ?_
  rw [Nat.div_lt_iff_lt_mul (pw_pos n), Nat.mul_comm, ← Nat.pow_add]
  exact h
theorem bl_nw {x : Nat} (hx : x < 2 ^ 576) (h : ¬ (nw x = 0)) : (nw x - 1) * 64 + Lib.bitLen (dg x (nw x - 1)) = bl x := by
  obtain ⟨m, hm⟩ : ∃ m, nw x = m + 1 := ⟨nw x - 1, by omega⟩
  have h1 := nw_lt hx
  have h2 : dg x (nw x - 1) ≠ 0 := nwk_top (n := 9) (by show 0 < nw x; omega)
  rw [hm] at h1 h2 ⊢
  rw [Nat.add_sub_cancel] at h2 ⊢
  rw [bl_lib _ (dg_lt x m), dg_top h1]
  rw [dg_top h1] at h2
  have a1 := bl_ge (Nat.pos_of_ne_zero h2)
  have a2 := lt_bl (x / 2 ^ (64 * m))
  have a3 := bl_pos (Nat.pos_of_ne_zero h2)
  obtain ⟨k, hk⟩ : ∃ k, bl (x / 2 ^ (64 * m)) = k + 1 := ⟨bl (x / 2 ^ (64 * m)) - 1, by omega⟩
  rw [hk] at a1 a2 ⊢
  rw [Nat.le_div_iff_mul_le (pw_pos m), ← Nat.pow_add] at a1
  rw [Nat.div_lt_iff_lt_mul (pw_pos m), ← Nat.pow_add] at a2
  have := bl_of (x := x) (k := k + 64 * m) a1 (by rw [show k + 64 * m + 1 = k + 1 + 64 * m by omega]; exact a2)
  omega
theorem pow_split {r : Nat} (h : r ≤ 64) : (2 : Nat) ^ 64 = 2 ^ r * 2 ^ (64 - r) := by rw [← Nat.pow_add]; congr 1; omega
theorem two_dvd_pow {r : Nat} (h : 0 < r) : 2 ∣ 2 ^ r := by
  obtain ⟨m, rfl⟩ : ∃ m, r = m + 1 := ⟨r - 1, by omega⟩
  exact ⟨2 ^ m, by rw [Nat.pow_succ, Nat.mul_comm]⟩
theorem bit_dg (a i : Nat) : dg a (i / 64) / 2 ^ (i % 64) &&& 1 = a / 2 ^ i % 2 := by
  have hr : i % 64 < 64 := Nat.mod_lt _ (by decide)
  rw [Nat.and_one_is_mod]
  unfold dg
  rw [pow_split (Nat.le_of_lt hr), Nat.mod_mul_right_div_self, Nat.mod_mod_of_dvd _ (two_dvd_pow (by omega)), Nat.div_div_eq_div_mul, ← Nat.pow_add]
  rw [show 64 * (i / 64) + i % 64 = i by omega]
theorem bit_big {a i : Nat} (ha : a < 2 ^ 576) (h : 576 ≤ i) : a / 2 ^ i % 2 = 0 := by
  rw [Nat.div_eq_of_lt]
  exact Nat.lt_of_lt_of_le ha (Nat.pow_le_pow_right (by decide) h)
theorem shr_word (a q r i : Nat) (hr : r < 64) : dg a (i + q) / 2 ^ r ||| dg a (i + q + 1) * 2 ^ (64 - r) % 18446744073709551616 = dg (a / 2 ^ (64 * q + r)) i := by
  have e : a / 2 ^ (64 * q + r) / 2 ^ (64 * i) = a / 2 ^ (64 * (i + q)) / 2 ^ r := by
    rw [Nat.div_div_eq_div_mul, Nat.div_div_eq_div_mul, ← Nat.pow_add, ← Nat.pow_add]; congr 2; omega
  have hs := hi_succ a (i + q)
  have e1 : dg (a / 2 ^ (64 * q + r)) i = a / 2 ^ (64 * (i + q)) / 2 ^ r % 2 ^ 64 := by unfold dg; rw [e]
  rw [e1, hs]
  have e2 : dg a (i + q + 1) = a / 2 ^ (64 * (i + q + 1)) % 2 ^ 64 := rfl
  rw [e2]
  have h0 := dg_lt a (i + q)
  generalize a / 2 ^ (64 * (i + q + 1)) = y1
  generalize dg a (i + q) = y0 at *
  have p := pow_split (Nat.le_of_lt hr)
  have hlt : y0 / 2 ^ r < 2 ^ (64 - r) := by
    rw [Nat.div_lt_iff_lt_mul (Nat.pow_pos (by decide)), Nat.mul_comm, ← p]; exact h0
  have e3 : (y1 * 18446744073709551616 + y0) / 2 ^ r = y1 * 2 ^ (64 - r) + y0 / 2 ^ r := by
    rw [show (18446744073709551616 : Nat) = 2 ^ r * 2 ^ (64 - r) from p, show y1 * (2 ^ r * 2 ^ (64 - r)) = 2 ^ r * (y1 * 2 ^ (64 - r)) by rw [Nat.mul_left_comm], Nat.mul_add_div (Nat.pow_pos (by decide))]
  rw [e3]
  have e4 : y1 % 2 ^ 64 * 2 ^ (64 - r) % 18446744073709551616 = 2 ^ (64 - r) * (y1 % 2 ^ r) := by
    have p2 : (18446744073709551616 : Nat) = 2 ^ (64 - r) * 2 ^ r := by rw [Nat.mul_comm]; exact p
    rw [Nat.mul_comm, p2, Nat.mul_mod_mul_left, Nat.mod_mod_of_dvd]
    exact ⟨2 ^ (64 - r), by rw [← p]⟩
  have e5 : (y1 * 2 ^ (64 - r) + y0 / 2 ^ r) % 2 ^ 64 = 2 ^ (64 - r) * (y1 % 2 ^ r) + y0 / 2 ^ r := by
    rw [show (2 : Nat) ^ 64 = 2 ^ (64 - r) * 2 ^ r by rw [Nat.mul_comm]; exact p, Nat.mod_mul, Nat.mul_comm y1, Nat.mul_add_div (Nat.pow_pos (by decide)), Nat.mul_add_mod, Nat.div_eq_of_lt hlt, Nat.mod_eq_of_lt hlt, Nat.add_zero, Nat.add_comm]
  rw [e4, e5, Nat.or_comm]
  exact (Nat.two_pow_add_eq_or_of_lt hlt _).symm
theorem dg_big {a i n : Nat} (ha : a < 2 ^ (64 * n)) (h : n ≤ i) : dg a i = 0 := by
  unfold dg
  rw [Nat.div_eq_of_lt (Nat.lt_of_lt_of_le ha (Nat.pow_le_pow_right (by decide) (Nat.mul_le_mul_left _ h)))]
theorem setw_val (y i d : Nat) : setw y i d + dg y i * 2 ^ (64 * i) = y + d * 2 ^ (64 * i) := by
  unfold setw
  have h := Nat.div_add_mod y (2 ^ (64 * (i + 1)))
  have h2 := lo_succ y i
  rw [Nat.mul_comm] at h
  generalize y / 2 ^ (64 * (i + 1)) * 2 ^ (64 * (i + 1)) = u at *
  generalize d * 2 ^ (64 * i) = v at *
  generalize dg y i * 2 ^ (64 * i) = z at *
  omega
end Go.Proofs.Ytddfimfgcfgpbaa
namespace Go.Proofs.Ytddfimfgcfgpbaa
open Sx
open Go.RowKit (Below)
set_option exponentiation.threshold 2000
section
variable {P : Program} {d e n : Nat} {xs ys : Array Value} {a b : Value} {r s : Bool} {w : World} {j : Nat} {js : List Nat}
theorem eqI_nil : (Op.eqItems d e n xs ys []).run P w = .ok true w := by simp [Op.eqItems]
theorem eqI_cons (ha : (part e xs (j * n)).run P w = .ok a w) (hb : (part e ys (j * n)).run P w = .ok b w) (he : (Op.equalIn d e a b).run P w = .ok r w) (hr : (Op.eqItems d e n xs ys js).run P w = .ok s w) : (Op.eqItems d e n xs ys (j :: js)).run P w = .ok (r && s) w := by
  rw [Op.eqItems]
  simp only [Sem.run_bind, ha, hb, he, Result.andThen_ok]
  cases r
  · simp
  · simpa using hr
theorem eqF_nil : (Op.eqFields d xs ys []).run P w = .ok true w := by simp [Op.eqFields]
theorem eqF_cons {f : Field} {fs : List Field} (hn : (f.name == "_") = false) (ha : (part f.type xs f.offset).run P w = .ok a w) (hb : (part f.type ys f.offset).run P w = .ok b w) (he : (Op.equalIn d f.type a b).run P w = .ok r w) (hr : (Op.eqFields d xs ys fs).run P w = .ok s w) : (Op.eqFields d xs ys (f :: fs)).run P w = .ok (r && s) w := by
  have hn' : f.name ≠ "_" := by simpa using hn
  rw [Op.eqFields]
  simp only [if_pos hn', Sem.run_bind, ha, hb, he, Result.andThen_ok]
  cases r
  · simp
  · simpa using hr
end
def eq9 (x y : Nat) : Bool := ((dg x 0 : Int) == (dg y 0 : Int)) && (((dg x 1 : Int) == (dg y 1 : Int)) && (((dg x 2 : Int) == (dg y 2 : Int)) && (((dg x 3 : Int) == (dg y 3 : Int)) && (((dg x 4 : Int) == (dg y 4 : Int)) && (((dg x 5 : Int) == (dg y 5 : Int)) && (((dg x 6 : Int) == (dg y 6 : Int)) && (((dg x 7 : Int) == (dg y 7 : Int)) && (((dg x 8 : Int) == (dg y 8 : Int)) && true))))))))
theorem eq9_iff {x y : Nat} (hx : x < 2 ^ 576) (hy : y < 2 ^ 576) : eq9 x y = decide (x = y) := by
  rw [Bool.eq_iff_iff, decide_eq_true_iff]
  constructor
  · intro h
    simp only [eq9, Bool.and_eq_true, beq_iff_eq, Bool.and_true] at h
    obtain ⟨h0, h1, h2, h3, h4, h5, h6, h7, h8⟩ := h
    refine eq_of_dg hx hy (fun j hj => ?_)
    have : j = 0 ∨ j = 1 ∨ j = 2 ∨ j = 3 ∨ j = 4 ∨ j = 5 ∨ j = 6 ∨ j = 7 ∨ j = 8 := by omega
    rcases this with rfl | rfl | rfl | rfl | rfl | rfl | rfl | rfl | rfl <;> omega
  · rintro rfl
    simp [eq9]
noncomputable abbrev ag9 (x : Nat) : Array Value := ((U9 x).map (Sc.den fun _ => 0)).toArray
theorem eq_arr (d x y : Nat) (w : World) : (Op.equalIn (d + 1 + 1) 35 (.agg (ag9 x)) (.agg (ag9 y))).run Try.prog w = .ok (eq9 x y) w := by
  rw [run_equalIn_array (P := Try.prog) w (d + 1) (t := 35) (e := 22) (n := 9) (i := (Try.prog.info? 22).getD default) (ag9 x) (ag9 y) (by kernel_rfl) (by kernel_rfl)]
  have he : ∀ j, (Op.equalIn (d + 1) 22 (.int .u64 (dg x j : Int)) (.int .u64 (dg y j : Int))).run Try.prog w = .ok ((dg x j : Int) == (dg y j : Int)) w := fun j => run_equalIn_int w d 22 .u64 .u64 _ _ (by kernel_rfl)
  exact eqI_cons (by kernel_rfl) (by kernel_rfl) (he 0) (eqI_cons (by kernel_rfl) (by kernel_rfl) (he 1) (eqI_cons (by kernel_rfl) (by kernel_rfl) (he 2) (eqI_cons (by kernel_rfl) (by kernel_rfl) (he 3) (eqI_cons (by kernel_rfl) (by kernel_rfl) (he 4) (eqI_cons (by kernel_rfl) (by kernel_rfl) (he 5) (eqI_cons (by kernel_rfl) (by kernel_rfl) (he 6) (eqI_cons (by kernel_rfl) (by kernel_rfl) (he 7) (eqI_cons (by kernel_rfl) (by kernel_rfl) (he 8) eqI_nil))))))))
noncomputable def fW : Field := (Try.prog.fieldsOf 37).toList.headD { name := "", type := 0, embedded := false, offset := 0, byteOffset := 0, tag := "", pkgPath := "" }
theorem fW_list : (Try.prog.fieldsOf 37).toList = [fW] := by kernel_rfl
theorem fW_name : (fW.name == "_") = false := by kernel_rfl
theorem fW_type : fW.type = 35 := by kernel_rfl
theorem fW_off : fW.offset = 0 := by kernel_rfl
theorem eq_nat (d x y : Nat) (hx : x < 2 ^ 576) (hy : y < 2 ^ 576) (w : World) : (Op.equalIn (d + 1 + 1 + 1) 37 (nv x) (nv y)).run Try.prog w = .ok (decide (x = y)) w := by
  rw [← eq9_iff hx hy]
  show (Op.equalIn (d + 1 + 1 + 1) 37 (.agg (ag9 x)) (.agg (ag9 y))).run Try.prog w = _
  rw [run_equalIn_struct (P := Try.prog) w (d + 1 + 1) 37 (ag9 x) (ag9 y) (by kernel_rfl) (by kernel_rfl)]
  have p1 : ∀ z, (part 35 (ag9 z) 0).run Try.prog w = .ok (.agg (ag9 z)) w := fun z => by kernel_rfl
  have h := eqF_cons (P := Try.prog) (d := d + 1 + 1) (xs := ag9 x) (ys := ag9 y) (f := fW) (fs := []) fW_name (a := .agg (ag9 x)) (b := .agg (ag9 y)) (by rw [fW_type, fW_off]; exact p1 x) (by rw [fW_type, fW_off]; exact p1 y) (by rw [fW_type]; exact eq_arr d x y w) eqF_nil
  rw [fW_list]
  rw [Bool.and_true] at h
  exact h
theorem eql_nat (x y : Nat) (hx : x < 2 ^ 576) (hy : y < 2 ^ 576) (w : World) : (binOp .eql 37 (nv x) (nv y)).run Try.prog w = .ok (.bool (decide (x = y))) w := by
  have h := run_eql_struct (P := Try.prog) w 37 (ag9 x) (ag9 y)
  have h2 := eq_nat 9997 x y hx hy w
  rw [show (9997 + 1 + 1 + 1 : Nat) = 10000 from rfl] at h2
  exact h.trans (by rw [show (Value.agg (ag9 x)) = nv x from rfl, show (Value.agg (ag9 y)) = nv y from rfl, h2]; rfl)
theorem neq_nat (x y : Nat) (hx : x < 2 ^ 576) (hy : y < 2 ^ 576) (w : World) : (binOp .neq 37 (nv x) (nv y)).run Try.prog w = .ok (.bool (!decide (x = y))) w := by
  have h := run_neq_struct (P := Try.prog) w 37 (ag9 x) (ag9 y)
  have h2 := eq_nat 9997 x y hx hy w
  rw [show (9997 + 1 + 1 + 1 : Nat) = 10000 from rfl] at h2
  exact h.trans (by rw [show (Value.agg (ag9 x)) = nv x from rfl, show (Value.agg (ag9 y)) = nv y from rfl, h2]; rfl)
theorem eqg_nat (op : BinOp) (ox oy : Operand) (x y : Nat) (w : World) : (eqGuard op 37 ox oy (nv x) (nv y)).run Try.prog w = .ok () w :=
  run_eqGuard_agg (P := Try.prog) w op 37 ox oy (ag9 x) (ag9 y) (by kernel_rfl)
section
variable {F : Fx} {B0 : Bs} {w0 : World} {ops : Array Oper} {o : Oper} {r : Row}
theorem te_nat {x y : Operand} {ty : TypeId} (a b : Nat) (ha : a < 2 ^ 576) (hb : b < 2 ^ 576) {c : Bool} (hc : (decide (a = b)) = c := by exact rfl) (hop : o.op = .binOp .eql 37 x y ty := by exact rfl) (hd : o.dst = r.dst := by exact rfl) (hg : o.guard = none := by exact rfl) (hk : known r.use o.op = true := by exact rfl) (hn : r.neu = [] := by exact rfl) (hp : r.puts = [] := by exact rfl) (hv : r.v = .s (.v (.bool c)) := by exact rfl)
    (hA : ∀ γ, envOf γ r.use x = nv a := by (intro γ; kernel_rfl)) (hB : ∀ γ, envOf γ r.use y = nv b := by (intro γ; kernel_rfl)) : Trip Try.prog F B0 w0 ops o r :=
  trip_eq .eql 37 ty x y (fun _ => nv a) (fun _ => nv b) c hop hd hg hk hn hp hA hB (fun γ w => eqg_nat _ _ _ _ _ w) (fun γ w => by rw [← hc]; exact eql_nat a b ha hb w) (fun γ => by rw [hv]; rfl)
theorem te_natn {x y : Operand} {ty : TypeId} (a b : Nat) (ha : a < 2 ^ 576) (hb : b < 2 ^ 576) {c : Bool} (hc : (!decide (a = b)) = c := by exact rfl) (hop : o.op = .binOp .neq 37 x y ty := by exact rfl) (hd : o.dst = r.dst := by exact rfl) (hg : o.guard = none := by exact rfl) (hk : known r.use o.op = true := by exact rfl) (hn : r.neu = [] := by exact rfl) (hp : r.puts = [] := by exact rfl) (hv : r.v = .s (.v (.bool c)) := by exact rfl)
    (hA : ∀ γ, envOf γ r.use x = nv a := by (intro γ; kernel_rfl)) (hB : ∀ γ, envOf γ r.use y = nv b := by (intro γ; kernel_rfl)) : Trip Try.prog F B0 w0 ops o r :=
  trip_eq .neq 37 ty x y (fun _ => nv a) (fun _ => nv b) c hop hd hg hk hn hp hA hB (fun γ w => eqg_nat _ _ _ _ _ w) (fun γ w => by rw [← hc]; exact neq_nat a b ha hb w) (fun γ => by rw [hv]; rfl)
end
end Go.Proofs.Ytddfimfgcfgpbaa
namespace Go.Proofs.Ytddfimfgcfgpbaa
open Sx
open Go.RowKit (Below)
def byt (s : ByteArray) (i : Nat) : Nat := ((s[i]?).getD 0).toNat
theorem byt_lt (s : ByteArray) (i : Nat) : byt s i < 256 := UInt8.toNat_lt _
section
variable {P : Program} {F : Fx} {B0 : Bs} {w0 : World} {ops : Array Oper} {o : Oper} {r : Row}
def StrT (P : Program) (ty : Nat) : Prop := P.underlying ty = some .string
theorem trip_index (x y : Operand) (s : ByteArray) (i ty : Nat) (hop : o.op = .index ty x y) (hd : o.dst = r.dst) (hg : o.guard = none) (hk : known r.use o.op = true) (hn : r.neu = []) (hp : r.puts = [])
    (hx : ∀ γ, envOf γ r.use x = .string s) (hy : ∀ γ, envOf γ r.use y = .int .i64 (i : Int)) (hT : StrT P ty) (hlt : i < s.size) (hv : r.v = .s (inN .u8 (byt s i))) : Trip P F B0 w0 ops o r :=
  trip_pure hd hg hk hn hp (fun γ w => by
    have h1 : (0 : Int) ≤ (i : Int) := by omega
    have h2 : s[i]? = some s[i] := by simp [hlt]
    simp only [execOp, hop, hx γ, hy γ]
    simp [Instr.index, asIntOf, run_underlying hT, h2, hv, SV.den, Sc.den, byt])
end
section
variable {P : Program} {F : Fx} {B0 : Bs} {w0 : World} {ops : Array Oper} {o : Oper} {r : Row}
theorem tix {x y : Operand} {s : ByteArray} {i ty : Nat} (hT : StrT P ty) (hop : o.op = .index ty x y := by exact rfl) (hd : o.dst = r.dst := by exact rfl) (hg : o.guard = none := by exact rfl) (hk : known r.use o.op = true := by exact rfl) (hn : r.neu = [] := by exact rfl) (hp : r.puts = [] := by exact rfl) (hv : r.v = .s (.v (.int .u8 (byt s i : Int))) := by exact rfl)
    (hx : ∀ γ, envOf γ r.use x = .string s := by (intro γ; kernel_rfl)) (hy : ∀ γ, envOf γ r.use y = .int .i64 (i : Int) := by (intro γ; kernel_rfl)) (hlt : i < s.size := by omega) : Trip P F B0 w0 ops o r := trip_index x y s i ty hop hd hg hk hn hp hx hy hT hlt hv
end
theorem wu8_sub (a b : Nat) (h : b ≤ 256) : Value.int .u8 (IntKind.u8.wrap ((a : Int) - (b : Int))) = Value.int .u8 (((a + (256 - b)) % 256 : Nat) : Int) := by
  congr 1; rw [IntKind.wrap_u8]; omega
theorem d_eqi (a b : Int) : Value.bool (a == b) = Value.bool (decide (a = b)) := by
  congr 1
end Go.Proofs.Ytddfimfgcfgpbaa
namespace Go.Proofs.Ytddfimfgcfgpbaa
open Sx
open Go.RowKit (Below)
def Ent.over (E : Ent) (γ : Nat → Nat) : Nat → Nat := fun j => (lk (Ent.fx E) j).getD (γ j)
def Ent.Ge (n : Nat) : Ent → Prop
  | [] => True
  | e :: r => n ≤ e.2.1 ∧ Ent.Ge n r
theorem Ent.Ge.get {n : Nat} : ∀ {E : Ent}, Ent.Ge n E → ∀ e ∈ E, n ≤ e.2.1
  | [], _, _, h => by cases h
  | d :: r, ⟨h1, h2⟩, e, h => by
    rcases List.mem_cons.1 h with rfl | h
    · exact h1
    · exact Ent.Ge.get h2 e h
theorem Ent.apart2 {k1 k2 g1 g2 T1 T2 : Nat} {l1 l2 : List Sc} (h : g1 ≠ g2) : Ent.Apart [(k1, g1, (.sc l1, T1)), (k2, g2, (.sc l2, T2))] :=
  ⟨fun d hd => by
    simp only [List.mem_singleton] at hd
    rw [hd]; exact aparts_cells rfl rfl h, ⟨(fun _ h => by cases h), trivial⟩⟩
theorem Ent.apart3 {k1 k2 k3 g1 g2 g3 T1 T2 T3 : Nat} {l1 l2 l3 : List Sc} (h12 : g1 ≠ g2) (h13 : g1 ≠ g3) (h23 : g2 ≠ g3) : Ent.Apart [(k1, g1, (.sc l1, T1)), (k2, g2, (.sc l2, T2)), (k3, g3, (.sc l3, T3))] :=
  ⟨fun d hd => by
    simp only [List.mem_cons, List.not_mem_nil, or_false] at hd
    rcases hd with rfl | rfl
    · exact aparts_cells rfl rfl h12
    · exact aparts_cells rfl rfl h13, Ent.apart2 h23⟩
def Ent.nonum (E : Ent) : Bool := E.all fun e => !e.2.2.isNum
theorem Eff.freshE {γ : Nat → Nat} {w w' : World} {r : Row} (E : Ent) (hn : r.neu = Ent.bl E) (hp : r.puts = []) (hnd : nodupK (Ent.fx E) = true) (hnn : Ent.nonum E = true) (hs : Ent.Ge w.heap.size E) (ha : Ent.Apart E) (hb : Below w.heap.size w w') (hh : Ent.At (Ent.over E γ) w' E) : Eff γ (Ent.over E γ) w w' r := by
  obtain ⟨b1, b2, b3, b4, b5⟩ := hb
  have key : ∀ k c, lk r.neu k = some c → ∃ g, (k, g, c) ∈ E ∧ Ent.over E γ k = g := fun k c h => by
    rw [hn] at h
    obtain ⟨g, hm, hl⟩ := Ent.mem_of_M h
    exact ⟨g, hm, by simp [Ent.over, hl]⟩
  refine ⟨b1, b2, b3, b4, ?_, ?_, ?_, ?_, fun j hj _ => b5 j hj⟩
  · intro k hk
    rw [hn] at hk
    have : lk (Ent.fx E) k = none := by
      unfold Ent.bl at hk
      rw [show E.map (fun e => (e.1, e.2.2)) = E.map (fun e => (e.1, (fun x : Nat × Ct => x.2) e.2)) from rfl, lk_map_snd] at hk
      unfold Ent.fx
      rw [show E.map (fun e => (e.1, e.2.1)) = E.map (fun e => (e.1, (fun x : Nat × Ct => x.1) e.2)) from rfl, lk_map_snd]
      cases h : lk E k with
      | none => rfl
      | some x => rw [h] at hk; cases hk
    simp [Ent.over, this]
  · intro k c h
    obtain ⟨g, hm, hg⟩ := key k c h
    have hN : c.isNum = false := by simpa using List.all_eq_true.1 hnn _ hm
    rw [hg]
    exact ⟨hh.get _ hm, fun j hj => .inl (by rw [(Ct.ft_eq hN).1 hj]; exact hs.get _ hm)⟩
  · intro k k' c c' h h' hN hne
    obtain ⟨g, hm, hg⟩ := key k c h
    obtain ⟨g', hm', hg'⟩ := key k' c' h'
    rw [hg, hg']
    exact (Ent.Apart.get ha hnd _ hm _ hm' hne).1 hN
  · intro k c h; rw [hp] at h; cases h
end Go.Proofs.Ytddfimfgcfgpbaa
namespace Go.Proofs.Ytddfimfgcfgpbaa
open Sx
open Go.RowKit (Below)
set_option exponentiation.threshold 2000
noncomputable abbrev agP (x y : Nat) (i : Bool) : Array Value := ((U9 x ++ U9 y ++ [bo i]).map (Sc.den fun _ => 0)).toArray
noncomputable abbrev pv (x y : Nat) (i : Bool) : Value := .agg (agP x y i)
def eqP (x y : Nat) (i : Bool) (x' y' : Nat) (i' : Bool) : Bool := decide (x = x') && (decide (y = y') && ((i == i') && true))
noncomputable def fPt : List Field := (Try.prog.fieldsOf 45).toList
noncomputable def fP (k : Nat) : Field := fPt.getD k { name := "", type := 0, embedded := false, offset := 0, byteOffset := 0, tag := "", pkgPath := "" }
theorem fP_list : (Try.prog.fieldsOf 45).toList = [fP 0, fP 1, fP 2] := by kernel_rfl
theorem fP_0 : ((fP 0).name == "_") = false ∧ (fP 0).type = 37 ∧ (fP 0).offset = 0 := ⟨by kernel_rfl, by kernel_rfl, by kernel_rfl⟩
theorem fP_1 : ((fP 1).name == "_") = false ∧ (fP 1).type = 37 ∧ (fP 1).offset = 9 := ⟨by kernel_rfl, by kernel_rfl, by kernel_rfl⟩
theorem fP_2 : ((fP 2).name == "_") = false ∧ (fP 2).type = 4 ∧ (fP 2).offset = 18 := ⟨by kernel_rfl, by kernel_rfl, by kernel_rfl⟩
theorem eq_point (d x y x' y' : Nat) (i i' : Bool) (hx : x < 2 ^ 576) (hy : y < 2 ^ 576) (hx' : x' < 2 ^ 576) (hy' : y' < 2 ^ 576) (w : World) : (Op.equalIn (d + 1 + 1 + 1 + 1) 45 (pv x y i) (pv x' y' i')).run Try.prog w = .ok (eqP x y i x' y' i') w := by
  rw [run_equalIn_struct (P := Try.prog) w (d + 1 + 1 + 1) 45 (agP x y i) (agP x' y' i') (by kernel_rfl) (by kernel_rfl), fP_list]
  have p0 : ∀ a b c, (part 37 (agP a b c) 0).run Try.prog w = .ok (nv a) w := fun a b c => by kernel_rfl
  have p1 : ∀ a b c, (part 37 (agP a b c) 9).run Try.prog w = .ok (nv b) w := fun a b c => by kernel_rfl
  have p2 : ∀ a b c, (part 4 (agP a b c) 18).run Try.prog w = .ok (.bool c) w := fun a b c => by kernel_rfl
  exact eqF_cons fP_0.1 (by rw [fP_0.2.1, fP_0.2.2]; exact p0 x y i) (by rw [fP_0.2.1, fP_0.2.2]; exact p0 x' y' i') (by rw [fP_0.2.1]; exact eq_nat d x x' hx hx' w)
    (eqF_cons fP_1.1 (by rw [fP_1.2.1, fP_1.2.2]; exact p1 x y i) (by rw [fP_1.2.1, fP_1.2.2]; exact p1 x' y' i') (by rw [fP_1.2.1]; exact eq_nat d y y' hy hy' w)
      (eqF_cons fP_2.1 (by rw [fP_2.2.1, fP_2.2.2]; exact p2 x y i) (by rw [fP_2.2.1, fP_2.2.2]; exact p2 x' y' i') (by rw [fP_2.2.1]; exact run_equalIn_bool' w (d + 1 + 1) 4 i i' (by kernel_rfl)) eqF_nil))
theorem eql_point (x y x' y' : Nat) (i i' : Bool) (hx : x < 2 ^ 576) (hy : y < 2 ^ 576) (hx' : x' < 2 ^ 576) (hy' : y' < 2 ^ 576) (w : World) : (binOp .eql 45 (pv x y i) (pv x' y' i')).run Try.prog w = .ok (.bool (eqP x y i x' y' i')) w := by
  have h := run_eql_struct (P := Try.prog) w 45 (agP x y i) (agP x' y' i')
  have h2 := eq_point 9996 x y x' y' i i' hx hy hx' hy' w
  rw [show (9996 + 1 + 1 + 1 + 1 : Nat) = 10000 from rfl] at h2
  exact h.trans (by rw [h2]; rfl)
theorem eqg_point (op : BinOp) (ox oy : Operand) (xs ys : Array Value) (w : World) : (eqGuard op 45 ox oy (.agg xs) (.agg ys)).run Try.prog w = .ok () w :=
  run_eqGuard_agg (P := Try.prog) w op 45 ox oy xs ys (by kernel_rfl)
section
variable {F : Fx} {B0 : Bs} {w0 : World} {ops : Array Oper} {o : Oper} {r : Row}
theorem te_pt {x y : Operand} {ty : TypeId} (a b a' b' : Nat) (i i' : Bool) (ha : a < 2 ^ 576) (hb : b < 2 ^ 576) (ha' : a' < 2 ^ 576) (hb' : b' < 2 ^ 576) {c : Bool} (hc : (eqP a b i a' b' i') = c := by exact rfl) (hop : o.op = .binOp .eql 45 x y ty := by exact rfl) (hd : o.dst = r.dst := by exact rfl) (hg : o.guard = none := by exact rfl) (hk : known r.use o.op = true := by exact rfl) (hn : r.neu = [] := by exact rfl) (hp : r.puts = [] := by exact rfl) (hv : r.v = .s (.v (.bool c)) := by exact rfl)
    (hA : ∀ γ, envOf γ r.use x = pv a b i := by (intro γ; kernel_rfl)) (hB : ∀ γ, envOf γ r.use y = pv a' b' i' := by (intro γ; kernel_rfl)) : Trip Try.prog F B0 w0 ops o r :=
  trip_eq .eql 45 ty x y (fun _ => pv a b i) (fun _ => pv a' b' i') c hop hd hg hk hn hp hA hB (fun γ w => eqg_point _ _ _ _ _ w) (fun γ w => by rw [← hc]; exact eql_point a b a' b' i i' ha hb ha' hb' w) (fun γ => by rw [hv]; rfl)
end
end Go.Proofs.Ytddfimfgcfgpbaa
