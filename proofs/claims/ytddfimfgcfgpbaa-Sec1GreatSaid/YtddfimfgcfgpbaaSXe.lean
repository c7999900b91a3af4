/-
  Inverses modulo a number, by the rests of a division.
-/
import Derived.Test.YtddfimfgcfgpbaaSSx
namespace Go.Proofs.Ytddfimfgcfgpbaa
noncomputable def invm (a m : Nat) : Nat := by
  classical exact if h : ∃ x, x < m ∧ a * x % m = 1 then h.choose else 0
theorem invm_eq {a m x : Nat} (hg : Nat.gcd a m = 1) (hx : x < m) (h : a * x % m = 1) : invm a m = x := by
  have he : ∃ x, x < m ∧ a * x % m = 1 := ⟨x, hx, h⟩
  have h1 : invm a m = he.choose := by unfold invm; rw [dif_pos he]
  obtain ⟨h2, h3⟩ := he.choose_spec
  rw [h1]
  generalize he.choose = y at *
  have key : ∀ u v : Nat, u < m → v < m → u ≤ v → a * u % m = a * v % m → u = v := by
    intro u v hu hv huv e
    have h4 : m ∣ a * v - a * u := Nat.dvd_of_mod_eq_zero (Nat.sub_mod_eq_zero_of_mod_eq e.symm)
    rw [← Nat.mul_sub] at h4
    have h5 : m ∣ v - u := Nat.Coprime.dvd_of_dvd_mul_left (by rw [Nat.Coprime, Nat.gcd_comm]; exact hg) h4
    rcases Nat.eq_zero_or_pos (v - u) with h6 | h6
    · omega
    · have := Nat.le_of_dvd h6 h5; omega
  rcases Nat.le_total y x with h4 | h4
  · exact key y x h2 hx h4 (h3.trans h.symm)
  · exact (key x y hx h2 h4 (h.trans h3.symm)).symm
def sbm (m s l : Nat) : Nat := if s < l then s + m - l else s - l
structure InvI (a m o n s t : Nat) : Prop where
  ho : (m : Int) ∣ (s : Int) * a - o
  hn : (m : Int) ∣ (t : Int) * a - n
  g : Nat.gcd o n = 1
  o1 : o ≤ m
  n1 : n ≤ m
  s1 : s < m
  t1 : t < m
theorem invI_start {a m : Nat} (hm : 1 < m) (hg : Nat.gcd a m = 1) : InvI a m m (a % m) 0 1 := by
  refine ⟨⟨-1, by simp⟩, ⟨(a / m : Nat), ?_⟩, ?_, Nat.le_refl _, Nat.le_of_lt (Nat.mod_lt _ (by omega)), by omega, hm⟩
  · have := Nat.div_add_mod a m
    have h : (a : Int) = (m : Int) * ((a / m : Nat) : Int) + ((a % m : Nat) : Int) := by rw [← Int.natCast_mul, ← Int.natCast_add, this]
    generalize ((a / m : Nat) : Int) = q at *
    generalize ((a % m : Nat) : Int) = r at *
    omega
  · rw [Nat.gcd_comm, ← Nat.gcd_rec, Nat.gcd_comm]; exact hg
theorem invI_step {a m o n s t : Nat} (h0 : ¬ n = 0) (hm : 0 < m) (h : InvI a m o n s t) : InvI a m n (o % n) t (sbm m s (o / n * t % m)) := by
  obtain ⟨⟨k1, e1⟩, ⟨k2, e2⟩, g, o1, n1, s1, t1⟩ := h
  have hl : o / n * t % m < m := Nat.mod_lt _ hm
  have e3 := Nat.div_add_mod (o / n * t) m
  have e4 := Nat.div_add_mod o n
  refine ⟨⟨k2, e2⟩, ?_, ?_, n1, Nat.le_trans (Nat.le_of_lt (Nat.mod_lt _ (by omega))) n1, t1, ?_⟩
  · obtain ⟨e, he⟩ : ∃ e : Int, ((sbm m s (o / n * t % m) : Nat) : Int) = (s : Int) - ((o / n * t % m : Nat) : Int) + (m : Int) * e := by
      unfold sbm
      split
      · exact ⟨1, by omega⟩
      · exact ⟨0, by omega⟩
    refine ⟨k1 - ((o / n : Nat) : Int) * k2 + (((o / n * t / m : Nat) : Int) + e) * a, ?_⟩
    rw [he]
    have e3' : (m : Int) * ((o / n * t / m : Nat) : Int) + ((o / n * t % m : Nat) : Int) = ((o / n : Nat) : Int) * t := by rw [← Int.natCast_mul, ← Int.natCast_mul, ← Int.natCast_add, e3]
    have e4' : (n : Int) * ((o / n : Nat) : Int) + ((o % n : Nat) : Int) = o := by rw [← Int.natCast_mul, ← Int.natCast_add, e4]
    generalize ((o / n * t / m : Nat) : Int) = c at *
    generalize ((o / n * t % m : Nat) : Int) = l at *
    generalize ((o / n : Nat) : Int) = q at *
    generalize ((o % n : Nat) : Int) = r at *
    grind
  · rw [Nat.gcd_comm, ← Nat.gcd_rec, Nat.gcd_comm]; exact g
  · unfold sbm; split <;> omega
theorem invI_end {a m o n s t : Nat} (hm : 1 < m) (h0 : n = 0) (h : InvI a m o n s t) (hg : Nat.gcd a m = 1) : o = 1 ∧ s = invm a m := by
  subst h0
  have h1 : o = 1 := by have := h.g; simpa using this
  subst h1
  refine ⟨rfl, (invm_eq hg h.s1 ?_).symm⟩
  obtain ⟨k, hk⟩ := h.ho
  have h2 : ((a * s : Nat) : Int) = (m : Int) * k + 1 := by rw [Int.natCast_mul, Int.mul_comm]; omega
  have h3 : ((a * s % m : Nat) : Int) = 1 := by
    rw [Int.natCast_emod, h2, Int.mul_add_emod_self_left]
    exact Int.emod_eq_of_lt (by decide) (by omega)
  omega
theorem invm_lt {a p : Nat} (hp : 0 < p) : invm a p < p := by
  unfold invm
  split
  · next h => exact h.choose_spec.1
  · exact hp
theorem sbm_mod {m s l : Nat} (hs : s < m) (hl : l < m) : (s + m - l) % m = sbm m s l := by
  unfold sbm
  split
  · exact Nat.mod_eq_of_lt (by omega)
  · rw [show s + m - l = s - l + m by omega, Nat.add_mod_right, Nat.mod_eq_of_lt (by omega)]
end Go.Proofs.Ytddfimfgcfgpbaa
