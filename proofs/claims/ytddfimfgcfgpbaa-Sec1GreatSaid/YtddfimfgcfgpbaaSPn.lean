/-
  Primes: small ones by trial, great ones by certificates.
  The primes of the curves.
-/
namespace CvPrm
def Pr (p : Nat) : Prop := 2 ≤ p ∧ ∀ d, d ∣ p → d = 1 ∨ d = p
theorem gcd_of_not {p x : Nat} (hp : Pr p) (h : ¬ p ∣ x) : Nat.gcd x p = 1 := by
  rcases hp.2 _ (Nat.gcd_dvd_right x p) with h1 | h1
  · exact h1
  · exact absurd (h1 ▸ Nat.gcd_dvd_left x p) h
theorem euclid {p a b : Nat} (hp : Pr p) (h : p ∣ a * b) : p ∣ a ∨ p ∣ b := by
  by_cases ha : p ∣ a
  · exact .inl ha
  · have : Nat.Coprime p a := by rw [Nat.coprime_comm]; exact gcd_of_not hp ha
    exact .inr (this.dvd_of_dvd_mul_left h)
def ch : Nat → Nat → Nat
  | _, 0 => 1
  | 0, _ + 1 => 0
  | n + 1, k + 1 => ch n k + ch n (k + 1)
theorem ch_zero (n : Nat) : ch n 0 = 1 := by cases n <;> rfl
theorem ch_lt : ∀ {n k : Nat}, n < k → ch n k = 0
  | 0, k + 1, _ => rfl
  | n + 1, k + 1, h => by rw [ch, ch_lt (by omega), ch_lt (by omega)]
theorem ch_self : ∀ n : Nat, ch n n = 1
  | 0 => rfl
  | n + 1 => by rw [ch, ch_self n, ch_lt (by omega)]
theorem ch_mul : ∀ n k : Nat, (k + 1) * ch (n + 1) (k + 1) = (n + 1) * ch n k
  | 0, 0 => rfl
  | 0, k + 1 => by rw [ch_lt (by omega), ch_lt (by omega)]; simp
  | n + 1, 0 => by
    have := ch_mul n 0
    rw [ch_zero] at this
    rw [show ch (n + 1 + 1) (0 + 1) = ch (n + 1) 0 + ch (n + 1) (0 + 1) from rfl, ch_zero, Nat.mul_add, this]
    omega
  | n + 1, k + 1 => by
    have h1 := ch_mul n k
    have h2 := ch_mul n (k + 1)
    rw [ch]
    have e : ch (n + 1) (k + 1) = ch n k + ch n (k + 1) := rfl
    grind
def bsum (c : Nat → Nat) (a : Nat) : Nat → Nat
  | 0 => 0
  | m + 1 => bsum c a m + c m * a ^ m
theorem bsum_step (n a : Nat) : ∀ m, (a + 1) * bsum (ch n) a m = bsum (ch (n + 1)) a m + (match m with | 0 => 0 | k + 1 => ch n k * a ^ (k + 1))
  | 0 => by simp [bsum]
  | 1 => by simp [bsum, ch_zero]; omega
  | m + 2 => by
    have h := bsum_step n a (m + 1)
    simp only at h ⊢
    rw [show bsum (ch n) a (m + 2) = bsum (ch n) a (m + 1) + ch n (m + 1) * a ^ (m + 1) from rfl, Nat.mul_add, h]
    rw [show bsum (ch (n + 1)) a (m + 2) = bsum (ch (n + 1)) a (m + 1) + ch (n + 1) (m + 1) * a ^ (m + 1) from rfl]
    have e : ch (n + 1) (m + 1) = ch n m + ch n (m + 1) := rfl
    rw [e]
    have e2 : a ^ (m + 1 + 1) = a ^ (m + 1) * a := Nat.pow_succ ..
    rw [e2]
    grind
theorem binom (a n : Nat) : (a + 1) ^ n = bsum (ch n) a (n + 1) := by
  induction n with
  | zero => simp [bsum, ch]
  | succ n ih =>
    rw [Nat.pow_succ, ih, Nat.mul_comm, bsum_step]
    simp only
    rw [bsum.eq_2 (ch (n+1)) a (n+1), ch_self, ch_self]
theorem bsum_mod (p a : Nat) (c : Nat → Nat) : ∀ m, (∀ k, 0 < k → k < m → p ∣ c k) → 0 < m → bsum c a m % p = c 0 % p
  | 0, _, h => by omega
  | 1, _, _ => by simp [bsum]
  | m + 2, h, _ => by
    rw [bsum, Nat.add_mod, bsum_mod p a c (m + 1) (fun k h0 h1 => h k h0 (by omega)) (by omega)]
    have : c (m + 1) * a ^ (m + 1) % p = 0 := Nat.mod_eq_zero_of_dvd (Nat.dvd_mul_right_of_dvd (h _ (by omega) (by omega)) _)
    rw [this]; simp
theorem fermat {p : Nat} (hp : Pr p) (a : Nat) : a ^ p % p = a % p := by
  have h2 := hp.1
  induction a with
  | zero => rw [Nat.zero_pow (by omega)]
  | succ a ih =>
    rw [binom, bsum, ch_self, Nat.add_mod, bsum_mod p a (ch p) p]
    · rw [ch_zero, Nat.one_mul, ih, ← Nat.add_mod, Nat.add_comm]
    · intro k h0 h1
      obtain ⟨k, rfl⟩ : ∃ m, k = m + 1 := ⟨k - 1, by omega⟩
      obtain ⟨n, rfl⟩ : ∃ m, p = m + 1 := ⟨p - 1, by omega⟩
      have h := ch_mul n k
      rcases euclid hp ⟨_, h⟩ with g | g
      · have := Nat.le_of_dvd (by omega) g; omega
      · exact g
    · omega
theorem fermat1 {p a : Nat} (hp : Pr p) (h : ¬ p ∣ a) : a ^ (p - 1) % p = 1 := by
  have h2 := hp.1
  have hf := fermat hp a
  obtain ⟨n, rfl⟩ : ∃ m, p = m + 1 := ⟨p - 1, by omega⟩
  rw [Nat.add_sub_cancel]
  have hpos : 0 < a := Nat.pos_of_ne_zero fun e => h (e ▸ Nat.dvd_zero _)
  have hd : (n + 1) ∣ a * (a ^ n - 1) := by
    rw [Nat.mul_sub, Nat.mul_one, Nat.mul_comm, ← Nat.pow_succ]
    exact Nat.dvd_of_mod_eq_zero (Nat.sub_mod_eq_zero_of_mod_eq hf)
  rcases euclid hp hd with g | g
  · exact absurd g h
  · obtain ⟨k, hk⟩ := g
    have h1 : 1 ≤ a ^ n := Nat.pow_pos hpos
    have : a ^ n = 1 + (n + 1) * k := by omega
    rw [this, Nat.add_mul_mod_self_left]
    exact Nat.mod_eq_of_lt (by omega)
def powm (a n : Nat) : Nat → Nat → Nat
  | 0, _ => 1 % n
  | f + 1, e => let s := powm a n f (e / 2); cond (Nat.beq (e % 2) 1) (s * s % n * a % n) (s * s % n)
theorem powm_eq (a n : Nat) : ∀ f e : Nat, e < 2 ^ f → powm a n f e = a ^ e % n
  | 0, e, h => by
    obtain rfl : e = 0 := by simpa using h
    rfl
  | f + 1, e, h => by
    have ih := powm_eq a n f (e / 2) (by rw [Nat.pow_succ] at h; omega)
    simp only [powm, ih]
    have hs : a ^ (e / 2) % n * (a ^ (e / 2) % n) % n = a ^ (e / 2 + e / 2) % n := by rw [← Nat.mul_mod, ← Nat.pow_add]
    rw [hs]
    by_cases h1 : e % 2 = 1
    · rw [h1]
      show a ^ (e / 2 + e / 2) % n * a % n = _
      rw [Nat.mod_mul_mod, ← Nat.pow_succ]
      congr 2; omega
    · rw [show e % 2 = 0 by omega]
      show a ^ (e / 2 + e / 2) % n = _
      congr 2; omega
theorem pow_one_gcd (a r : Nat) (m n : Nat) (hm : a ^ m % r = 1 % r) (hn : a ^ n % r = 1 % r) : a ^ (Nat.gcd m n) % r = 1 % r := by
  induction m, n using Nat.gcd.induction with
  | H0 n => simpa using hn
  | H1 m n h ih =>
    rw [Nat.gcd_rec]
    refine ih ?_ hm
    have e : a ^ n = (a ^ m) ^ (n / m) * a ^ (n % m) := by rw [← Nat.pow_mul, ← Nat.pow_add, Nat.div_add_mod]
    rw [e, Nat.mul_mod, Nat.pow_mod, hm, ← Nat.pow_mod, Nat.one_pow, ← Nat.mul_mod, Nat.one_mul] at hn
    exact hn
theorem pp_dvd {q : Nat} (hq : Pr q) : ∀ (e h : Nat), h ∣ q ^ (e + 1) → ¬ h ∣ q ^ e → h = q ^ (e + 1) := by
  intro e h hd hn
  obtain ⟨k, hk⟩ := hd
  by_cases hqk : q ∣ k
  · obtain ⟨k', rfl⟩ := hqk
    exfalso; apply hn
    refine ⟨k', ?_⟩
    have h2 := hq.1
    have : q * q ^ e = q * (h * k') := by rw [Nat.mul_comm, ← Nat.pow_succ, hk]; grind
    exact Nat.eq_of_mul_eq_mul_left (by omega) this
  · have hc : Nat.Coprime k (q ^ (e + 1)) := Nat.Coprime.pow_right _ (gcd_of_not hq hqk)
    have : k = 1 := by
      have h1 : k ∣ q ^ (e + 1) := ⟨h, by rw [hk, Nat.mul_comm]⟩
      have := Nat.gcd_eq_left h1
      rw [hc] at this; exact this.symm
    rw [hk, this, Nat.mul_one]
theorem pock1 {n a q e r : Nat} (hq : Pr q) (hr : Pr r) (hrn : r ∣ n) (hn : 1 < n) (hd : q ^ (e + 1) ∣ n - 1) (h1 : a ^ (n - 1) % n = 1)
    (h2 : Nat.gcd (a ^ ((n - 1) / q) % n + n - 1) n = 1) : q ^ (e + 1) ∣ r - 1 := by
  have hr2 := hr.1
  have h1r : a ^ (n - 1) % r = 1 % r := by rw [← Nat.mod_mod_of_dvd _ hrn, h1]
  have hra : ¬ r ∣ a := by
    intro h
    have : r ∣ a ^ (n - 1) := Nat.dvd_trans h (by rw [show n - 1 = (n - 2) + 1 by omega, Nat.pow_succ]; exact Nat.dvd_mul_left a _)
    have := Nat.mod_eq_zero_of_dvd this
    rw [h1r, Nat.mod_eq_of_lt (by omega)] at this
    omega
  obtain ⟨m, hm⟩ := hd
  have hb1 : (a ^ m) ^ (q ^ (e + 1)) % r = 1 % r := by rw [← Nat.pow_mul, Nat.mul_comm, ← hm, h1r]
  have hb2 : (a ^ m) ^ (r - 1) % r = 1 % r := by
    rw [fermat1 hr (fun h => ?_), Nat.mod_eq_of_lt (by omega)]
    have : ∀ m, r ∣ a ^ m → r ∣ a := by
      intro m
      induction m with
      | zero => intro h; rw [Nat.pow_zero] at h; have := Nat.le_of_dvd (by omega) h; omega
      | succ m ih =>
        intro h
        rcases euclid hr h with g | g
        · exact ih g
        · exact g
    exact hra (this m h)
  have hg := pow_one_gcd _ r _ _ hb1 hb2
  have hnd : ¬ Nat.gcd (q ^ (e + 1)) (r - 1) ∣ q ^ e := by
    rintro ⟨k, hk⟩
    have hx : a ^ ((n - 1) / q) % r = 1 % r := by
      have e1 : (n - 1) / q = m * q ^ e := by
        rw [hm, Nat.pow_succ]
        have : q ^ e * q * m = q * (m * q ^ e) := by grind
        rw [this, Nat.mul_div_cancel_left _ (by have := hq.1; omega)]
      rw [e1, Nat.pow_mul, hk, Nat.pow_mul, Nat.pow_mod, hg, ← Nat.pow_mod, Nat.one_pow]
    have hy : r ∣ a ^ ((n - 1) / q) % n + n - 1 := by
      have h3 : (a ^ ((n - 1) / q) % n) % r = 1 % r := by rw [Nat.mod_mod_of_dvd _ hrn, hx]
      have h4 : (a ^ ((n - 1) / q) % n + n) % r = 1 % r := by
        rw [Nat.add_mod, h3, Nat.mod_eq_zero_of_dvd hrn, Nat.add_zero, Nat.mod_mod]
      exact Nat.dvd_of_mod_eq_zero (Nat.sub_mod_eq_zero_of_mod_eq h4)
    have := Nat.dvd_gcd hy hrn
    rw [h2] at this
    have := Nat.le_of_dvd (by omega) this
    omega
  have := pp_dvd hq e _ (Nat.gcd_dvd_left _ _) hnd
  rw [← this]
  exact Nat.gcd_dvd_right _ _
structure PF where
  q : Nat
  e : Nat
  a : Nat
def prodF : List PF → Nat
  | [] => 1
  | f :: l => f.q ^ (f.e + 1) * prodF l
def checkF (n fuel : Nat) : List PF → Bool
  | [] => true
  | f :: l => Nat.beq ((n - 1) % f.q ^ (f.e + 1)) 0 && (Nat.beq (powm f.a n fuel (n - 1)) 1 && (Nat.beq (Nat.gcd (powm f.a n fuel ((n - 1) / f.q) + n - 1) n) 1 && (Nat.beq (Nat.gcd (f.q ^ (f.e + 1)) (prodF l)) 1 && checkF n fuel l)))
theorem pockF {n fuel r : Nat} (hf : n < 2 ^ fuel) (hn : 1 < n) (hr : Pr r) (hrn : r ∣ n) : ∀ l : List PF, (∀ f ∈ l, Pr f.q) → checkF n fuel l = true → prodF l ∣ r - 1
  | [], _, _ => ⟨r - 1, by rw [prodF, Nat.one_mul]⟩
  | f :: l, hq, hc => by
    simp only [checkF, Bool.and_eq_true] at hc
    obtain ⟨h1, h2, h3, h4, h5⟩ := hc
    have ih := pockF hf hn hr hrn l (fun g hg => hq g (List.mem_cons_of_mem _ hg)) h5
    have e1 := Nat.eq_of_beq_eq_true h1
    have e2 := Nat.eq_of_beq_eq_true h2
    have e3 := Nat.eq_of_beq_eq_true h3
    have e4 := Nat.eq_of_beq_eq_true h4
    rw [powm_eq _ _ _ _ (by omega)] at e2
    rw [powm_eq _ _ _ _ (Nat.lt_of_le_of_lt (Nat.div_le_self _ _) (by omega))] at e3
    exact Nat.Coprime.mul_dvd_of_dvd_of_dvd e4 (pock1 (hq f (List.mem_cons_self ..)) hr hrn hn (Nat.dvd_of_mod_eq_zero e1) e2 e3) ih
theorem least_factor {n : Nat} (hn : 1 < n) (h : ¬ Pr n) : ∃ r, Pr r ∧ r ∣ n ∧ r * r ≤ n := by
  have hex : ∃ d, 2 ≤ d ∧ d ∣ n := ⟨n, hn, Nat.dvd_refl n⟩
  have key : ∀ k, (∀ d, d < k → ¬ (2 ≤ d ∧ d ∣ n)) ∨ ∃ d, (2 ≤ d ∧ d ∣ n) ∧ ∀ d', d' < d → ¬ (2 ≤ d' ∧ d' ∣ n) := by
    intro k
    induction k with
    | zero => exact .inl fun d hd => by omega
    | succ k ih =>
      rcases ih with h1 | h1
      · by_cases hk : 2 ≤ k ∧ k ∣ n
        · exact .inr ⟨k, hk, h1⟩
        · refine .inl fun d hd => ?_
          by_cases e : d = k
          · subst e; exact hk
          · exact h1 d (by omega)
      · exact .inr h1
  obtain ⟨d, ⟨hd2, hdn⟩, hmin⟩ : ∃ d, (2 ≤ d ∧ d ∣ n) ∧ ∀ d', d' < d → ¬ (2 ≤ d' ∧ d' ∣ n) := by
    rcases key (n + 1) with h1 | h1
    · exact absurd ⟨hn, Nat.dvd_refl n⟩ (h1 n (by omega))
    · exact h1
  have hpd : Pr d := by
    refine ⟨hd2, fun c hc => ?_⟩
    have hcd := Nat.le_of_dvd (by omega) hc
    have hc0 : 0 < c := Nat.pos_of_dvd_of_pos hc (by omega)
    by_cases e : c = d
    · exact .inr e
    · by_cases e1 : c = 1
      · exact .inl e1
      · exact absurd ⟨by omega, Nat.dvd_trans hc hdn⟩ (hmin c (by omega))
  refine ⟨d, hpd, hdn, ?_⟩
  obtain ⟨m, hm⟩ := hdn
  have hm0 : m ≠ 0 := by rintro rfl; rw [Nat.mul_zero] at hm; omega
  have hm1 : m ≠ 1 := by rintro rfl; rw [Nat.mul_one] at hm; subst hm; exact h hpd
  have hle : d ≤ m := by
    rcases Nat.lt_or_ge m d with hlt | hge
    · exact absurd ⟨by omega, ⟨d, by rw [hm, Nat.mul_comm]⟩⟩ (hmin m hlt)
    · exact hge
  rw [hm]; exact Nat.mul_le_mul_left d hle
def AllPr : List PF → Prop
  | [] => True
  | f :: l => Pr f.q ∧ AllPr l
theorem AllPr.mem : ∀ {l : List PF}, AllPr l → ∀ f ∈ l, Pr f.q
  | [], _, _, h => by cases h
  | g :: l, ⟨h1, h2⟩, f, hf => by
    rcases List.mem_cons.1 hf with rfl | hf
    · exact h1
    · exact AllPr.mem h2 f hf
theorem pock {n fuel : Nat} (l : List PF) (hf : n < 2 ^ fuel) (hn : 1 < n) (hq : AllPr l) (hc : checkF n fuel l = true) (hF : n < prodF l * prodF l) : Pr n := by
  refine Classical.byContradiction fun h => ?_
  obtain ⟨r, hr, hrn, hrr⟩ := least_factor hn h
  have hd := pockF hf hn hr hrn l hq.mem hc
  have h2 := hr.1
  have hle := Nat.le_of_dvd (by omega) hd
  have : prodF l * prodF l ≤ r * r := Nat.mul_le_mul (by omega) (by omega)
  omega
def noDiv (n : Nat) : Nat → Bool
  | 0 => true
  | 1 => true
  | k + 2 => cond (Nat.beq (n % (k + 2)) 0) false (noDiv n (k + 1))
theorem noDiv_spec (n : Nat) : ∀ k d, noDiv n k = true → 2 ≤ d → d ≤ k → ¬ d ∣ n
  | 0, d, _, h1, h2 => by omega
  | 1, d, _, h1, h2 => by omega
  | k + 2, d, h, h1, h2 => by
    rw [noDiv] at h
    cases hb : Nat.beq (n % (k + 2)) 0 with
    | true => rw [hb] at h; cases h
    | false =>
      rw [hb] at h
      by_cases e : d = k + 2
      · subst e
        intro hd
        rw [Nat.mod_eq_zero_of_dvd hd] at hb; cases hb
      · exact noDiv_spec n (k + 1) d h h1 (by omega)
theorem small_pr {n : Nat} (k : Nat) (hn : 1 < n) (hk : n < (k + 1) * (k + 1)) (h : noDiv n k = true) : Pr n := by
  refine Classical.byContradiction fun hp => ?_
  obtain ⟨r, hr, hrn, hrr⟩ := least_factor hn hp
  have h2 := hr.1
  have : r ≤ k := by
    rcases Nat.lt_or_ge k r with g | g
    · have : (k + 1) * (k + 1) ≤ r * r := Nat.mul_le_mul g g
      omega
    · exact g
  exact noDiv_spec n k r h h2 this hrn
end CvPrm
namespace CvPrm
theorem pr149309 : Pr 149309 := small_pr 386 (by decide) (by decide) (by decide +kernel)
theorem pr11 : Pr 11 := small_pr 3 (by decide) (by decide) (by decide +kernel)
theorem pr61 : Pr 61 := small_pr 7 (by decide) (by decide) (by decide +kernel)
theorem pr379787 : Pr 379787 :=
  pock (fuel := 19) [⟨11, 0, 2⟩, ⟨61, 0, 2⟩] (by decide +kernel) (by decide +kernel) ⟨pr11, pr61, trivial⟩ (by decide +kernel) (by decide +kernel)
theorem pr11393611 : Pr 11393611 :=
  pock (fuel := 24) [⟨379787, 0, 2⟩] (by decide +kernel) (by decide +kernel) ⟨pr379787, trivial⟩ (by decide +kernel) (by decide +kernel)
theorem pr43 : Pr 43 := small_pr 6 (by decide) (by decide) (by decide +kernel)
theorem pr2477 : Pr 2477 := small_pr 49 (by decide) (by decide) (by decide +kernel)
theorem pr54251 : Pr 54251 := small_pr 232 (by decide) (by decide) (by decide +kernel)
theorem pr_180e7bb15e70595 : Pr 108341181769254293 :=
  pock (fuel := 57) [⟨43, 0, 2⟩, ⟨2477, 0, 2⟩, ⟨54251, 0, 2⟩] (by decide +kernel) (by decide +kernel) ⟨pr43, pr2477, pr54251, trivial⟩ (by decide +kernel) (by decide +kernel)
theorem pr_fffffffffffffffffffffffffffffffeffffffffffffffff : Pr 6277101735386680763835789423207666416083908700390324961279 :=
  pock (fuel := 192) [⟨149309, 0, 2⟩, ⟨11393611, 0, 2⟩, ⟨108341181769254293, 0, 2⟩] (by decide +kernel) (by decide +kernel) ⟨pr149309, pr11393611, pr_180e7bb15e70595, trivial⟩ (by decide +kernel) (by decide +kernel)
theorem pr2 : Pr 2 := small_pr 1 (by decide) (by decide) (by decide +kernel)
theorem pr257 : Pr 257 := small_pr 16 (by decide) (by decide) (by decide +kernel)
theorem pr641 : Pr 641 := small_pr 25 (by decide) (by decide) (by decide +kernel)
theorem pr_ffffffffffffffffffffffffffffffff000000000000000000000001 : Pr 26959946667150639794667015087019630673557916260026308143510066298881 :=
  pock (fuel := 224) [⟨2, 95, 11⟩, ⟨257, 0, 2⟩, ⟨641, 0, 2⟩] (by decide +kernel) (by decide +kernel) ⟨pr2, pr257, pr641, trivial⟩ (by decide +kernel) (by decide +kernel)
theorem pr23 : Pr 23 := small_pr 4 (by decide) (by decide) (by decide +kernel)
theorem pr107 : Pr 107 := small_pr 10 (by decide) (by decide) (by decide +kernel)
theorem pr204061199 : Pr 204061199 :=
  pock (fuel := 28) [⟨11, 0, 3⟩, ⟨23, 0, 2⟩, ⟨107, 0, 2⟩] (by decide +kernel) (by decide +kernel) ⟨pr11, pr23, pr107, trivial⟩ (by decide +kernel) (by decide +kernel)
theorem pr_7fb6219d9 : Pr 34282281433 :=
  pock (fuel := 35) [⟨204061199, 0, 2⟩] (by decide +kernel) (by decide +kernel) ⟨pr204061199, trivial⟩ (by decide +kernel) (by decide +kernel)
theorem pr53 : Pr 53 := small_pr 7 (by decide) (by decide) (by decide +kernel)
theorem pr173 : Pr 173 := small_pr 13 (by decide) (by decide) (by decide +kernel)
theorem pr197 : Pr 197 := small_pr 14 (by decide) (by decide) (by decide +kernel)
theorem pr_f76c8ffcb : Pr 66417393611 :=
  pock (fuel := 36) [⟨53, 0, 2⟩, ⟨173, 0, 2⟩, ⟨197, 0, 2⟩] (by decide +kernel) (by decide +kernel) ⟨pr53, pr173, pr197, trivial⟩ (by decide +kernel) (by decide +kernel)
theorem pr_a44e179dccf : Pr 11290956913871 :=
  pock (fuel := 44) [⟨66417393611, 0, 2⟩] (by decide +kernel) (by decide +kernel) ⟨pr_f76c8ffcb, trivial⟩ (by decide +kernel) (by decide +kernel)
theorem pr_22b559b5c816ae00f2378e18df38c5410ed597 : Pr 774023187263532362759620327192479577272145303 :=
  pock (fuel := 150) [⟨34282281433, 0, 2⟩, ⟨11290956913871, 0, 2⟩] (by decide +kernel) (by decide +kernel) ⟨pr_7fb6219d9, pr_a44e179dccf, trivial⟩ (by decide +kernel) (by decide +kernel)
theorem pr_926d1276e41fae13fdda5f78edb7802a76951509 : Pr 835945042244614951780389953367877943453916927241 :=
  pock (fuel := 160) [⟨774023187263532362759620327192479577272145303, 0, 2⟩] (by decide +kernel) (by decide +kernel) ⟨pr_22b559b5c816ae00f2378e18df38c5410ed597, trivial⟩ (by decide +kernel) (by decide +kernel)
theorem pr_ffffffff00000001000000000000000000000000ffffffffffffffffffffffff : Pr 115792089210356248762697446949407573530086143415290314195533631308867097853951 :=
  pock (fuel := 256) [⟨835945042244614951780389953367877943453916927241, 0, 2⟩] (by decide +kernel) (by decide +kernel) ⟨pr_926d1276e41fae13fdda5f78edb7802a76951509, trivial⟩ (by decide +kernel) (by decide +kernel)
theorem pr8389 : Pr 8389 := small_pr 91 (by decide) (by decide) (by decide +kernel)
theorem pr38557 : Pr 38557 := small_pr 196 (by decide) (by decide) (by decide +kernel)
theorem pr3253 : Pr 3253 := small_pr 57 (by decide) (by decide) (by decide +kernel)
theorem pr312289 : Pr 312289 :=
  pock (fuel := 19) [⟨3253, 0, 2⟩] (by decide +kernel) (by decide +kernel) ⟨pr3253, trivial⟩ (by decide +kernel) (by decide +kernel)
theorem pr59 : Pr 59 := small_pr 7 (by decide) (by decide) (by decide +kernel)
theorem pr599 : Pr 599 := small_pr 24 (by decide) (by decide) (by decide +kernel)
theorem pr513928823 : Pr 513928823 :=
  pock (fuel := 29) [⟨59, 0, 2⟩, ⟨599, 0, 2⟩] (by decide +kernel) (by decide +kernel) ⟨pr59, pr599, trivial⟩ (by decide +kernel) (by decide +kernel)
theorem pr_c71c8e059 : Pr 53448597593 :=
  pock (fuel := 36) [⟨513928823, 0, 2⟩] (by decide +kernel) (by decide +kernel) ⟨pr513928823, trivial⟩ (by decide +kernel) (by decide +kernel)
theorem pr_12d611c157e5d505 : Pr 1357291859799823621 :=
  pock (fuel := 61) [⟨53448597593, 0, 2⟩] (by decide +kernel) (by decide +kernel) ⟨pr_c71c8e059, trivial⟩ (by decide +kernel) (by decide +kernel)
theorem pr181 : Pr 181 := small_pr 13 (by decide) (by decide) (by decide +kernel)
theorem pr5 : Pr 5 := small_pr 2 (by decide) (by decide) (by decide +kernel)
theorem pr19 : Pr 19 := small_pr 4 (by decide) (by decide) (by decide +kernel)
theorem pr211 : Pr 211 := small_pr 14 (by decide) (by decide) (by decide +kernel)
theorem pr105957871 : Pr 105957871 :=
  pock (fuel := 27) [⟨5, 0, 2⟩, ⟨19, 0, 2⟩, ⟨211, 0, 2⟩] (by decide +kernel) (by decide +kernel) ⟨pr5, pr19, pr211, trivial⟩ (by decide +kernel) (by decide +kernel)
theorem pr_1cb733b306cfe30dd1 : Pr 529709925838459440593 :=
  pock (fuel := 69) [⟨2, 3, 3⟩, ⟨181, 0, 2⟩, ⟨105957871, 0, 2⟩] (by decide +kernel) (by decide +kernel) ⟨pr2, pr181, pr105957871, trivial⟩ (by decide +kernel) (by decide +kernel)
theorem pr_23108c4e1b4108ec0ae7f9ac9f118677a6c53e44fd12fcacc07b805145240aae82349d3ce0e376778bd1 : Pr 19173790298027098165721053155794528970226934547887232785722672956982046098136719667167519737147526097 :=
  pock (fuel := 334) [⟨8389, 0, 2⟩, ⟨38557, 0, 2⟩, ⟨312289, 0, 2⟩, ⟨1357291859799823621, 0, 2⟩, ⟨529709925838459440593, 0, 2⟩] (by decide +kernel) (by decide +kernel) ⟨pr8389, pr38557, pr312289, pr_12d611c157e5d505, pr_1cb733b306cfe30dd1, trivial⟩ (by decide +kernel) (by decide +kernel)
theorem pr_fffffffffffffffffffffffffffffffffffffffffffffffffffffffffffffffeffffffff0000000000000000ffffffff : Pr 39402006196394479212279040100143613805079739270465446667948293404245721771496870329047266088258938001861606973112319 :=
  pock (fuel := 384) [⟨19173790298027098165721053155794528970226934547887232785722672956982046098136719667167519737147526097, 0, 2⟩] (by decide +kernel) (by decide +kernel) ⟨pr_23108c4e1b4108ec0ae7f9ac9f118677a6c53e44fd12fcacc07b805145240aae82349d3ce0e376778bd1, trivial⟩ (by decide +kernel) (by decide +kernel)
theorem pr31 : Pr 31 := small_pr 5 (by decide) (by decide) (by decide +kernel)
theorem pr41 : Pr 41 := small_pr 6 (by decide) (by decide) (by decide +kernel)
theorem pr131 : Pr 131 := small_pr 11 (by decide) (by decide) (by decide +kernel)
theorem pr157 : Pr 157 := small_pr 12 (by decide) (by decide) (by decide +kernel)
theorem pr521 : Pr 521 := small_pr 22 (by decide) (by decide) (by decide +kernel)
theorem pr1613 : Pr 1613 := small_pr 40 (by decide) (by decide) (by decide +kernel)
theorem pr2731 : Pr 2731 := small_pr 52 (by decide) (by decide) (by decide +kernel)
theorem pr8191 : Pr 8191 := small_pr 90 (by decide) (by decide) (by decide +kernel)
theorem pr42641 : Pr 42641 := small_pr 206 (by decide) (by decide) (by decide +kernel)
theorem pr51481 : Pr 51481 := small_pr 226 (by decide) (by decide) (by decide +kernel)
theorem pr61681 : Pr 61681 := small_pr 248 (by decide) (by decide) (by decide +kernel)
theorem pr1051 : Pr 1051 := small_pr 32 (by decide) (by decide) (by decide +kernel)
theorem pr409891 : Pr 409891 :=
  pock (fuel := 19) [⟨1051, 0, 3⟩] (by decide +kernel) (by decide +kernel) ⟨pr1051, trivial⟩ (by decide +kernel) (by decide +kernel)
theorem pr858001 : Pr 858001 :=
  pock (fuel := 20) [⟨2, 3, 17⟩, ⟨5, 2, 3⟩] (by decide +kernel) (by decide +kernel) ⟨pr2, pr5, trivial⟩ (by decide +kernel) (by decide +kernel)
theorem pr13 : Pr 13 := small_pr 3 (by decide) (by decide) (by decide +kernel)
theorem pr5746001 : Pr 5746001 :=
  pock (fuel := 23) [⟨5, 2, 5⟩, ⟨13, 1, 3⟩] (by decide +kernel) (by decide +kernel) ⟨pr5, pr13, trivial⟩ (by decide +kernel) (by decide +kernel)
theorem pr37 : Pr 37 := small_pr 6 (by decide) (by decide) (by decide +kernel)
theorem pr7623851 : Pr 7623851 :=
  pock (fuel := 23) [⟨5, 1, 3⟩, ⟨13, 0, 2⟩, ⟨37, 0, 3⟩] (by decide +kernel) (by decide +kernel) ⟨pr5, pr13, pr37, trivial⟩ (by decide +kernel) (by decide +kernel)
theorem pr34110701 : Pr 34110701 :=
  pock (fuel := 26) [⟨5, 1, 5⟩, ⟨13, 0, 2⟩, ⟨19, 0, 3⟩] (by decide +kernel) (by decide +kernel) ⟨pr5, pr13, pr19, trivial⟩ (by decide +kernel) (by decide +kernel)
theorem pr49481 : Pr 49481 := small_pr 222 (by decide) (by decide) (by decide +kernel)
theorem pr308761441 : Pr 308761441 :=
  pock (fuel := 29) [⟨49481, 0, 3⟩] (by decide +kernel) (by decide +kernel) ⟨pr49481, trivial⟩ (by decide +kernel) (by decide +kernel)
theorem pr_1ffffffffffffffffffffffffffffffffffffffffffffffffffffffffffffffffffffffffffffffffffffffffffffffffffffffffffffffffffffffffffffffffff : Pr 6864797660130609714981900799081393217269435300143305409394463459185543183397656052122559640661454554977296311391480858037121987999716643812574028291115057151 :=
  pock (fuel := 521) [⟨5, 1, 3⟩, ⟨31, 0, 3⟩, ⟨41, 0, 3⟩, ⟨53, 0, 3⟩, ⟨131, 0, 3⟩, ⟨157, 0, 3⟩, ⟨521, 0, 2⟩, ⟨1613, 0, 3⟩, ⟨2731, 0, 3⟩, ⟨8191, 0, 3⟩, ⟨42641, 0, 3⟩, ⟨51481, 0, 3⟩, ⟨61681, 0, 3⟩, ⟨409891, 0, 3⟩, ⟨858001, 0, 3⟩, ⟨5746001, 0, 3⟩, ⟨7623851, 0, 3⟩, ⟨34110701, 0, 3⟩, ⟨308761441, 0, 3⟩] (by decide +kernel) (by decide +kernel) ⟨pr5, pr31, pr41, pr53, pr131, pr157, pr521, pr1613, pr2731, pr8191, pr42641, pr51481, pr61681, pr409891, pr858001, pr5746001, pr7623851, pr34110701, pr308761441, trivial⟩ (by decide +kernel) (by decide +kernel)
theorem pr1627 : Pr 1627 := small_pr 40 (by decide) (by decide) (by decide +kernel)
theorem pr2657 : Pr 2657 := small_pr 51 (by decide) (by decide) (by decide +kernel)
theorem pr4423 : Pr 4423 := small_pr 66 (by decide) (by decide) (by decide +kernel)
theorem pr41201 : Pr 41201 := small_pr 202 (by decide) (by decide) (by decide +kernel)
theorem pr96557 : Pr 96557 := small_pr 310 (by decide) (by decide) (by decide +kernel)
theorem pr_c03a94b2d3e64419a05cd8ccbf987069 : Pr 255515944373312847190720520512484175977 :=
  pock (fuel := 128) [⟨1627, 0, 2⟩, ⟨2657, 0, 2⟩, ⟨4423, 0, 2⟩, ⟨41201, 0, 2⟩, ⟨96557, 0, 2⟩] (by decide +kernel) (by decide +kernel) ⟨pr1627, pr2657, pr4423, pr41201, pr96557, trivial⟩ (by decide +kernel) (by decide +kernel)
theorem pr_1db8260e5e3b460a46a0088fccf6a3a5936d75d89a776d4c0da4f338aafb : Pr 205115282021455665897114700593932402728804164701536103180137503955397371 :=
  pock (fuel := 237) [⟨255515944373312847190720520512484175977, 0, 2⟩] (by decide +kernel) (by decide +kernel) ⟨pr_c03a94b2d3e64419a05cd8ccbf987069, trivial⟩ (by decide +kernel) (by decide +kernel)
theorem pr_fffffffffffffffffffffffffffffffffffffffffffffffffffffffefffffc2f : Pr 115792089237316195423570985008687907853269984665640564039457584007908834671663 :=
  pock (fuel := 256) [⟨205115282021455665897114700593932402728804164701536103180137503955397371, 0, 2⟩] (by decide +kernel) (by decide +kernel) ⟨pr_1db8260e5e3b460a46a0088fccf6a3a5936d75d89a776d4c0da4f338aafb, trivial⟩ (by decide +kernel) (by decide +kernel)
theorem pr83 : Pr 83 := small_pr 9 (by decide) (by decide) (by decide +kernel)
theorem pr750487 : Pr 750487 :=
  pock (fuel := 20) [⟨11, 0, 2⟩, ⟨83, 0, 2⟩] (by decide +kernel) (by decide +kernel) ⟨pr11, pr83, trivial⟩ (by decide +kernel) (by decide +kernel)
theorem pr27283 : Pr 27283 := small_pr 165 (by decide) (by decide) (by decide +kernel)
theorem pr436529 : Pr 436529 :=
  pock (fuel := 19) [⟨27283, 0, 2⟩] (by decide +kernel) (by decide +kernel) ⟨pr27283, trivial⟩ (by decide +kernel) (by decide +kernel)
theorem pr23572567 : Pr 23572567 :=
  pock (fuel := 25) [⟨436529, 0, 2⟩] (by decide +kernel) (by decide +kernel) ⟨pr436529, trivial⟩ (by decide +kernel) (by decide +kernel)
theorem pr_70934080e1bc27e24b8541 : Pr 136095069548351808925828417 :=
  pock (fuel := 87) [⟨750487, 0, 2⟩, ⟨23572567, 0, 2⟩] (by decide +kernel) (by decide +kernel) ⟨pr750487, pr23572567, trivial⟩ (by decide +kernel) (by decide +kernel)
theorem pr_e95e4a5f737059dc60dfc7ad95b3d8139515620f : Pr 1332297598440044874827085558802491743757193798159 :=
  pock (fuel := 160) [⟨136095069548351808925828417, 0, 2⟩] (by decide +kernel) (by decide +kernel) ⟨pr_70934080e1bc27e24b8541, trivial⟩ (by decide +kernel) (by decide +kernel)
theorem pr7 : Pr 7 := small_pr 2 (by decide) (by decide) (by decide +kernel)
theorem pr137 : Pr 137 := small_pr 11 (by decide) (by decide) (by decide +kernel)
theorem pr311 : Pr 311 := small_pr 17 (by decide) (by decide) (by decide +kernel)
theorem pr_73ccaf03 : Pr 1942793987 :=
  pock (fuel := 31) [⟨7, 0, 2⟩, ⟨137, 0, 2⟩, ⟨311, 0, 2⟩] (by decide +kernel) (by decide +kernel) ⟨pr7, pr137, pr311, trivial⟩ (by decide +kernel) (by decide +kernel)
theorem pr_f8ce45ff481f : Pr 273564821309471 :=
  pock (fuel := 48) [⟨1942793987, 0, 2⟩] (by decide +kernel) (by decide +kernel) ⟨pr_73ccaf03, trivial⟩ (by decide +kernel) (by decide +kernel)
theorem pr_fb651b85c2352297 : Pr 18114915337470550679 :=
  pock (fuel := 64) [⟨273564821309471, 0, 2⟩] (by decide +kernel) (by decide +kernel) ⟨pr_f8ce45ff481f, trivial⟩ (by decide +kernel) (by decide +kernel)
theorem pr_164ee356b911460f453c9 : Pr 1685556642320959799579593 :=
  pock (fuel := 81) [⟨18114915337470550679, 0, 2⟩] (by decide +kernel) (by decide +kernel) ⟨pr_fb651b85c2352297, trivial⟩ (by decide +kernel) (by decide +kernel)
theorem pr_282bbb656ae74923ec6cf4dc38bd7 : Pr 13036179062997789943375385313119191 :=
  pock (fuel := 114) [⟨1685556642320959799579593, 0, 2⟩] (by decide +kernel) (by decide +kernel) ⟨pr_164ee356b911460f453c9, trivial⟩ (by decide +kernel) (by decide +kernel)
theorem pr_d7c134aa264366862a18302575d1d787b09f075797da89f57ec8c0ff : Pr 22721622932454352787552537995910928073340732145944992304435472941311 :=
  pock (fuel := 224) [⟨13036179062997789943375385313119191, 0, 2⟩] (by decide +kernel) (by decide +kernel) ⟨pr_282bbb656ae74923ec6cf4dc38bd7, trivial⟩ (by decide +kernel) (by decide +kernel)
theorem pr13309 : Pr 13309 := small_pr 115 (by decide) (by decide) (by decide +kernel)
theorem pr10434257 : Pr 10434257 :=
  pock (fuel := 24) [⟨13309, 0, 2⟩] (by decide +kernel) (by decide +kernel) ⟨pr13309, trivial⟩ (by decide +kernel) (by decide +kernel)
theorem pr187816627 : Pr 187816627 :=
  pock (fuel := 28) [⟨10434257, 0, 2⟩] (by decide +kernel) (by decide +kernel) ⟨pr10434257, trivial⟩ (by decide +kernel) (by decide +kernel)
theorem pr3 : Pr 3 := small_pr 1 (by decide) (by decide) (by decide +kernel)
theorem pr2851 : Pr 2851 := small_pr 53 (by decide) (by decide) (by decide +kernel)
theorem pr_2346124ddd : Pr 151499460061 :=
  pock (fuel := 38) [⟨3, 1, 2⟩, ⟨5, 0, 2⟩, ⟨13, 0, 2⟩, ⟨2851, 0, 2⟩] (by decide +kernel) (by decide +kernel) ⟨pr3, pr5, pr13, pr2851, trivial⟩ (by decide +kernel) (by decide +kernel)
theorem pr_9930558227c1870a00a3ae5816ffd : Pr 49712609355733181957277501974736893 :=
  pock (fuel := 116) [⟨187816627, 0, 2⟩, ⟨151499460061, 0, 2⟩] (by decide +kernel) (by decide +kernel) ⟨pr187816627, pr_2346124ddd, trivial⟩ (by decide +kernel) (by decide +kernel)
theorem pr_7cc3aeda56fd8a352a6917bb1493dfca71ed8f71d3143f07 : Pr 3059213862715144055733503214373292934438943635608167530247 :=
  pock (fuel := 191) [⟨49712609355733181957277501974736893, 0, 2⟩] (by decide +kernel) (by decide +kernel) ⟨pr_9930558227c1870a00a3ae5816ffd, trivial⟩ (by decide +kernel) (by decide +kernel)
theorem pr_a9fb57dba1eea9bc3e660a909d838d726e3bf623d52620282013481d1f6e5377 : Pr 76884956397045344220809746629001649093037950200943055203735601445031516197751 :=
  pock (fuel := 256) [⟨3059213862715144055733503214373292934438943635608167530247, 0, 2⟩] (by decide +kernel) (by decide +kernel) ⟨pr_7cc3aeda56fd8a352a6917bb1493dfca71ed8f71d3143f07, trivial⟩ (by decide +kernel) (by decide +kernel)
theorem pr10513 : Pr 10513 := small_pr 102 (by decide) (by decide) (by decide +kernel)
theorem pr546677 : Pr 546677 :=
  pock (fuel := 20) [⟨10513, 0, 2⟩] (by decide +kernel) (by decide +kernel) ⟨pr10513, trivial⟩ (by decide +kernel) (by decide +kernel)
theorem pr_25958c3831 : Pr 161422784561 :=
  pock (fuel := 38) [⟨546677, 0, 2⟩] (by decide +kernel) (by decide +kernel) ⟨pr546677, trivial⟩ (by decide +kernel) (by decide +kernel)
theorem pr_2a483dbf373 : Pr 2905610122099 :=
  pock (fuel := 42) [⟨161422784561, 0, 2⟩] (by decide +kernel) (by decide +kernel) ⟨pr_25958c3831, trivial⟩ (by decide +kernel) (by decide +kernel)
theorem pr_440c435fbcd15 : Pr 1197111370304789 :=
  pock (fuel := 51) [⟨2905610122099, 0, 2⟩] (by decide +kernel) (by decide +kernel) ⟨pr_2a483dbf373, trivial⟩ (by decide +kernel) (by decide +kernel)
theorem pr_33093287cd9cfd : Pr 14365336443657469 :=
  pock (fuel := 54) [⟨1197111370304789, 0, 2⟩] (by decide +kernel) (by decide +kernel) ⟨pr_440c435fbcd15, trivial⟩ (by decide +kernel) (by decide +kernel)
theorem pr3943 : Pr 3943 := small_pr 62 (by decide) (by decide) (by decide +kernel)
theorem pr6947 : Pr 6947 := small_pr 83 (by decide) (by decide) (by decide +kernel)
theorem pr_79ab40304ae9341 : Pr 547948229735387969 :=
  pock (fuel := 59) [⟨2, 5, 3⟩, ⟨3943, 0, 2⟩, ⟨6947, 0, 2⟩] (by decide +kernel) (by decide +kernel) ⟨pr2, pr3943, pr6947, trivial⟩ (by decide +kernel) (by decide +kernel)
theorem pr_59c370170d9ec28aa8de489e1331b173fc9315aea611d6904cd07 : Pr 2307908307480288228542246803936276549862379769663891118114524423 :=
  pock (fuel := 211) [⟨14365336443657469, 0, 2⟩, ⟨547948229735387969, 0, 2⟩] (by decide +kernel) (by decide +kernel) ⟨pr_33093287cd9cfd, pr_79ab40304ae9341, trivial⟩ (by decide +kernel) (by decide +kernel)
theorem pr_d35e472036bc4fb7e13c785ed201e065f98fcfa6f6f40def4f92b9ec7893ec28fcd412b1f1b32e27 : Pr 1763593322239166354161909842446019520889512772719515192772960415288640868802149818095501499903527 :=
  pock (fuel := 320) [⟨2307908307480288228542246803936276549862379769663891118114524423, 0, 2⟩] (by decide +kernel) (by decide +kernel) ⟨pr_59c370170d9ec28aa8de489e1331b173fc9315aea611d6904cd07, trivial⟩ (by decide +kernel) (by decide +kernel)
theorem pr2543 : Pr 2543 := small_pr 50 (by decide) (by decide) (by decide +kernel)
theorem pr71 : Pr 71 := small_pr 8 (by decide) (by decide) (by decide +kernel)
theorem pr123606883 : Pr 123606883 :=
  pock (fuel := 27) [⟨3, 1, 2⟩, ⟨41, 0, 2⟩, ⟨71, 0, 2⟩] (by decide +kernel) (by decide +kernel) ⟨pr3, pr41, pr71, trivial⟩ (by decide +kernel) (by decide +kernel)
theorem pr_3392a3b51 : Pr 13843970897 :=
  pock (fuel := 34) [⟨123606883, 0, 2⟩] (by decide +kernel) (by decide +kernel) ⟨pr123606883, trivial⟩ (by decide +kernel) (by decide +kernel)
theorem pr_1cb1fa4d0b7ae7 : Pr 8076987940436711 :=
  pock (fuel := 53) [⟨13843970897, 0, 2⟩] (by decide +kernel) (by decide +kernel) ⟨pr_3392a3b51, trivial⟩ (by decide +kernel) (by decide +kernel)
theorem pr_a1691ff16093537 : Pr 726928914639303991 :=
  pock (fuel := 60) [⟨8076987940436711, 0, 2⟩] (by decide +kernel) (by decide +kernel) ⟨pr_1cb1fa4d0b7ae7, trivial⟩ (by decide +kernel) (by decide +kernel)
theorem pr_a1b3b6a753d00db5489c3b9c43 : Pr 12811352796235023217778801482819 :=
  pock (fuel := 104) [⟨726928914639303991, 0, 2⟩] (by decide +kernel) (by decide +kernel) ⟨pr_a1691ff16093537, trivial⟩ (by decide +kernel) (by decide +kernel)
theorem pr_7d7ced7e4dc447e8fca489418faeeb1ef5d7014d16ebf66f41e144030fbd1 : Pr 13857381403312519376221497559214358876512960238914501360589056738895920081 :=
  pock (fuel := 243) [⟨2, 3, 3⟩, ⟨43, 0, 2⟩, ⟨2543, 0, 2⟩, ⟨12811352796235023217778801482819, 0, 2⟩] (by decide +kernel) (by decide +kernel) ⟨pr2, pr43, pr2543, pr_a1b3b6a753d00db5489c3b9c43, trivial⟩ (by decide +kernel) (by decide +kernel)
theorem pr_8cb91e82a3386d280f5d6f7e50e641df152f7109ed5456b412b1da197fb71123acd3a729901d1a71874700133107ec53 : Pr 21659270770119316173069236842332604979796116387017648600081618503821089934025961822236561982844534088440708417973331 :=
  pock (fuel := 384) [⟨13857381403312519376221497559214358876512960238914501360589056738895920081, 0, 2⟩] (by decide +kernel) (by decide +kernel) ⟨pr_7d7ced7e4dc447e8fca489418faeeb1ef5d7014d16ebf66f41e144030fbd1, trivial⟩ (by decide +kernel) (by decide +kernel)
theorem pr5717 : Pr 5717 := small_pr 75 (by decide) (by decide) (by decide +kernel)
theorem pr24379 : Pr 24379 := small_pr 156 (by decide) (by decide) (by decide +kernel)
theorem pr3571 : Pr 3571 := small_pr 59 (by decide) (by decide) (by decide +kernel)
theorem pr1064159 : Pr 1064159 :=
  pock (fuel := 21) [⟨3571, 0, 2⟩] (by decide +kernel) (by decide +kernel) ⟨pr3571, trivial⟩ (by decide +kernel) (by decide +kernel)
theorem pr2128319 : Pr 2128319 :=
  pock (fuel := 22) [⟨1064159, 0, 2⟩] (by decide +kernel) (by decide +kernel) ⟨pr1064159, trivial⟩ (by decide +kernel) (by decide +kernel)
theorem pr4256639 : Pr 4256639 :=
  pock (fuel := 23) [⟨2128319, 0, 2⟩] (by decide +kernel) (by decide +kernel) ⟨pr2128319, trivial⟩ (by decide +kernel) (by decide +kernel)
theorem pr1913 : Pr 1913 := small_pr 43 (by decide) (by decide) (by decide +kernel)
theorem pr15511 : Pr 15511 := small_pr 124 (by decide) (by decide) (by decide +kernel)
theorem pr_20851f3748f : Pr 2234757903503 :=
  pock (fuel := 42) [⟨1913, 0, 2⟩, ⟨15511, 0, 2⟩] (by decide +kernel) (by decide +kernel) ⟨pr1913, pr15511, trivial⟩ (by decide +kernel) (by decide +kernel)
theorem pr_27065965645ed16dd4ecc6c26a05a8d16ee9378ebf : Pr 57034811399347976721726973543287819857845741391551 :=
  pock (fuel := 166) [⟨5717, 0, 2⟩, ⟨24379, 0, 2⟩, ⟨4256639, 0, 2⟩, ⟨2234757903503, 0, 2⟩] (by decide +kernel) (by decide +kernel) ⟨pr5717, pr24379, pr4256639, pr_20851f3748f, trivial⟩ (by decide +kernel) (by decide +kernel)
theorem pr_2d452877a59e8d090f1dd4e28157f164e31698c5a19c92d0cf8e217 : Pr 297968944203544716575901889872036237935261750341463572996351910423 :=
  pock (fuel := 218) [⟨57034811399347976721726973543287819857845741391551, 0, 2⟩] (by decide +kernel) (by decide +kernel) ⟨pr_27065965645ed16dd4ecc6c26a05a8d16ee9378ebf, trivial⟩ (by decide +kernel) (by decide +kernel)
theorem pr_76e448c63ff299b2def117691dba7c2d4327e83aec1cffc93eb7d602823abe19f4bf1ab : Pr 14435454750020088047685444818571282397270727096595623715684950293729763357371155607979 :=
  pock (fuel := 283) [⟨297968944203544716575901889872036237935261750341463572996351910423, 0, 2⟩] (by decide +kernel) (by decide +kernel) ⟨pr_2d452877a59e8d090f1dd4e28157f164e31698c5a19c92d0cf8e217, trivial⟩ (by decide +kernel) (by decide +kernel)
theorem pr_aadd9db8dbe9c48b3fd4e6ae33c9fc07cb308db3b3c9d20ed6639cca703308717d4d9b009bc66842aecda12ae6a380e62881ff2f2d82c68528aa6056583a48f3 : Pr 8948962207650232551656602815159153422162609644098354511344597187200057010413552439917934304191956942765446530386427345937963894309923928536070534607816947 :=
  pock (fuel := 512) [⟨14435454750020088047685444818571282397270727096595623715684950293729763357371155607979, 0, 2⟩] (by decide +kernel) (by decide +kernel) ⟨pr_76e448c63ff299b2def117691dba7c2d4327e83aec1cffc93eb7d602823abe19f4bf1ab, trivial⟩ (by decide +kernel) (by decide +kernel)
theorem pr251 : Pr 251 := small_pr 15 (by decide) (by decide) (by decide +kernel)
theorem pr241 : Pr 241 := small_pr 15 (by decide) (by decide) (by decide +kernel)
theorem pr239 : Pr 239 := small_pr 15 (by decide) (by decide) (by decide +kernel)
end CvPrm
