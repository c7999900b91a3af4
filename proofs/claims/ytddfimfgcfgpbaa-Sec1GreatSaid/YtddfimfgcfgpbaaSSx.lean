/-
  Numbers of the references: slices of digits of 32 bits, each named by one natural number.
  What a function's walk speaks of: slots and blocks by names, and one rule for a region of operations in whatever order its edges let.
  What each kind of operation does, as the region's rule takes it.
-/
import Derived.WalkKit
import Derived.Orders
import Derived.Deep.LoopGhost
import Derived.KernelRfl
import Derived.Laws.CopyRow
namespace Go.Proofs.Ytddfimfgcfgpbaa
namespace Sx
def dg32 (x i : Nat) : Nat := x / 2 ^ (32 * i) % 4294967296
def nd (x : Nat) : Nat := if x = 0 then 0 else x.log2 / 32 + 1
def pr2 (a b : Nat) : Nat := (a + b) * (a + b) + a
theorem pr2_inj {a b a' b' : Nat} (h : pr2 a b = pr2 a' b') : a = a' ∧ b = b' := by
  unfold pr2 at h
  have key : ∀ s a s' a' : Nat, a ≤ s → s * s + a = s' * s' + a' → ¬ s < s' := by
    intro s a s' a' h1 h2 h3
    have : (s + 1) * (s + 1) ≤ s' * s' := Nat.mul_le_mul h3 h3
    rw [Nat.add_mul, Nat.mul_add] at this
    omega
  have h1 := key _ a _ a' (Nat.le_add_right a b) h
  have h2 := key _ a' _ a (Nat.le_add_right a' b') h.symm
  have h3 : a + b = a' + b' := by omega
  rw [h3] at h
  omega
def enc (s : Option Nat) (n m : Nat) : Nat := pr2 (match s with | none => 0 | some g => g + 1) (pr2 n m)
theorem enc_inj {s s' : Option Nat} {n n' m m' : Nat} (h : enc s n m = enc s' n' m') : s = s' ∧ n = n' ∧ m = m' := by
  obtain ⟨h1, h2⟩ := pr2_inj h
  obtain ⟨h3, h4⟩ := pr2_inj h2
  refine ⟨?_, h3, h4⟩
  cases s <;> cases s' <;> simp at h1 ⊢
  exact h1
def slv (s : Option Nat) (n m : Nat) : Value := .slice (s.map fun g => ⟨g, 0, none⟩) n m
noncomputable def decS (k : Nat) : Option Nat × Nat × Nat := by
  classical exact if h : ∃ q : Option Nat × Nat × Nat, k = enc q.1 q.2.1 q.2.2 then h.choose else (none, 0, 0)
theorem decS_enc (s : Option Nat) (n m : Nat) : decS (enc s n m) = (s, n, m) := by
  have h : ∃ q : Option Nat × Nat × Nat, enc s n m = enc q.1 q.2.1 q.2.2 := ⟨(s, n, m), rfl⟩
  unfold decS
  rw [dif_pos h]
  obtain ⟨h1, h2, h3⟩ := enc_inj h.choose_spec
  exact Prod.ext h1.symm (Prod.ext h2.symm h3.symm)
noncomputable def dec (k : Nat) : Value := slv (decS k).1 (decS k).2.1 (decS k).2.2
theorem dec_enc (s : Option Nat) (n m : Nat) : dec (enc s n m) = slv s n m := by
  unfold dec; rw [decS_enc]
theorem dec_slice (k : Nat) : ∃ s n m, dec k = slv s n m := ⟨_, _, _, rfl⟩
noncomputable def decP (k i : Nat) : Value := match dec k with
  | .slice a _ _ => .pointer (a.map fun a => ⟨a.block, i, none⟩)
  | _ => .pointer none
theorem decP_pointer (k i : Nat) : ∃ a, decP k i = .pointer a := by
  unfold decP
  split
  · exact ⟨_, rfl⟩
  · exact ⟨none, rfl⟩
theorem decP_enc (g n m i : Nat) : decP (enc (some g) n m) i = .pointer (some ⟨g, i, none⟩) := by
  unfold decP; rw [dec_enc]; rfl
structure Nf where
  f : Nat → Value
  one : ∀ n, (f n).oneCell' = true
noncomputable def nfN : Nf := ⟨dec, fun n => by
  obtain ⟨s, a, b, e⟩ := dec_slice n
  rw [e]; rfl⟩
noncomputable def nfP (i : Nat) : Nf := ⟨fun n => decP n i, fun n => by
  obtain ⟨a, e⟩ := decP_pointer n i
  rw [e]; rfl⟩
def Nb (k g : Nat) : Prop := ∃ n m, k = enc (some g) n m ∧ 0 < n
def Raw (w : World) (k n x : Nat) : Prop :=
  ∃ s m, k = enc s n m ∧ n ≤ m ∧ (0 < n → ∃ g vs T, s = some g ∧ w.heap[g]? = some (.cells vs T (0, 0)) ∧ ∀ i, i < n → vs[i]? = some (.int .u32 (dg32 x i : Int)))
def Num (w : World) (k x : Nat) : Prop := Raw w k (nd x) x
theorem Raw.block {w : World} {k n x g : Nat} (h : Raw w k n x) (hb : Nb k g) : ∃ vs T, w.heap[g]? = some (.cells vs T (0, 0)) := by
  obtain ⟨s, m, h1, h2, h3⟩ := h
  obtain ⟨n', m', h4, h5⟩ := hb
  rw [h1] at h4
  obtain ⟨h6, h7, _⟩ := enc_inj h4
  obtain ⟨g', vs, T, h8, h9, _⟩ := h3 (by omega)
  rw [h8] at h6
  simp only [Option.some.injEq] at h6
  subst h6
  exact ⟨vs, T, h9⟩
theorem Raw.lt {w : World} {k n x g : Nat} (h : Raw w k n x) (hb : Nb k g) : g < w.heap.size := by
  obtain ⟨vs, T, h1⟩ := h.block hb
  exact (Array.getElem?_eq_some_iff.1 h1).1
theorem Raw.stay {w w' : World} {k n x : Nat} (h : Raw w k n x) (hs : ∀ g, Nb k g → w'.heap[g]? = w.heap[g]?) : Raw w' k n x := by
  obtain ⟨s, m, h1, h2, h3⟩ := h
  refine ⟨s, m, h1, h2, fun h0 => ?_⟩
  obtain ⟨g, vs, T, h4, h5, h6⟩ := h3 h0
  refine ⟨g, vs, T, h4, ?_, h6⟩
  rw [hs g ⟨n, m, by rw [h1, h4], h0⟩]
  exact h5
end Sx
end Go.Proofs.Ytddfimfgcfgpbaa
namespace Go.Proofs.Ytddfimfgcfgpbaa
namespace Sx
open Go.RowKit (Below)
inductive Sc where
  | v (x : Value)
  | ptr (k off : Nat)
  | sl (k off len cap : Nat)
  | fn (k : Nat) (f : Nf)
noncomputable abbrev Sc.num (k : Nat) : Sc := .fn k nfN
noncomputable abbrev Sc.nptr (k i : Nat) : Sc := .fn k (nfP i)
noncomputable def Sc.den (γ : Nat → Nat) : Sc → Value
  | .v x => x
  | .ptr k off => .pointer (some ⟨γ k, off, none⟩)
  | .sl k off len cap => .slice (some ⟨γ k, off, none⟩) len cap
  | .fn k f => f.f (γ k)
def Sc.has (k : Nat) : Sc → Bool
  | .v _ => false
  | .ptr j _ => Nat.beq j k
  | .sl j _ _ _ => Nat.beq j k
  | .fn j _ => Nat.beq j k
inductive SV where
  | s (x : Sc)
  | agg (cs : List Sc)
  | two (a b : SV)
  | three (a b c : SV)
noncomputable def SV.den (γ : Nat → Nat) : SV → Value
  | .s x => x.den γ
  | .agg cs => .agg (cs.map (Sc.den γ)).toArray
  | .two a b => .tuple #[a.den γ, b.den γ]
  | .three a b c => .tuple #[a.den γ, b.den γ, c.den γ]
def hasL (k : Nat) : List Sc → Bool
  | [] => false
  | c :: r => bif c.has k then true else hasL k r
def SV.has (k : Nat) : SV → Bool
  | .s x => x.has k
  | .agg cs => hasL k cs
  | .two a b => a.has k || b.has k
  | .three a b c => a.has k || (b.has k || c.has k)
structure Abs where
  trn : Bool
  ok : World → Nat → Prop
  ft : Nat → Nat → Prop
  lt : ∀ w n g, ok w n → ft n g → g < w.heap.size
  stay : ∀ w w' n, ok w n → (∀ g, ft n g → w'.heap[g]? = w.heap[g]?) → ok w' n
inductive Cn where
  | sc (l : List Sc)
  | pl (l : List Value)
  | abs (A : Abs)
def Cn.cs : Cn → List Sc
  | .sc l => l
  | .pl l => l.map Sc.v
  | .abs _ => []
def Cn.has (k : Nat) : Cn → Bool
  | .sc l => hasL k l
  | .pl _ => false
  | .abs _ => false
theorem hasL_vals (k : Nat) (l : List Value) : hasL k (l.map Sc.v) = false := by
  induction l with
  | nil => rfl
  | cons x r ih => simp only [List.map_cons, hasL, Sc.has, cond_false, ih]
theorem Cn.has_cs {k : Nat} {c : Cn} (h : hasL k c.cs = true) : c.has k = true := by
  cases c with
  | sc l => exact h
  | pl l => rw [Cn.cs, hasL_vals] at h; cases h
  | abs A => cases h
def goneA : Abs := ⟨false, fun _ _ => True, fun _ _ => False, fun _ _ _ _ h => h.elim, fun _ _ _ _ _ => trivial⟩
abbrev Cn.gone : Cn := .abs goneA
def rawA (n x : Nat) : Abs := ⟨false, fun w k => Raw w k n x, Nb, fun _ _ _ h hb => h.lt hb, fun _ _ _ h hs => h.stay hs⟩
abbrev numA (x : Nat) : Abs := rawA (nd x) x
abbrev Ct := Cn × TypeId
noncomputable def Ct.obj (γ : Nat → Nat) (c : Ct) : Obj := .cells (c.1.cs.map (Sc.den γ)).toArray c.2 (0, 0)
theorem Sc.den_congr {γ γ' : Nat → Nat} {x : Sc} (h : ∀ k, x.has k = true → γ' k = γ k) : x.den γ' = x.den γ := by
  cases x with
  | v x => rfl
  | ptr k off => simp only [Sc.den, h k (by simp [Sc.has])]
  | sl k off n c => simp only [Sc.den, h k (by simp [Sc.has])]
  | fn k f => simp only [Sc.den, h k (by simp [Sc.has])]
theorem denL_congr {γ γ' : Nat → Nat} : ∀ {cs : List Sc}, (∀ k, hasL k cs = true → γ' k = γ k) → cs.map (Sc.den γ') = cs.map (Sc.den γ)
  | [], _ => rfl
  | c :: r, h => by
    rw [List.map_cons, List.map_cons, Sc.den_congr (fun k hk => h k (by simp [hasL, hk])), denL_congr (fun k hk => h k (by cases hc : c.has k <;> simp [hasL, hc, hk]))]
theorem SV.den_congr {γ γ' : Nat → Nat} {x : SV} (h : ∀ k, x.has k = true → γ' k = γ k) : x.den γ' = x.den γ := by
  induction x with
  | s x => exact Sc.den_congr h
  | agg cs => simp only [SV.den]; rw [denL_congr h]
  | two a b iha ihb =>
    simp only [SV.den]
    rw [iha (fun k hk => h k (by simp [SV.has, hk])), ihb (fun k hk => h k (by simp [SV.has, hk]))]
  | three a b c iha ihb ihc =>
    simp only [SV.den]
    rw [iha (fun k hk => h k (by simp [SV.has, hk])), ihb (fun k hk => h k (by simp [SV.has, hk])), ihc (fun k hk => h k (by simp [SV.has, hk]))]
def Ct.isNum (c : Ct) : Bool := match c.1 with
  | .abs _ => true
  | _ => false
def Ct.mu (c : Ct) : Bool := match c.1 with
  | .abs A => A.trn
  | _ => true
def Ct.at (γ : Nat → Nat) (c : Ct) (n : Nat) (w : World) : Prop := match c.1 with
  | .abs A => A.ok w n
  | _ => w.heap[n]? = some (c.obj γ)
def Ct.ft (c : Ct) (n g : Nat) : Prop := match c.1 with
  | .abs A => A.ft n g
  | _ => g = n
theorem Ct.at_obj {γ : Nat → Nat} {c : Ct} {n : Nat} {w : World} (hN : c.isNum = false) : c.at γ n w ↔ w.heap[n]? = some (c.obj γ) := by
  obtain ⟨cn, T⟩ := c
  cases cn with
  | abs A => cases hN
  | sc l => exact Iff.rfl
  | pl l => exact Iff.rfl
theorem Ct.ft_eq {c : Ct} {n g : Nat} (hN : c.isNum = false) : c.ft n g ↔ g = n := by
  obtain ⟨cn, T⟩ := c
  cases cn with
  | abs A => cases hN
  | sc l => exact Iff.rfl
  | pl l => exact Iff.rfl
theorem Ct.mu_of {c : Ct} (hN : c.isNum = false) : c.mu = true := by
  obtain ⟨cn, T⟩ := c
  cases cn with
  | abs A => cases hN
  | sc l => rfl
  | pl l => rfl
theorem Ct.sc_at {γ : Nat → Nat} {l : List Sc} {T n : Nat} {w : World} (h : Ct.at γ (.sc l, T) n w) : w.heap[n]? = some (Ct.obj γ (.sc l, T)) := h
theorem Ct.pl_at {γ : Nat → Nat} {l : List Value} {T n : Nat} {w : World} (h : Ct.at γ (.pl l, T) n w) : w.heap[n]? = some (Ct.obj γ (.pl l, T)) := h
theorem Ct.lt {γ : Nat → Nat} {c : Ct} {n g : Nat} {w : World} (h : c.at γ n w) (hf : c.ft n g) : g < w.heap.size := by
  obtain ⟨cn, T⟩ := c
  cases cn with
  | abs A => exact A.lt w n g h hf
  | sc l => have e : g = n := hf; subst e; exact (Array.getElem?_eq_some_iff.1 (Ct.sc_at h)).1
  | pl l => have e : g = n := hf; subst e; exact (Array.getElem?_eq_some_iff.1 (Ct.pl_at h)).1
theorem Ct.obj_congr {γ γ' : Nat → Nat} {c : Ct} (h : ∀ k, c.1.has k = true → γ' k = γ k) : c.obj γ' = c.obj γ := by
  unfold Ct.obj
  rw [denL_congr (fun k hk => h k (Cn.has_cs hk))]
theorem Ct.stay {γ γ' : Nat → Nat} {c : Ct} {n : Nat} {w w' : World} (h : c.at γ n w) (hs : ∀ g, c.ft n g → w'.heap[g]? = w.heap[g]?) (hn : ∀ k, c.1.has k = true → γ' k = γ k) : c.at γ' n w' := by
  cases hN : c.isNum with
  | false =>
    rw [Ct.at_obj hN] at h ⊢
    rw [hs n ((Ct.ft_eq hN).2 rfl), h, Ct.obj_congr hn]
  | true =>
    obtain ⟨cn, T⟩ := c
    cases cn with
    | abs A => exact A.stay w w' n h hs
    | sc l => cases hN
    | pl l => cases hN
theorem beq_ne {d t : Nat} (h : d ≠ t) : Nat.beq d t = false := by
  cases hb : Nat.beq d t with
  | false => rfl
  | true => exact absurd (Nat.eq_of_beq_eq_true hb) h
theorem beq_self (d : Nat) : Nat.beq d d = true := by
  cases hb : Nat.beq d d with
  | true => rfl
  | false => exact absurd rfl (Nat.ne_of_beq_eq_false hb)
def lk {α : Type} : List (Nat × α) → Nat → Option α
  | [], _ => none
  | (u, x) :: r, t => bif Nat.beq u t then some x else lk r t
def hasKey {α : Type} : List (Nat × α) → Nat → Bool
  | [], _ => false
  | (u, _) :: r, k => Nat.beq u k || hasKey r k
abbrev Sl := List (Nat × SV)
abbrev Bl := List (Nat × Ct)
abbrev Fx := List (Nat × Nat)
structure Bs where
  b : Nat → Prop
  o : Nat → Prop
structure Keep (B : Bs) (w0 w : World) : Prop where
  os : w.os = w0.os
  tape : w.tape = w0.tape
  output : w.output = w0.output
  size : w0.heap.size ≤ w.heap.size
  block : ∀ j, j < w0.heap.size → ¬ B.b j → w.heap[j]? = w0.heap[j]?
abbrev noB : Bs := ⟨fun _ => False, fun _ => False⟩
theorem Keep.refl (B : Bs) (w : World) : Keep B w w := ⟨rfl, rfl, rfl, Nat.le_refl _, fun _ _ _ => rfl⟩
theorem Keep.drew {B : Bs} {w0 w : World} (h : Keep B w0 w) : Keep B w0 { w with drawn := w.drawn + 1 } := ⟨h.os, h.tape, h.output, h.size, h.block⟩
theorem Keep.below {w0 w : World} (h : Keep noB w0 w) : Below w0.heap.size w0 w := ⟨h.os, h.tape, h.output, h.size, fun k hk => h.block k hk (fun h => h)⟩
theorem lt_heap' {w : World} {g : Nat} {o : Obj} (h : w.heap[g]? = some o) : g < w.heap.size := (Array.getElem?_eq_some_iff.1 h).1
theorem Keep.get {B : Bs} {w0 w : World} {g : Nat} {o : Obj} (h : Keep B w0 w) (hh : w0.heap[g]? = some o) (hB : ¬ B.b g := by exact fun h => h) : w.heap[g]? = some o := (h.block g (lt_heap' hh) hB).trans hh
structure Row where
  dst : Option Nat
  v : SV
  use : Sl := []
  keys : Bl := []
  neu : Bl := []
  puts : Bl := []
abbrev Rw (d : Nat) (v : SV) (u : Sl := []) (k : Bl := []) (n : Bl := []) (p : Bl := []) : Row := ⟨some d, v, u, k, n, p⟩
abbrev Rz (u : Sl) (k : Bl := []) (p : Bl := []) (n : Bl := []) : Row := ⟨none, .s (.v undef), u, k, n, p⟩
structure Eff (γ γ' : Nat → Nat) (w w' : World) (r : Row) : Prop where
  os : w'.os = w.os
  tape : w'.tape = w.tape
  output : w'.output = w.output
  size : w.heap.size ≤ w'.heap.size
  name : ∀ k, lk r.neu k = none → γ' k = γ k
  fresh : ∀ k c, lk r.neu k = some c → c.at γ' (γ' k) w' ∧ ∀ g, c.ft (γ' k) g → w.heap.size ≤ g ∨ ∃ p ∈ r.keys, p.2.ft (γ p.1) g ∧ ((p.2.mu = true ∧ lk r.puts p.1 = some (.gone, 0)) ∨ (p.2.mu = false ∧ c.mu = false))
  apart : ∀ k k' c c', lk r.neu k = some c → lk r.neu k' = some c' → c.mu = true → k ≠ k' → ∀ g, c.ft (γ' k) g → ¬ c'.ft (γ' k') g
  put : ∀ k c, lk r.puts k = some c → c.at γ' (γ k) w' ∧ ∀ g, c.ft (γ k) g → ∀ p ∈ r.keys, p.1 = k → p.2.ft (γ k) g
  block : ∀ j, j < w.heap.size → (∀ p ∈ r.keys, hasKey r.puts p.1 = true → ¬ p.2.ft (γ p.1) j) → w'.heap[j]? = w.heap[j]?
def StepGoal (P : Program) (ops : Array Oper) (o : Oper) (a : Act) (w : World) (K : Act → World → Prop) (Q : Exit → Act → World → Prop) : Prop :=
  if Region.wanted o (yielded ops a.tmps) then o.wp P a w K Q ∨ (o.asks P a w ∧ LetsOut Q) else K (a.put o.dst undef) w
def KApart (γ : Nat → Nat) (ks : Bl) : Prop := ∀ p ∈ ks, ∀ q ∈ ks, p.1 ≠ q.1 → p.2.mu = true → ∀ g, p.2.ft (γ p.1) g → ¬ q.2.ft (γ q.1) g
def Trip (P : Program) (F : Fx) (B0 : Bs) (w0 : World) (ops : Array Oper) (o : Oper) (r : Row) : Prop :=
  o.dst = r.dst ∧ ∀ (γ : Nat → Nat) (a : Act) (w : World) (Q : Exit → Act → World → Prop) (K : Act → World → Prop),
    Keep B0 w0 w → (∀ p ∈ F, γ p.1 = p.2) → (∀ p ∈ r.use, a.tmps[p.1]? = some (p.2.den γ)) → (∀ p ∈ r.keys, p.2.at γ (γ p.1) w) → KApart γ r.keys →
    (∀ γ' w', Eff γ γ' w w' r → K (a.put r.dst (r.v.den γ')) w') → StepGoal P ops o a w K Q
def Trips (P : Program) (F : Fx) (B0 : Bs) (w0 : World) (ops : Array Oper) : List Oper → List Row → Prop
  | [], [] => True
  | o :: os, r :: rs => Trip P F B0 w0 ops o r ∧ Trips P F B0 w0 ops os rs
  | _, _ => False
theorem Trips.get {P : Program} {F : Fx} {B0 : Bs} {w0 : World} {ops : Array Oper} : ∀ {os : List Oper} {rs : List Row}, Trips P F B0 w0 ops os rs → os.length = rs.length ∧ ∀ (i : Nat) (o : Oper), os[i]? = some o → ∃ r, rs[i]? = some r ∧ Trip P F B0 w0 ops o r
  | [], [], _ => ⟨rfl, fun i o h => by simp at h⟩
  | o :: os, r :: rs, ⟨h, hs⟩ => by
    obtain ⟨h1, h2⟩ := Trips.get hs
    refine ⟨by simp [h1], fun i o' hi => ?_⟩
    cases i with
    | zero => simp at hi; subst hi; exact ⟨r, rfl, h⟩
    | succ i => simpa using h2 i o' (by simpa using hi)
  | [], _ :: _, h => h.elim
  | _ :: _, [], h => h.elim
def slotIn (b : Nat → Bool) : List Row → Nat → Nat → Option SV
  | [], _, _ => none
  | r :: rs, i, t => bif (match r.dst with | some d => Nat.beq d t | none => false) && b i then some r.v else slotIn b rs (i + 1) t
def slotAt (R : List Row) (L : Sl) (b : Nat → Bool) (t : Nat) : Option SV :=
  match slotIn b R 0 t with
  | some x => some x
  | none => lk L t
def Row.cont (r : Row) (k : Nat) : Option Ct :=
  match lk r.puts k with
  | some c => some c
  | none => lk r.neu k
def contIn (b : Nat → Bool) : List Row → Nat → Nat → Option Ct
  | [], _, _ => none
  | r :: rs, i, k => match contIn b rs (i + 1) k with
    | some c => some c
    | none => bif b i then r.cont k else none
def contAt (R : List Row) (M : Bl) (b : Nat → Bool) (k : Nat) : Option Ct :=
  match contIn b R 0 k with
  | some x => some x
  | none => lk M k
theorem slotIn_congr {b b' : Nat → Bool} {t : Nat} : ∀ {R : List Row} {i : Nat}, (∀ j r, R[j]? = some r → r.dst = some t → b (i + j) = b' (i + j)) → slotIn b R i t = slotIn b' R i t
  | [], _, _ => rfl
  | r :: rs, i, h => by
    have ih := slotIn_congr (R := rs) (i := i + 1) (t := t) (b := b) (b' := b') (fun j r' hj hd => by have := h (j + 1) r' (by simpa using hj) hd; rwa [show i + 1 + j = i + (j + 1) by omega])
    simp only [slotIn, ih]
    cases hd : r.dst with
    | none => rfl
    | some d =>
      by_cases hdt : d = t
      · subst hdt
        have := h 0 r rfl hd
        rw [Nat.add_zero] at this
        rw [this]
      · simp [beq_ne hdt]
theorem slotIn_of {b : Nat → Bool} {t : Nat} : ∀ {R : List Row} {i j : Nat} {r : Row}, R[j]? = some r → r.dst = some t → b (i + j) = true → (∀ j' r', R[j']? = some r' → r'.dst = some t → j' = j) → slotIn b R i t = some r.v
  | [], _, _, _, h, _, _, _ => by simp at h
  | x :: rs, i, 0, r, h, hd, hb, _ => by
    simp at h; subst h
    simp only [slotIn, hd]
    simp at hb
    simp [hb]
  | x :: rs, i, j + 1, r, h, hd, hb, hu => by
    have hx : ∀ d, x.dst = some d → Nat.beq d t = false := by
      intro d hxd
      by_cases e : d = t
      · subst e; have := hu 0 x rfl hxd; omega
      · exact beq_ne e
    have ih := slotIn_of (R := rs) (i := i + 1) (j := j) (r := r) (by simpa using h) hd (by rwa [show i + 1 + j = i + (j + 1) by omega]) (fun j' r' hj hd' => by have := hu (j' + 1) r' (by simpa using hj) hd'; omega)
    simp only [slotIn, ih]
    cases hxd : x.dst with
    | none => rfl
    | some d => simp [hx d hxd]
theorem slotIn_some {b : Nat → Bool} {t : Nat} {x : SV} : ∀ {R : List Row} {i : Nat}, slotIn b R i t = some x → ∃ j r, R[j]? = some r ∧ r.dst = some t ∧ b (i + j) = true ∧ x = r.v
  | [], _, h => by simp [slotIn] at h
  | r :: rs, i, h => by
    simp only [slotIn] at h
    by_cases hc : ((match r.dst with | some d => Nat.beq d t | none => false) && b i) = true
    · rw [hc] at h
      simp at h
      simp only [Bool.and_eq_true] at hc
      refine ⟨0, r, rfl, ?_, by simpa using hc.2, h.symm⟩
      cases hd : r.dst with
      | none => rw [hd] at hc; simp at hc
      | some d => rw [hd] at hc; have := hc.1; simp at this; rw [this]
    · rw [Bool.not_eq_true] at hc
      rw [hc] at h
      simp only [cond_false] at h
      obtain ⟨j, r', h1, h2, h3, h4⟩ := slotIn_some h
      exact ⟨j + 1, r', by simpa using h1, h2, by rwa [show i + (j + 1) = i + 1 + j by omega], h4⟩
theorem contIn_congr {b b' : Nat → Bool} {k : Nat} : ∀ {R : List Row} {i : Nat}, (∀ j r, R[j]? = some r → r.cont k ≠ none → b (i + j) = b' (i + j)) → contIn b R i k = contIn b' R i k
  | [], _, _ => rfl
  | r :: rs, i, h => by
    have ih := contIn_congr (R := rs) (i := i + 1) (k := k) (b := b) (b' := b') (fun j r' hj hd => by have := h (j + 1) r' (by simpa using hj) hd; rwa [show i + 1 + j = i + (j + 1) by omega])
    simp only [contIn, ih]
    cases hd : r.cont k with
    | none => cases b i <;> cases b' i <;> rfl
    | some d =>
      have := h 0 r rfl (by rw [hd]; simp)
      rw [Nat.add_zero] at this
      rw [this]
theorem contIn_of {b : Nat → Bool} {k : Nat} {c : Ct} : ∀ {R : List Row} {i j : Nat} {r : Row}, R[j]? = some r → r.cont k = some c → b (i + j) = true → (∀ j' r', R[j']? = some r' → r'.cont k ≠ none → b (i + j') = true → j' ≤ j) → contIn b R i k = some c
  | [], _, _, _, h, _, _, _ => by simp at h
  | x :: rs, i, 0, r, h, hc, hb, hl => by
    simp at h; subst h
    have hn : contIn b rs (i + 1) k = none := by
      rw [contIn_congr (b' := fun _ => false) (fun j r' hj hne => ?_)]
      · have : ∀ (rs : List Row) (i : Nat), contIn (fun _ => false) rs i k = none := by
          intro rs
          induction rs with
          | nil => intro i; rfl
          | cons a l ih => intro i; simp only [contIn, ih]; rfl
        exact this _ _
      · cases hbj : b (i + 1 + j) with
        | false => rfl
        | true =>
          have := hl (j + 1) r' (by simpa using hj) hne (by rwa [show i + (j + 1) = i + 1 + j by omega])
          omega
    simp only [contIn, hn]
    simp at hb
    simp [hb, hc]
  | x :: rs, i, j + 1, r, h, hc, hb, hl => by
    have ih := contIn_of (R := rs) (i := i + 1) (j := j) (r := r) (by simpa using h) hc (by rwa [show i + 1 + j = i + (j + 1) by omega])
      (fun j' r' hj hne hb' => by have := hl (j' + 1) r' (by simpa using hj) hne (by rwa [show i + (j' + 1) = i + 1 + j' by omega]); omega)
    simp only [contIn, ih]
theorem contIn_some {b : Nat → Bool} {k : Nat} {c : Ct} : ∀ {R : List Row} {i : Nat}, contIn b R i k = some c → ∃ j r, R[j]? = some r ∧ r.cont k = some c ∧ b (i + j) = true
  | [], _, h => by simp [contIn] at h
  | r :: rs, i, h => by
    simp only [contIn] at h
    cases hr : contIn b rs (i + 1) k with
    | some c' =>
      rw [hr] at h
      simp only [Option.some.injEq] at h
      subst h
      obtain ⟨j, r', h1, h2, h3⟩ := contIn_some hr
      exact ⟨j + 1, r', by simpa using h1, h2, by rwa [show i + (j + 1) = i + 1 + j by omega]⟩
    | none =>
      rw [hr] at h
      cases hb : b i with
      | false => rw [hb] at h; simp at h
      | true => rw [hb] at h; exact ⟨0, r, rfl, h, by simpa using hb⟩
def up (b : Nat → Bool) (i : Nat) : Nat → Bool := fun j => bif Nat.beq j i then true else b j
theorem up_self (b : Nat → Bool) (i : Nat) : up b i i = true := by simp [up]
theorem up_ne {b : Nat → Bool} {i j : Nat} (h : j ≠ i) : up b i j = b j := by simp [up, beq_ne h]
def bit (B : List Nat) (i j : Nat) : Bool := (B.getD i 0).testBit j
def nodupK {α : Type} : List (Nat × α) → Bool
  | [] => true
  | (u, _) :: r => !hasKey r u && nodupK r
def hasLL (k : Nat) : Sl → Bool
  | [] => false
  | (_, x) :: r => x.has k || hasLL k r
def hasBL (k : Nat) : Bl → Bool
  | [] => false
  | (_, c) :: r => c.1.has k || hasBL k r
def Row.has (r : Row) (k : Nat) : Bool := r.v.has k || (hasBL k r.neu || hasBL k r.puts)
def Row.touch (r : Row) (k : Nat) : Bool := hasKey r.puts k || hasKey r.neu k
def isDst (r : Row) (t : Nat) : Bool := match r.dst with | some d => Nat.beq d t | none => false
def allI {α : Type} (p : Nat → α → Bool) : Nat → List α → Bool
  | _, [] => true
  | i, x :: r => p i x && allI p (i + 1) r
theorem allI_get {α : Type} {p : Nat → α → Bool} : ∀ {l : List α} {i : Nat}, allI p i l = true → ∀ j x, l[j]? = some x → p (i + j) x = true
  | [], _, _, j, x, h => by simp at h
  | y :: r, i, h, j, x, hx => by
    simp only [allI, Bool.and_eq_true] at h
    cases j with
    | zero => simp at hx; subst hx; simpa using h.1
    | succ j => rw [show i + (j + 1) = i + 1 + j by omega]; exact allI_get h.2 j x (by simpa using hx)
def chkB (n : Nat) (B : List Nat) : Bool :=
  allI (fun i m => decide (m < 2 ^ i) && (List.range i).all fun j => !m.testBit j || Nat.beq (m ||| B.getD j 0) m) 0 B && Nat.beq B.length n
def chkRow (N : Nat) (F : Fx) (R : List Row) (L : Sl) (M : Bl) (B : List Nat) (i : Nat) (r : Row) : Bool :=
  allI (fun j x => Nat.beq j i || ((r.use.all fun p => !isDst x p.1 || (bit B i j || bit B j i)) &&
    ((r.keys.all fun p => !x.touch p.1 || (bit B i j || bit B j i)) && ((r.puts.all fun p => !x.touch p.1 || (bit B i j || bit B j i)) && ((r.neu.all fun p => !x.touch p.1 || bit B j i) &&
    ((match r.dst with | some t => !isDst x t | none => true) && (r.neu.all fun p => !x.has p.1 || bit B j i))))))) 0 R &&
  ((match r.dst with | some t => decide (t < N) | none => true) && ((r.neu.all fun p => !hasKey M p.1 && (!hasKey F p.1 && (!hasLL p.1 L && !hasBL p.1 M))) &&
    (nodupK r.neu && ((r.puts.all fun p => (match lk r.keys p.1 with | some c => c.mu | none => false) && !hasKey r.neu p.1)))))
def chk (N : Nat) (F : Fx) (R : List Row) (L : Sl) (M : Bl) (B : List Nat) : Bool :=
  chkB R.length B && allI (chkRow N F R L M B) 0 R
def srcs (R : List Row) (L : Sl) (M : Bl) (B : List Nat) : Nat → List Row → List (Option SV) × List (Option Ct)
  | _, [] => ([], [])
  | i, r :: rs => (r.use.map (fun p => slotAt R L (bit B i) p.1) ++ (srcs R L M B (i + 1) rs).1, r.keys.map (fun p => contAt R M (bit B i) p.1) ++ (srcs R L M B (i + 1) rs).2)
def wants : List Row → List (Option SV) × List (Option Ct)
  | [] => ([], [])
  | r :: rs => (r.use.map (fun p => some p.2) ++ (wants rs).1, r.keys.map (fun p => some p.2) ++ (wants rs).2)
theorem srcs_get {R : List Row} {L : Sl} {M : Bl} {B : List Nat} : ∀ {rs : List Row} {i : Nat}, srcs R L M B i rs = wants rs → ∀ j r, rs[j]? = some r →
    (∀ p ∈ r.use, slotAt R L (bit B (i + j)) p.1 = some p.2) ∧ (∀ p ∈ r.keys, contAt R M (bit B (i + j)) p.1 = some p.2)
  | [], _, _, j, r, h => by simp at h
  | x :: rs, i, h, j, r, hr => by
    simp only [srcs, wants, Prod.mk.injEq] at h
    obtain ⟨h1, h2⟩ := h
    have a1 := List.append_inj h1 (by simp)
    have a2 := List.append_inj h2 (by simp)
    cases j with
    | zero =>
      simp at hr; subst hr
      refine ⟨fun p hp => ?_, fun p hp => ?_⟩
      · exact List.map_inj_left.1 a1.1 p hp
      · exact List.map_inj_left.1 a2.1 p hp
    | succ j =>
      have := srcs_get (rs := rs) (i := i + 1) (by rw [Prod.ext_iff]; exact ⟨a1.2, a2.2⟩) j r (by simpa using hr)
      rwa [show i + (j + 1) = i + 1 + j by omega]
theorem lk_none_of_hasKey {α : Type} {k : Nat} : ∀ {l : List (Nat × α)}, hasKey l k = false → lk l k = none
  | [], _ => rfl
  | (u, x) :: r, h => by
    simp only [hasKey, Bool.or_eq_false_iff] at h
    simp [lk, h.1, lk_none_of_hasKey h.2]
theorem hasKey_of_lk {α : Type} {k : Nat} {x : α} {l : List (Nat × α)} (h : lk l k = some x) : hasKey l k = true := by
  cases hk : hasKey l k with
  | true => rfl
  | false => rw [lk_none_of_hasKey hk] at h; cases h
theorem lk_mem {α : Type} {k : Nat} {x : α} : ∀ {l : List (Nat × α)}, lk l k = some x → (k, x) ∈ l
  | [], h => by simp [lk] at h
  | (u, y) :: r, h => by
    simp only [lk] at h
    cases hb : Nat.beq u k with
    | true => rw [hb] at h; simp at h; rw [Nat.eq_of_beq_eq_true hb, h]; exact List.mem_cons_self
    | false => rw [hb] at h; exact List.mem_cons_of_mem _ (lk_mem h)
theorem hasKey_mem {α : Type} {k : Nat} : ∀ {l : List (Nat × α)}, hasKey l k = true → ∃ x, (k, x) ∈ l
  | [], h => by simp [hasKey] at h
  | (u, y) :: r, h => by
    simp only [hasKey, Bool.or_eq_true] at h
    rcases h with h | h
    · exact ⟨y, by rw [Nat.eq_of_beq_eq_true h]; exact List.mem_cons_self⟩
    · obtain ⟨x, hx⟩ := hasKey_mem h; exact ⟨x, List.mem_cons_of_mem _ hx⟩
theorem touch_of_cont {r : Row} {k : Nat} (h : r.cont k ≠ none) : r.touch k = true := by
  unfold Row.cont at h
  unfold Row.touch
  cases hp : lk r.puts k with
  | some c => simp [hasKey_of_lk hp]
  | none =>
    rw [hp] at h
    cases hn : lk r.neu k with
    | some c => simp [hasKey_of_lk hn]
    | none => rw [hn] at h; exact absurd rfl h
theorem hasLL_of_lk {k t : Nat} {x : SV} : ∀ {L : Sl}, lk L t = some x → hasLL k L = false → x.has k = false
  | [], h, _ => by simp [lk] at h
  | (u, y) :: r, h, hn => by
    simp only [hasLL, Bool.or_eq_false_iff] at hn
    simp only [lk] at h
    cases hb : Nat.beq u t with
    | true => rw [hb] at h; simp at h; subst h; exact hn.1
    | false => rw [hb] at h; exact hasLL_of_lk h hn.2
theorem hasBL_of_lk {k t : Nat} {x : Ct} : ∀ {L : Bl}, lk L t = some x → hasBL k L = false → x.1.has k = false
  | [], h, _ => by simp [lk] at h
  | (u, y) :: r, h, hn => by
    simp only [hasBL, Bool.or_eq_false_iff] at hn
    simp only [lk] at h
    cases hb : Nat.beq u t with
    | true => rw [hb] at h; simp at h; subst h; exact hn.1
    | false => rw [hb] at h; exact hasBL_of_lk h hn.2
structure Env (N : Nat) (F : Fx) (B0 : Bs) (w0 : World) (S : Nat → Option SV) (C : Nat → Option Ct) (γ : Nat → Nat) (a : Act) (w : World) : Prop where
  tsize : a.tmps.size = N
  defers : a.defers = []
  slot : ∀ t x, S t = some x → a.tmps[t]? = some (x.den γ)
  heap : ∀ k c, C k = some c → c.at γ (γ k) w
  own : ∀ k c, C k = some c → ∀ g, c.ft (γ k) g → w0.heap.size ≤ g ∨ B0.b g ∨ (c.mu = false ∧ B0.o g)
  inj : ∀ k k' c c', C k = some c → C k' = some c' → c.mu = true → k ≠ k' → ∀ g, c.ft (γ k) g → ¬ c'.ft (γ k') g
  fix : ∀ p ∈ F, γ p.1 = p.2
  keep : Keep B0 w0 w
theorem Env.mono {N : Nat} {F : Fx} {B0 : Bs} {w0 : World} {S S' : Nat → Option SV} {C C' : Nat → Option Ct} {γ : Nat → Nat} {a : Act} {w : World} (h : Env N F B0 w0 S C γ a w)
    (hS : ∀ t x, S' t = some x → S t = some x) (hC : ∀ k c, C' k = some c → C k = some c) : Env N F B0 w0 S' C' γ a w :=
  ⟨h.tsize, h.defers, fun t x hx => h.slot t x (hS t x hx), fun k c hc => h.heap k c (hC k c hc), fun k c hc => h.own k c (hC k c hc), fun k k' c c' hc hc' => h.inj k k' c c' (hC k c hc) (hC k' c' hc'), h.fix, h.keep⟩
theorem Env.lt {N : Nat} {F : Fx} {B0 : Bs} {w0 : World} {S : Nat → Option SV} {C : Nat → Option Ct} {γ : Nat → Nat} {a : Act} {w : World} (h : Env N F B0 w0 S C γ a w) {k g : Nat} {c : Ct} (hc : C k = some c) (hf : c.ft (γ k) g) : g < w.heap.size :=
  Ct.lt (h.heap k c hc) hf
section
variable {P : Program} {N : Nat} {F : Fx} {B0 : Bs} {w0 : World} {ops : Array Oper} {Q : Exit → Act → World → Prop} {R : List Row} {L : Sl} {M : Bl} {B : List Nat} {b : Nat → Bool}
theorem chk_bits (hc : chk N F R L M B = true) {i j : Nat} (h : bit B i j = true) : j < i ∧ i < R.length ∧ ∀ l, bit B j l = true → bit B i l = true := by
  simp only [chk, chkB, Bool.and_eq_true] at hc
  obtain ⟨⟨h1, h2⟩, -⟩ := hc
  have hlen := Nat.eq_of_beq_eq_true h2
  by_cases hi : i < B.length
  · have hg : B[i]? = some (B.getD i 0) := by simp [List.getD, List.getElem?_eq_getElem hi]
    have h3 := allI_get h1 i _ hg
    simp only [Nat.zero_add, Bool.and_eq_true, decide_eq_true_eq, List.all_eq_true, List.mem_range, Bool.or_eq_true, Bool.not_eq_true'] at h3
    have hj : j < i := by
      by_cases hji : j < i
      · exact hji
      · unfold bit at h
        rw [Nat.testBit_lt_two_pow (Nat.lt_of_lt_of_le h3.1 (Nat.pow_le_pow_right (by omega) (by omega)))] at h
        cases h
    refine ⟨hj, by omega, fun l hl => ?_⟩
    rcases h3.2 j hj with h4 | h4
    · unfold bit at h; rw [h] at h4; cases h4
    · have h5 := Nat.eq_of_beq_eq_true h4
      unfold bit at hl ⊢
      rw [← h5, Nat.testBit_or, hl, Bool.or_true]
  · unfold bit at h
    rw [show B.getD i 0 = 0 by simp [List.getD, List.getElem?_eq_none (show B.length ≤ i by omega)]] at h
    simp at h
theorem chk_row (hc : chk N F R L M B = true) {i : Nat} {r : Row} (hr : R[i]? = some r) : chkRow N F R L M B i r = true := by
  simp only [chk, Bool.and_eq_true] at hc
  simpa using allI_get hc.2 i r hr
structure RowOk (N : Nat) (F : Fx) (R : List Row) (L : Sl) (M : Bl) (B : List Nat) (i : Nat) (r : Row) : Prop where
  use : ∀ j x, R[j]? = some x → j ≠ i → ∀ p ∈ r.use, isDst x p.1 = true → bit B i j = true ∨ bit B j i = true
  keys : ∀ j x, R[j]? = some x → j ≠ i → ∀ p ∈ r.keys, x.touch p.1 = true → bit B i j = true ∨ bit B j i = true
  puts : ∀ j x, R[j]? = some x → j ≠ i → ∀ p ∈ r.puts, x.touch p.1 = true → bit B i j = true ∨ bit B j i = true
  neu : ∀ j x, R[j]? = some x → j ≠ i → ∀ p ∈ r.neu, x.touch p.1 = true → bit B j i = true
  dst : ∀ j x, R[j]? = some x → j ≠ i → ∀ t, r.dst = some t → x.dst ≠ some t
  free : ∀ j x, R[j]? = some x → j ≠ i → ∀ p ∈ r.neu, x.has p.1 = true → bit B j i = true
  size : ∀ t, r.dst = some t → t < N
  new : ∀ p ∈ r.neu, hasKey M p.1 = false ∧ hasKey F p.1 = false ∧ hasLL p.1 L = false ∧ hasBL p.1 M = false
  live : ∀ p ∈ r.puts, (∃ c, lk r.keys p.1 = some c ∧ c.mu = true) ∧ hasKey r.neu p.1 = false
theorem rowOk (hc : chk N F R L M B = true) {i : Nat} {r : Row} (hr : R[i]? = some r) : RowOk N F R L M B i r := by
  have h := chk_row hc hr
  simp only [chkRow, Bool.and_eq_true] at h
  obtain ⟨h1, h2, h3, h4, h5⟩ := h
  have key : ∀ j x, R[j]? = some x → j ≠ i → _ := fun j x hx hne => by
    have := allI_get h1 j x hx
    simp only [Nat.zero_add, beq_ne hne, Bool.false_or, Bool.and_eq_true, List.all_eq_true, Bool.or_eq_true, Bool.not_eq_true'] at this
    exact this
  refine ⟨fun j x hx hne p hp hd => ?_, fun j x hx hne p hp hd => ?_, fun j x hx hne p hp hd => ?_, fun j x hx hne p hp hd => ?_, fun j x hx hne t ht hxt => ?_, fun j x hx hne p hp hd => ?_, fun t ht => ?_, fun p hp => ?_, fun p hp => ?_⟩
  · rcases (key j x hx hne).1 p hp with h | h
    · rw [hd] at h; cases h
    · exact h
  · rcases (key j x hx hne).2.1 p hp with h | h
    · rw [hd] at h; cases h
    · exact h
  · rcases (key j x hx hne).2.2.1 p hp with h | h
    · rw [hd] at h; cases h
    · exact h
  · rcases (key j x hx hne).2.2.2.1 p hp with h | h
    · rw [hd] at h; cases h
    · exact h
  · have := (key j x hx hne).2.2.2.2.1
    rw [ht] at this
    simp only [isDst, hxt, beq_self, Bool.not_true] at this
    cases this
  · rcases (key j x hx hne).2.2.2.2.2 p hp with h | h
    · rw [hd] at h; cases h
    · exact h
  · rw [ht] at h2; simpa using h2
  · have := List.all_eq_true.1 h3 p hp
    simpa using this
  · have := List.all_eq_true.1 h5 p hp
    simp only [Bool.and_eq_true, Bool.not_eq_true'] at this
    refine ⟨?_, this.2⟩
    cases hl : lk r.keys p.1 with
    | none => rw [hl] at this; cases this.1
    | some c => rw [hl] at this; exact ⟨c, rfl, by simpa using this.1⟩
theorem slotAt_congr {b b' : Nat → Bool} {t : Nat} (h : ∀ j r, R[j]? = some r → r.dst = some t → b j = b' j) : slotAt R L b t = slotAt R L b' t := by
  unfold slotAt
  rw [slotIn_congr (fun j r hj hd => by simpa using h j r hj hd)]
theorem contAt_congr {b b' : Nat → Bool} {k : Nat} (h : ∀ j r, R[j]? = some r → r.cont k ≠ none → b j = b' j) : contAt R M b k = contAt R M b' k := by
  unfold contAt
  rw [contIn_congr (fun j r hj hd => by simpa using h j r hj hd)]
theorem step_ok (hc : chk N F R L M B = true) (hsrc : srcs R L M B 0 R = wants R) {i : Nat} {o : Oper} {r : Row} (hr : R[i]? = some r) (ht : Trip P F B0 w0 ops o r)
    (hb : b i = false) (hpre : ∀ j, bit B i j = true → b j = true) (hpost : ∀ d, bit B d i = true → b d = false) {γ : Nat → Nat} {a : Act} {w : World}
    (E : Env N F B0 w0 (slotAt R L b) (contAt R M b) γ a w) {K : Act → World → Prop}
    (hK : ∀ γ' a' w', Env N F B0 w0 (slotAt R L (up b i)) (contAt R M (up b i)) γ' a' w' → K a' w') : StepGoal P ops o a w K Q := by
  have ok := rowOk hc hr
  obtain ⟨hu, hk⟩ := srcs_get hsrc i r hr
  simp only [Nat.zero_add] at hu hk
  have isD : ∀ {x : Row} {t : Nat}, x.dst = some t → isDst x t = true := fun {x t} h => by simp [isDst, h]
  have ii : bit B i i = false := by
    cases h : bit B i i with
    | false => rfl
    | true => have := (chk_bits hc h).1; omega
  -- what the operation looks at
  have hU : ∀ p ∈ r.use, a.tmps[p.1]? = some (p.2.den γ) := fun p hp => by
    refine E.slot _ _ ?_
    rw [← hu p hp]
    refine slotAt_congr (fun j x hj hd => ?_)
    by_cases hji : j = i
    · subst hji; rw [hb, ii]
    · rcases ok.use j x hj hji p hp (isD hd) with h | h
      · rw [h, hpre j h]
      · rw [hpost j h]
        cases h' : bit B i j with
        | false => rfl
        | true => have h1 := (chk_bits hc h).1; have h2 := (chk_bits hc h').1; omega
  have hKk : ∀ p ∈ r.keys, contAt R M b p.1 = some p.2 := fun p hp => by
    rw [← hk p hp]
    refine contAt_congr (fun j x hj hd => ?_)
    by_cases hji : j = i
    · subst hji; rw [hb, ii]
    · rcases ok.keys j x hj hji p hp (touch_of_cont hd) with h | h
      · rw [h, hpre j h]
      · rw [hpost j h]
        cases h' : bit B i j with
        | false => rfl
        | true => have h1 := (chk_bits hc h).1; have h2 := (chk_bits hc h').1; omega
  refine ht.2 γ a w Q K E.keep E.fix hU (fun p hp => E.heap _ _ (hKk p hp)) (fun p hp q hq hne hmu => E.inj p.1 q.1 p.2 q.2 (hKk p hp) (hKk q hq) hmu hne) (fun γ' w' he => hK γ' _ w' ?_)
  have hnew : ∀ k c, lk r.neu k = some c → contAt R M b k = none ∧ ∀ j x, R[j]? = some x → b j = true → x.has k = false := fun k c hkc => by
    have hm := lk_mem hkc
    have hn := ok.new _ hm
    refine ⟨?_, fun j x hj hbj => ?_⟩
    · cases hca : contAt R M b k with
      | none => rfl
      | some c' =>
        unfold contAt at hca
        cases hin : contIn b R 0 k with
        | none => rw [hin] at hca; simp only at hca; rw [lk_none_of_hasKey hn.1] at hca; cases hca
        | some c'' =>
          obtain ⟨j, x, hj, hxc, hbj⟩ := contIn_some hin
          simp only [Nat.zero_add] at hbj
          by_cases hji : j = i
          · subst hji; rw [hb] at hbj; cases hbj
          · have := ok.neu j x hj hji _ hm (touch_of_cont (by rw [hxc]; simp))
            rw [hpost j this] at hbj; cases hbj
    · cases hh : x.has k with
      | false => rfl
      | true =>
        by_cases hji : j = i
        · subst hji; rw [hb] at hbj; cases hbj
        · rw [hpost j (ok.free j x hj hji _ hm hh)] at hbj; cases hbj
  have hputK : ∀ k c, lk r.puts k = some c → ∃ c', (k, c') ∈ r.keys ∧ contAt R M b k = some c' ∧ c'.mu = true := fun k c hkc => by
    obtain ⟨x, hx, hN⟩ := (ok.live _ (lk_mem hkc)).1
    exact ⟨x, lk_mem hx, hKk _ (lk_mem hx), hN⟩
  have hkeyU : ∀ p ∈ r.keys, ∀ c', contAt R M b p.1 = some c' → c' = p.2 := fun p hp c' h => by
    have := hKk p hp
    rw [h] at this
    exact Option.some.inj this
  -- values and contents that are known already keep their meaning
  have hSV : ∀ t x, slotAt R L b t = some x → x.den γ' = x.den γ := fun t x hx => by
    refine SV.den_congr (fun k hk' => he.name k ?_)
    cases hn : lk r.neu k with
    | none => rfl
    | some c =>
      exfalso
      unfold slotAt at hx
      cases hin : slotIn b R 0 t with
      | none =>
        rw [hin] at hx; simp only at hx
        rw [hasLL_of_lk hx (ok.new _ (lk_mem hn)).2.2.1] at hk'; cases hk'
      | some y =>
        rw [hin] at hx; simp only [Option.some.injEq] at hx; subst hx
        obtain ⟨j, q, hj, -, hbj, rfl⟩ := slotIn_some hin
        have := (hnew k c hn).2 j q hj (by simpa using hbj)
        simp only [Row.has, Bool.or_eq_false_iff] at this
        rw [this.1] at hk'; cases hk'
  have hCt : ∀ k c, contAt R M b k = some c → c.obj γ' = c.obj γ := fun k c hkc => by
    refine Ct.obj_congr (fun k' hk' => he.name k' ?_)
    cases hn : lk r.neu k' with
    | none => rfl
    | some c' =>
      exfalso
      unfold contAt at hkc
      cases hin : contIn b R 0 k with
      | none =>
        rw [hin] at hkc; simp only at hkc
        rw [hasBL_of_lk hkc (ok.new _ (lk_mem hn)).2.2.2] at hk'; cases hk'
      | some y =>
        rw [hin] at hkc; simp only [Option.some.injEq] at hkc; subst hkc
        obtain ⟨j, q, hj, hq, hbj⟩ := contIn_some hin
        have := (hnew k' c' hn).2 j q hj (by simpa using hbj)
        simp only [Row.has, Bool.or_eq_false_iff] at this
        unfold Row.cont at hq
        cases hp : lk q.puts k with
        | some z =>
          rw [hp] at hq; simp only [Option.some.injEq] at hq; subst hq
          rw [hasBL_of_lk hp this.2.2] at hk'; cases hk'
        | none =>
          rw [hp] at hq
          rw [hasBL_of_lk hq this.2.1] at hk'; cases hk'
  have hnm : ∀ k c, contAt R M b k = some c → γ' k = γ k := fun k c hkc => by
    refine he.name k ?_
    cases hn : lk r.neu k with
    | none => rfl
    | some c' => rw [(hnew k c' hn).1] at hkc; cases hkc
  -- the contents behind the step
  have hcont : ∀ k c, contAt R M (up b i) k = some c → (r.cont k = some c) ∨ (r.cont k = none ∧ contAt R M b k = some c) := fun k c hkc => by
    cases hrc : r.cont k with
    | none =>
      right
      refine ⟨rfl, ?_⟩
      rw [← hkc]
      refine (contAt_congr (fun j x hj hd => ?_)).symm
      by_cases hji : j = i
      · subst hji; rw [hr] at hj; cases hj; exact absurd hrc hd
      · exact up_ne hji
    | some c' =>
      left
      unfold contAt at hkc
      rw [contIn_of (i := 0) (j := i) hr hrc (by rw [Nat.zero_add]; exact up_self b i) (fun j' r' hj' hne hbj => ?_)] at hkc
      · exact hkc
      · by_cases hji : j' = i
        · omega
        · simp only [Nat.zero_add] at hbj
          rw [up_ne hji] at hbj
          have hor : bit B i j' = true ∨ bit B j' i = true := by
            unfold Row.cont at hrc
            cases hp : lk r.puts k with
            | some z => exact ok.puts j' r' hj' hji _ (lk_mem hp) (touch_of_cont hne)
            | none =>
              rw [hp] at hrc
              exact .inr (ok.neu j' r' hj' hji _ (lk_mem hrc) (touch_of_cont hne))
          rcases hor with h | h
          · have := (chk_bits hc h).1; omega
          · rw [hpost j' h] at hbj; cases hbj
  have hdstN : ∀ t, r.dst = some t → t < a.tmps.size := fun t h => by rw [E.tsize]; exact ok.size t h
  have kind : ∀ k c, contAt R M (up b i) k = some c → (lk r.neu k = some c ∧ lk r.puts k = none) ∨ (∃ c', contAt R M b k = some c' ∧ (∀ g, c.ft (γ k) g → c'.ft (γ k) g) ∧ (c.mu = true → c'.mu = true) ∧ (lk r.puts k = some c ∨ (lk r.puts k = none ∧ c' = c))) := fun k c hkc => by
    rcases hcont k c hkc with h | h
    · unfold Row.cont at h
      cases hp : lk r.puts k with
      | some z =>
        rw [hp] at h; simp only [Option.some.injEq] at h; subst h
        obtain ⟨c', hm, h', h2⟩ := hputK k z hp
        exact .inr ⟨c', h', fun g hg => (he.put k z hp).2 g hg _ hm rfl, fun _ => h2, .inl rfl⟩
      | none => rw [hp] at h; exact .inl ⟨h, rfl⟩
    · refine .inr ⟨c, h.2, fun _ h => h, fun h => h, .inr ⟨?_, rfl⟩⟩
      have := h.1
      unfold Row.cont at this
      cases hp : lk r.puts k with
      | some z => rw [hp] at this; cases this
      | none => rfl
  have hsame : ∀ k c, contAt R M (up b i) k = some c → lk r.neu k = none ∨ lk r.puts k ≠ none → γ' k = γ k := fun k c hkc h => by
    rcases h with h | h
    · exact he.name k h
    · cases hp : lk r.puts k with
      | none => exact absurd hp h
      | some z => obtain ⟨c', -, h', -⟩ := hputK k z hp; exact hnm k c' h'
  -- a block of a new thing: new, or one of a thing that is gone, or one that never turns
  have own' : ∀ k c, contAt R M (up b i) k = some c → ∀ g, c.ft (γ' k) g → w0.heap.size ≤ g ∨ B0.b g ∨ (c.mu = false ∧ B0.o g) := fun k c hkc g hg => by
    rcases kind k c hkc with ⟨hn, hpn⟩ | ⟨c', h', hft, hmu', -⟩
    · rcases (he.fresh k c hn).2 g hg with h | ⟨p, hp, h3, h4⟩
      · exact .inl (Nat.le_trans E.keep.size h)
      · rcases E.own p.1 p.2 (hKk p hp) g h3 with h5 | h5 | h5
        · exact .inl h5
        · exact .inr (.inl h5)
        · rcases h4 with h4 | h4
          · rw [h5.1] at h4; cases h4.1
          · exact .inr (.inr ⟨h4.2, h5.2⟩)
    · rw [hnm k c' h'] at hg
      rcases E.own k c' h' g (hft g hg) with h5 | h5 | h5
      · exact .inl h5
      · exact .inr (.inl h5)
      · refine .inr (.inr ⟨?_, h5.2⟩)
        cases hm : c.mu with
        | false => rfl
        | true => have := hmu' hm; rw [h5.1] at this; cases this
  refine ⟨?_, ?_, ?_, ?_, own', ?_, ?_, ?_⟩
  · cases hd : r.dst with
    | none => exact E.tsize
    | some t => simp [Act.put, E.tsize]
  · cases hd : r.dst with
    | none => exact E.defers
    | some t => exact E.defers
  · intro t x hx
    by_cases htd : r.dst = some t
    · have : slotAt R L (up b i) t = some r.v := by
        unfold slotAt
        rw [slotIn_of (i := 0) (j := i) hr htd (by rw [Nat.zero_add]; exact up_self b i) (fun j' r' hj' hd' => Classical.byContradiction fun hne => ok.dst j' r' hj' hne t htd hd')]
      rw [this] at hx
      simp only [Option.some.injEq] at hx; subst hx
      rw [htd]
      simp [Act.put, hdstN t htd]
    · have h1 : slotAt R L b t = some x := by
        rw [← hx]
        refine slotAt_congr (fun j q hj hd => ?_)
        by_cases hji : j = i
        · subst hji; rw [hr] at hj; cases hj; exact absurd hd htd
        · exact (up_ne hji).symm
      rw [hSV t x h1, ← E.slot t x h1]
      cases hd : r.dst with
      | none => rfl
      | some d =>
        have : d ≠ t := fun e => htd (by rw [hd, e])
        simp [Act.put, Array.getElem?_setIfInBounds_ne this]
  · intro k c hkc
    rcases hcont k c hkc with h | h
    · unfold Row.cont at h
      cases hp : lk r.puts k with
      | some z =>
        rw [hp] at h; simp only [Option.some.injEq] at h; subst h
        obtain ⟨c', -, h', -⟩ := hputK k z hp
        rw [hnm k c' h']
        exact (he.put k z hp).1
      | none =>
        rw [hp] at h
        exact (he.fresh k c h).1
    · rw [hnm k c h.2]
      have hnp : lk r.puts k = none := by
        have := h.1
        unfold Row.cont at this
        cases hp : lk r.puts k with
        | some z => rw [hp] at this; cases this
        | none => rfl
      refine Ct.stay (E.heap k c h.2) (fun g hg => he.block g (E.lt h.2 hg) (fun p hp hpp hf => ?_)) (fun k' hk' => ?_)
      · cases hpz : lk r.puts p.1 with
        | none =>
          have : ∀ {l : Bl}, hasKey l p.1 = true → lk l p.1 ≠ none := by
            intro l
            induction l with
            | nil => intro h; simp [hasKey] at h
            | cons q l ih =>
              obtain ⟨u, y⟩ := q
              intro h
              simp only [hasKey, Bool.or_eq_true] at h
              simp only [lk]
              rcases h with h | h
              · simp [h]
              · cases hb : Nat.beq u p.1 with
                | true => simp
                | false => simpa using ih h
          exact this hpp hpz
        | some z =>
          obtain ⟨c', hm, h', h2⟩ := hputK p.1 z hpz
          have e := hkeyU p hp c' h'
          subst e
          have hne : p.1 ≠ k := fun e => by rw [e, hnp] at hpz; cases hpz
          exact E.inj p.1 k _ c h' h.2 h2 hne g hf hg
      · refine he.name k' ?_
        cases hn : lk r.neu k' with
        | none => rfl
        | some c' =>
          exfalso
          have hkc' := h.2
          unfold contAt at hkc'
          cases hin : contIn b R 0 k with
          | none =>
            rw [hin] at hkc'; simp only at hkc'
            rw [hasBL_of_lk hkc' (ok.new _ (lk_mem hn)).2.2.2] at hk'; cases hk'
          | some y =>
            rw [hin] at hkc'; simp only [Option.some.injEq] at hkc'; subst hkc'
            obtain ⟨j, q, hj, hq, hbj⟩ := contIn_some hin
            have := (hnew k' c' hn).2 j q hj (by simpa using hbj)
            simp only [Row.has, Bool.or_eq_false_iff] at this
            unfold Row.cont at hq
            cases hp : lk q.puts k with
            | some z =>
              rw [hp] at hq; simp only [Option.some.injEq] at hq; subst hq
              rw [hasBL_of_lk hp this.2.2] at hk'; cases hk'
            | none =>
              rw [hp] at hq
              rw [hasBL_of_lk hq this.2.1] at hk'; cases hk'
  · intro k k' c c' hkc hkc' hmu hne g hg hg'
    rcases kind k c hkc with ⟨hd, hdp⟩ | ⟨d, hd, hdf, hdm, hdp⟩ <;> rcases kind k' c' hkc' with ⟨hd', hdp'⟩ | ⟨d', hd', hdf', -, hdp'⟩
    · exact he.apart k k' c c' hd hd' hmu hne g hg hg'
    · rw [hnm k' d' hd'] at hg'
      have hl := E.lt hd' (hdf' g hg')
      rcases (he.fresh k c hd).2 g hg with h | ⟨p, hp, h3, h4⟩
      · omega
      · rcases h4 with h4 | h4
        · by_cases e : p.1 = k'
          · rcases hdp' with h5 | ⟨h5, -⟩
            · rw [e] at h4
              rw [h4.2] at h5
              simp only [Option.some.injEq] at h5
              rw [← h5] at hg'
              exact hg'
            · rw [e, h5] at h4; cases h4.2
          · exact E.inj p.1 k' p.2 d' (hKk p hp) hd' h4.1 e g h3 (hdf' g hg')
        · rw [hmu] at h4; exact absurd h4.2 (by simp)
    · rw [hnm k d hd] at hg
      have hl := E.lt hd (hdf g hg)
      rcases (he.fresh k' c' hd').2 g hg' with h | ⟨p, hp, h3, h4⟩
      · omega
      · by_cases e : k = p.1
        · have hpd := hkeyU p hp d (by rw [← e]; exact hd)
          rcases h4 with h4 | h4
          · rcases hdp with h5 | ⟨h5, -⟩
            · rw [e, h4.2] at h5
              simp only [Option.some.injEq] at h5
              rw [← h5] at hg
              exact hg
            · rw [e, h4.2] at h5; cases h5
          · have := hdm hmu
            rw [hpd, h4.1] at this
            cases this
        · exact E.inj k p.1 d p.2 hd (hKk p hp) (hdm hmu) e g (hdf g hg) h3
    · rw [hnm k d hd] at hg
      rw [hnm k' d' hd'] at hg'
      exact E.inj k k' d d' hd hd' (hdm hmu) hne g (hdf g hg) (hdf' g hg')
  · intro p hp
    rw [he.name p.1]
    · exact E.fix p hp
    · cases hn : lk r.neu p.1 with
      | none => rfl
      | some c =>
        exfalso
        have := (ok.new _ (lk_mem hn)).2.1
        simp only at this
        have h2 : hasKey F p.1 = true := by
          have : ∀ {l : Fx}, p ∈ l → hasKey l p.1 = true := by
            intro l
            induction l with
            | nil => intro h; cases h
            | cons x l ih =>
              intro h
              rcases List.mem_cons.1 h with h | h
              · subst h; simp [hasKey]
              · simp [hasKey, ih h]
          exact this hp
        rw [this] at h2; cases h2
  · refine ⟨he.os.trans E.keep.os, he.tape.trans E.keep.tape, he.output.trans E.keep.output, Nat.le_trans E.keep.size he.size, fun j hj hF => ?_⟩
    rw [he.block j (Nat.lt_of_lt_of_le hj E.keep.size) (fun p hp hpp hf => ?_)]
    · exact E.keep.block j hj hF
    · obtain ⟨z, hz⟩ := hasKey_mem hpp
      obtain ⟨x, hx, hN⟩ := (ok.live _ hz).1
      have e := hkeyU p hp x (hKk _ (lk_mem hx))
      subst e
      rcases E.own p.1 _ (hKk p hp) j hf with h | h | h
      · omega
      · exact hF h
      · rw [hN] at h; cases h.1
theorem wpOp_of {i : Nat} {o : Oper} (ho : ops[i]? = some o) {K : Act → World → Prop} {a : Act} {w : World} (h : StepGoal P ops o a w K Q) : wpOp P ops Q i K a w := by
  unfold wpOp
  rw [ho]
  exact h
def outs (R : List Row) (L : Sl) (M : Bl) (L1 : Sl) (M1 : Bl) : List (Option SV) × List (Option Ct) :=
  (L1.map fun p => slotAt R L (fun _ => true) p.1, M1.map fun p => contAt R M (fun _ => true) p.1)
def outw (L1 : Sl) (M1 : Bl) : List (Option SV) × List (Option Ct) := (L1.map fun p => some p.2, M1.map fun p => some p.2)
theorem Env.out {L1 : Sl} {M1 : Bl} (ho : outs R L M L1 M1 = outw L1 M1) {b : Nat → Bool} (hb : ∀ j, j < R.length → b j = true) {γ : Nat → Nat} {a : Act} {w : World}
    (E : Env N F B0 w0 (slotAt R L b) (contAt R M b) γ a w) : Env N F B0 w0 (lk L1) (lk M1) γ a w := by
  simp only [outs, outw, Prod.mk.injEq] at ho
  refine E.mono (fun t x hx => ?_) (fun k c hk => ?_)
  · have := List.map_inj_left.1 ho.1 _ (lk_mem hx)
    simp only at this
    rw [← this]
    refine slotAt_congr (fun j r hj _ => ?_)
    exact hb j (List.getElem?_eq_some_iff.1 hj).1
  · have := List.map_inj_left.1 ho.2 _ (lk_mem hk)
    simp only at this
    rw [← this]
    refine contAt_congr (fun j r hj _ => ?_)
    exact hb j (List.getElem?_eq_some_iff.1 hj).1
theorem slotAt_none (R : List Row) (L : Sl) : slotAt R L (fun _ => false) = lk L := by
  funext t
  have : ∀ (R : List Row) (i : Nat), slotIn (fun _ => false) R i t = none := by
    intro R
    induction R with
    | nil => intro i; rfl
    | cons r rs ih => intro i; simp only [slotIn, Bool.and_false, cond_false]; exact ih _
  simp only [slotAt, this]
theorem contAt_none (R : List Row) (M : Bl) : contAt R M (fun _ => false) = lk M := by
  funext t
  have : ∀ (R : List Row) (i : Nat), contIn (fun _ => false) R i t = none := by
    intro R
    induction R with
    | nil => intro i; rfl
    | cons r rs ih => intro i; simp only [contIn, ih, cond_false]
  simp only [contAt, this]
def lowB (n : Nat) (B : List Nat) : Bool := allI (fun i m => Nat.beq m (2 ^ i - 1)) 0 B && Nat.beq B.length n
theorem low_bit {n : Nat} (h : lowB n B = true) {i j : Nat} (hb : bit B i j = true) : j < i := by
  simp only [lowB, Bool.and_eq_true] at h
  unfold bit at hb
  by_cases hi : i < B.length
  · have := allI_get h.1 i (B.getD i 0) (by simp [List.getD, List.getElem?_eq_getElem hi])
    rw [Nat.eq_of_beq_eq_true this, Nat.zero_add, Nat.testBit_two_pow_sub_one] at hb
    simpa using hb
  · rw [show B.getD i 0 = 0 by simp [List.getD, List.getElem?_eq_none (show B.length ≤ i by omega)]] at hb
    simp at hb
theorem region_t {id : Nat} {γ : Nat → Nat} {a : Act} {w : World} (R : List Row) (B : List Nat) (L1 : Sl) (M1 : Bl) (E : Env N F B0 w0 (lk L) (lk M) γ a w)
    (hc : (chk N F R L M B && lowB R.length B) = true) (hsrc : srcs R L M B 0 R = wants R) (ho : outs R L M L1 M1 = outw L1 M1) (htr : Trips P F B0 w0 ops ops.toList R)
    (h : ∀ γ a w, Env N F B0 w0 (lk L1) (lk M1) γ a w → Q .normal a w) : (Code.region id ops false).wp P Q a w := by
  rw [Bool.and_eq_true] at hc
  obtain ⟨hlen, hget⟩ := htr.get
  simp only [Array.length_toList] at hlen
  refine wp_region ?_
  have key : ∀ (d i : Nat), i + d = ops.size → ∀ γ a w, Env N F B0 w0 (slotAt R L fun j => decide (j < i)) (contAt R M fun j => decide (j < i)) γ a w → wpOps P ops Q (List.range' i d) a w := by
    intro d
    induction d with
    | zero =>
      intro i hi γ a w E
      exact h γ a w (E.out ho (fun j hj => by simp; omega))
    | succ d ih =>
      intro i hi γ a w E
      have hlt : i < ops.size := by omega
      have hoi : ops[i]? = some ops[i] := Array.getElem?_eq_getElem hlt
      obtain ⟨r, hr, ht⟩ := hget i ops[i] (by rw [Array.getElem?_toList]; exact hoi)
      rw [List.range'_succ, wpOps_cons]
      have hup : up (fun j => decide (j < i)) i = fun j => decide (j < i + 1) := by
        funext j
        by_cases hj : j = i
        · subst hj; simp [up_self]
        · rw [up_ne hj]; simp only [decide_eq_decide]; omega
      refine wpOp_of hoi (step_ok hc.1 hsrc hr ht (by simp) (fun j hj => by have := low_bit hc.2 hj; simpa using this) (fun d hd => by have := low_bit hc.2 hd; simp; omega) E (fun γ' a' w' E' => ?_))
      rw [hup] at E'
      exact ih (i + 1) (by omega) γ' a' w' E'
  rw [List.range_eq_range']
  refine key ops.size 0 (by omega) γ a w ?_
  have e : (fun j => decide (j < 0)) = (fun _ : Nat => false) := by funext j; simp
  rw [e, slotAt_none, contAt_none]
  exact E
def edgeB (ops : Array Oper) (B : List Nat) : Bool :=
  allI (fun i o => o.after.toList.all (fun e => !Region.binds .any e || decide (e.on < i)) && (List.range i).all fun j => !bit B i j || o.after.toList.any fun e => Region.binds .any e && (Nat.beq e.on j || bit B e.on j)) 0 ops.toList
theorem edge_of (h : edgeB ops B = true) {i : Nat} {o : Oper} (hoi : ops[i]? = some o) : (∀ e ∈ o.after.toList, Region.binds .any e = true → e.on < i) ∧
    ∀ j, j < i → bit B i j = true → ∃ e ∈ o.after.toList, Region.binds .any e = true ∧ (e.on = j ∨ bit B e.on j = true) := by
  have := allI_get h i o (by rw [Array.getElem?_toList]; exact hoi)
  simp only [Nat.zero_add, Bool.and_eq_true, List.all_eq_true, Bool.or_eq_true, Bool.not_eq_true', decide_eq_true_eq, List.mem_range, List.any_eq_true] at this
  refine ⟨fun e he hb => ?_, fun j hj hb => ?_⟩
  · rcases this.1 e he with h | h
    · rw [h] at hb; cases hb
    · exact h
  · rcases this.2 j hj with h | ⟨e, he, h1, h2⟩
    · rw [h] at hb; cases hb
    · exact ⟨e, he, h1, h2.imp Nat.eq_of_beq_eq_true id⟩
theorem region_d {id : Nat} {γ : Nat → Nat} {a : Act} {w : World} (R : List Row) (B : List Nat) (L1 : Sl) (M1 : Bl) (E : Env N F B0 w0 (lk L) (lk M) γ a w)
    (hm : P.follows .mixedOrders = true) (hc : (chk N F R L M B && edgeB ops B) = true) (hsrc : srcs R L M B 0 R = wants R) (ho : outs R L M L1 M1 = outw L1 M1) (htr : Trips P F B0 w0 ops ops.toList R)
    (h : ∀ γ a w, Env N F B0 w0 (lk L1) (lk M1) γ a w → Q .normal a w) : (Code.region id ops true).wp P Q a w := by
  rw [Bool.and_eq_true] at hc
  obtain ⟨hlen, hget⟩ := htr.get
  simp only [Array.length_toList] at hlen
  refine wp_region_any hm ?_
  have key : ∀ (m : Nat) (l : Array Bool), l.size = ops.size → (l.toList.filter (fun x => !x)).length = m → (∀ d, l.getD d false = true → ∀ j, bit B d j = true → l.getD j false = true) → ∀ γ a w,
      Env N F B0 w0 (slotAt R L fun j => l.getD j false) (contAt R M fun j => l.getD j false) γ a w → wpAny P .any ops Q m l a w := by
    intro m
    induction m with
    | zero =>
      intro l hl hm0 hcl γ a w E
      have hall : ∀ j, j < ops.size → l.getD j false = true := by
        intro j hj
        have hjl : j < l.size := by omega
        have hmem : l[j] ∈ l.toList := by simp
        cases hv : l[j] with
        | true => simp [Array.getD, hjl, hv]
        | false =>
          have : l[j] ∈ l.toList.filter (fun x => !x) := List.mem_filter.2 ⟨hmem, by simp [hv]⟩
          rw [List.eq_nil_of_length_eq_zero hm0] at this; cases this
      refine ⟨?_, h γ a w (E.out ho (fun j hj => hall j (by omega)))⟩
      refine List.eq_nil_iff_forall_not_mem.2 (fun i hi => ?_)
      unfold Region.ready at hi
      rw [List.mem_filter, List.mem_range] at hi
      have h1 := hall i hi.1
      have h2 : l.getD i true = true := by
        have : i < l.size := by omega
        simp only [Array.getD, this, dite_true] at h1 ⊢
        exact h1
      rw [h2] at hi
      simp at hi
    | succ m ih =>
      intro l hl hm0 hcl γ a w E
      have hgd : ∀ j, j < ops.size → l.getD j true = l.getD j false := fun j hj => by simp [Array.getD, hl, hj]
      refine ⟨fun hr => ?_, fun i hi => ?_⟩
      · exfalso
        have hex : ∃ i, i < ops.size ∧ l.getD i false = false := by
          cases hf : l.toList.filter (fun x => !x) with
          | nil => rw [hf] at hm0; simp at hm0
          | cons x r =>
            have hx : x ∈ l.toList.filter (fun x => !x) := by rw [hf]; exact List.mem_cons_self
            rw [List.mem_filter] at hx
            obtain ⟨k, hk, hkx⟩ := List.getElem_of_mem hx.1
            have hk2 : k < l.size := by simpa using hk
            refine ⟨k, by omega, ?_⟩
            have hx2 : x = false := by simpa using hx.2
            simp only [Array.getD, hk2, dite_true]
            rw [← hx2, ← hkx]; simp
        have hmin : ∀ k, (∃ i, i ≤ k ∧ i < ops.size ∧ l.getD i false = false) → ∃ i, i < ops.size ∧ l.getD i false = false ∧ ∀ j, j < i → l.getD j false = true := by
          intro k
          induction k with
          | zero => rintro ⟨i, h0, h1, h2⟩; exact ⟨i, h1, h2, fun j hj => by omega⟩
          | succ k ihk =>
            rintro ⟨i, h0, h1, h2⟩
            by_cases hlow : ∃ j, j ≤ k ∧ j < ops.size ∧ l.getD j false = false
            · exact ihk hlow
            · refine ⟨i, h1, h2, fun j hj => ?_⟩
              cases hb : l.getD j false with
              | true => rfl
              | false => exact absurd ⟨j, by omega, by omega, hb⟩ hlow
        obtain ⟨i0, h1, h2⟩ := hex
        obtain ⟨i, hi, hb, hlow⟩ := hmin i0 ⟨i0, Nat.le_refl _, h1, h2⟩
        have hin : i ∈ Region.ready .any ops l := by
          unfold Region.ready
          rw [List.mem_filter, List.mem_range]
          refine ⟨hi, ?_⟩
          have hoi : ops[i]? = some ops[i] := Array.getElem?_eq_getElem hi
          rw [hgd i hi, hb, hoi]
          simp only [Bool.not_false, Option.map_some, Option.getD_some, Bool.true_and]
          rw [← Array.all_toList, List.all_eq_true]
          intro e he
          cases hbe : Region.binds .any e with
          | false => rfl
          | true =>
            have := (edge_of hc.2 hoi).1 e he hbe
            simp [hlow e.on this]
        rw [hr] at hin; cases hin
      · unfold Region.ready at hi
        rw [List.mem_filter, List.mem_range] at hi
        obtain ⟨hi, hi2⟩ := hi
        have hoi : ops[i]? = some ops[i] := Array.getElem?_eq_getElem hi
        rw [hgd i hi, hoi] at hi2
        simp only [Option.map_some, Option.getD_some, Bool.and_eq_true, Bool.not_eq_true'] at hi2
        rw [← Array.all_toList, List.all_eq_true] at hi2
        obtain ⟨hb, hedge⟩ := hi2
        obtain ⟨r, hr, ht⟩ := hget i ops[i] (by rw [Array.getElem?_toList]; exact hoi)
        have hpre : ∀ j, bit B i j = true → l.getD j false = true := fun j hj => by
          obtain ⟨e, he, hbe, hej⟩ := (edge_of hc.2 hoi).2 j (chk_bits hc.1 hj).1 hj
          have h1 := hedge e he
          rw [hbe] at h1
          simp only [Bool.not_true, Bool.false_or] at h1
          rcases hej with rfl | hej
          · exact h1
          · exact hcl e.on h1 j hej
        have hil : i < l.size := by omega
        have hgs : ∀ j, (l.setIfInBounds i true).getD j false = up (fun j => l.getD j false) i j := fun j => by
          by_cases hji : j = i
          · subst hji; rw [up_self]; simp [Array.getD, hil]
          · rw [up_ne hji]
            simp only [Array.getD, Array.size_setIfInBounds]
            split
            · rename_i hjl
              simp only [Array.getInternal_eq_getElem]
              rw [Array.getElem_setIfInBounds_ne _ (fun e => hji e.symm)]
            · rfl
        have hclo : ∀ d, (l.setIfInBounds i true).getD d false = true → ∀ j, bit B d j = true → (l.setIfInBounds i true).getD j false = true := fun d hd j hj => by
          rw [hgs] at hd ⊢
          by_cases hji : j = i
          · subst hji; exact up_self _ _
          · rw [up_ne hji]
            by_cases hdi : d = i
            · subst hdi; exact hpre j hj
            · rw [up_ne hdi] at hd; exact hcl d hd j hj
        have hcnt : ((l.setIfInBounds i true).toList.filter (fun x => !x)).length = m := by
          have hli : l[i] = false := by simpa [Array.getD, hil] using hb
          have h2 : i < l.toList.length := by simpa using hil
          have e1 : l.toList = l.toList.take i ++ l.toList[i] :: l.toList.drop (i + 1) := by rw [List.getElem_cons_drop, List.take_append_drop]
          rw [Array.toList_setIfInBounds, List.set_eq_take_append_cons_drop, if_pos h2, List.filter_append, List.length_append]
          rw [e1, List.filter_append, List.length_append] at hm0
          have hv : l.toList[i] = false := by simpa using hli
          rw [hv] at hm0
          simp only [List.filter_cons, Bool.not_false, if_true, List.length_cons, Bool.not_true, Bool.false_eq_true, if_false] at hm0 ⊢
          omega
        refine wpOp_of hoi (step_ok hc.1 hsrc hr ht hb hpre (fun d hd => ?_) E (fun γ' a' w' E' => ?_))
        · cases hld : l.getD d false with
          | false => rfl
          | true => have := hcl d hld i hd; rw [hb] at this; cases this
        · refine ih _ (by simp [hl]) hcnt hclo γ' a' w' ?_
          have e : (fun j => (l.setIfInBounds i true).getD j false) = up (fun j => l.getD j false) i := funext hgs
          rw [e]; exact E'
  refine key ops.size (Array.replicate ops.size false) (by simp) ?_ (fun d hd => ?_) γ a _ ?_
  · simp
  · simp only [Array.getD, Array.size_replicate] at hd
    split at hd
    · simp at hd
    · cases hd
  · have e : (fun j => (Array.replicate ops.size false).getD j false) = fun _ : Nat => false := by
      funext j
      simp only [Array.getD, Array.size_replicate]
      split
      · simp
      · rfl
    rw [e, slotAt_none, contAt_none]
    exact ⟨E.tsize, E.defers, E.slot, fun k c hc => Ct.stay (E.heap k c hc) (fun _ _ => rfl) (fun _ _ => rfl), E.own, E.inj, E.fix, E.keep.drew⟩
def lowL (n : Nat) : List Nat := (List.range n).map fun i => 2 ^ i - 1
def ordL (ops : Array Oper) : List Nat :=
  ops.toList.foldl (fun B o => B ++ [o.after.toList.foldl (fun m e => bif Region.binds .any e then m ||| (2 ^ e.on ||| B.getD e.on 0) else m) 0]) []
theorem sq_t {id : Nat} {c : Code} {γ : Nat → Nat} {a : Act} {w : World} (E : Env N F B0 w0 (lk L) (lk M) γ a w) (R : List Row) (L1 : Sl) (M1 : Bl) (htr : Trips P F B0 w0 ops ops.toList R)
    (h : ∀ γ a w, Env N F B0 w0 (lk L1) (lk M1) γ a w → c.wp P Q a w)
    (hc : (chk N F R L M (lowL R.length) && lowB R.length (lowL R.length)) = true := by kernel_rfl) (hsrc : srcs R L M (lowL R.length) 0 R = wants R := by kernel_rfl) (ho : outs R L M L1 M1 = outw L1 M1 := by kernel_rfl) :
    (Code.seq (Code.region id ops false) c).wp P Q a w :=
  wp_seq (region_t R (lowL R.length) L1 M1 E hc hsrc ho htr (fun γ a w E => h γ a w E))
theorem rg_t {id : Nat} {γ : Nat → Nat} {a : Act} {w : World} (E : Env N F B0 w0 (lk L) (lk M) γ a w) (R : List Row) (L1 : Sl) (M1 : Bl) (htr : Trips P F B0 w0 ops ops.toList R)
    (h : ∀ γ a w, Env N F B0 w0 (lk L1) (lk M1) γ a w → Q .normal a w)
    (hc : (chk N F R L M (lowL R.length) && lowB R.length (lowL R.length)) = true := by kernel_rfl) (hsrc : srcs R L M (lowL R.length) 0 R = wants R := by kernel_rfl) (ho : outs R L M L1 M1 = outw L1 M1 := by kernel_rfl) :
    (Code.region id ops false).wp P Q a w :=
  region_t R (lowL R.length) L1 M1 E hc hsrc ho htr h
theorem sq_d {id : Nat} {c : Code} {γ : Nat → Nat} {a : Act} {w : World} (E : Env N F B0 w0 (lk L) (lk M) γ a w) (R : List Row) (L1 : Sl) (M1 : Bl) (htr : Trips P F B0 w0 ops ops.toList R)
    (h : ∀ γ a w, Env N F B0 w0 (lk L1) (lk M1) γ a w → c.wp P Q a w) (hm : P.follows .mixedOrders = true := by kernel_rfl)
    (hc : (chk N F R L M (ordL ops) && edgeB ops (ordL ops)) = true := by kernel_rfl) (hsrc : srcs R L M (ordL ops) 0 R = wants R := by kernel_rfl) (ho : outs R L M L1 M1 = outw L1 M1 := by kernel_rfl) :
    (Code.seq (Code.region id ops true) c).wp P Q a w :=
  wp_seq (region_d R (ordL ops) L1 M1 E hm hc hsrc ho htr (fun γ a w E => h γ a w E))
theorem rg_d {id : Nat} {γ : Nat → Nat} {a : Act} {w : World} (E : Env N F B0 w0 (lk L) (lk M) γ a w) (R : List Row) (L1 : Sl) (M1 : Bl) (htr : Trips P F B0 w0 ops ops.toList R)
    (h : ∀ γ a w, Env N F B0 w0 (lk L1) (lk M1) γ a w → Q .normal a w) (hm : P.follows .mixedOrders = true := by kernel_rfl)
    (hc : (chk N F R L M (ordL ops) && edgeB ops (ordL ops)) = true := by kernel_rfl) (hsrc : srcs R L M (ordL ops) 0 R = wants R := by kernel_rfl) (ho : outs R L M L1 M1 = outw L1 M1 := by kernel_rfl) :
    (Code.region id ops true).wp P Q a w :=
  region_d R (ordL ops) L1 M1 E hm hc hsrc ho htr h
end
end Sx
end Go.Proofs.Ytddfimfgcfgpbaa
namespace Go.Proofs.Ytddfimfgcfgpbaa
namespace Sx
open Go.RowKit (Below)
noncomputable def envOf (γ : Nat → Nat) (U : Sl) : Operand → Value
  | .tmp t => match lk U t with | some x => x.den γ | none => undef
  | .const v => v
  | .global g => .pointer (some ⟨g, 0, none⟩)
  | .func f => .func (.func f) #[] #[]
def knownX (U : Sl) : Operand → Bool
  | .tmp t => hasKey U t
  | _ => true
def knownO (U : Sl) : Option Operand → Bool
  | some x => knownX U x
  | none => true
def known (U : Sl) : Op → Bool
  | .move x | .assign x | .box _ x | .load _ x | .nilCheck x | .unOp _ _ x | .convert _ _ x | .fieldAddr _ x _ | .field _ x _ | .extract x _ | .makeInterface _ x | .sliceToArrayPointer _ x => knownX U x
  | .alloc _ => true
  | .pick c a b => knownX U c && (knownX U a && knownX U b)
  | .build _ ps | .buildSlice _ _ ps => ps.toList.all fun p => knownX U p.2
  | .store _ a v | .binOp _ _ a v _ | .makeSlice _ a v | .indexAddr _ a v | .index _ a v => knownX U a && knownX U v
  | .makeFunc _ f c => f.toList.all (knownX U) && c.toList.all (knownX U)
  | .slice _ x l h m => knownX U x && (knownO U l && (knownO U h && knownO U m))
  | .call c => (match c.callee with | .value f => knownX U f | .builtin _ => true | .invoke _ _ => false) && c.args.toList.all (knownX U)
  | _ => false
theorem map_congr_arr {α β : Type} {f g : α → β} {xs : Array α} (h : ∀ x ∈ xs.toList, f x = g x) : xs.map f = xs.map g := by
  apply Array.ext'
  rw [Array.toList_map, Array.toList_map]
  exact List.map_congr_left h
theorem execOp_congr {ρ σ : Operand → Value} {U : Sl} {o : Oper} (hx : ∀ x, knownX U x = true → ρ x = σ x) (h : known U o.op = true) : execOp ρ o = execOp σ o := by
  have hO : ∀ x, knownO U x = true → x.map ρ = x.map σ := fun x hk => by
    cases x with
    | none => rfl
    | some x => simp only [Option.map_some, hx x hk]
  obtain ⟨dst, op, ty, pos, after, guard⟩ := o
  simp only at h
  cases op <;> simp only [known, Bool.and_eq_true, List.all_eq_true] at h
  case move x => simp only [execOp, hx x h]
  case assign x => simp only [execOp, hx x h]
  case box t x => simp only [execOp, hx x h]
  case load t x => simp only [execOp, hx x h]
  case nilCheck x => simp only [execOp, hx x h]
  case unOp a b x => simp only [execOp, hx x h]
  case convert a b x => simp only [execOp, hx x h]
  case fieldAddr a x b => simp only [execOp, hx x h]
  case field a x b => simp only [execOp, hx x h]
  case extract x b => simp only [execOp, hx x h]
  case makeInterface a x => simp only [execOp, hx x h]
  case sliceToArrayPointer a x => simp only [execOp, hx x h]
  case alloc t => rfl
  case pick c a b => simp only [execOp, hx c h.1, hx a h.2.1, hx b h.2.2]
  case build t ps => simp only [execOp]; rw [map_congr_arr (fun p hp => by rw [hx _ (h p hp)])]
  case buildSlice t n ps => simp only [execOp]; rw [map_congr_arr (fun p hp => by rw [hx _ (h p hp)])]
  case store t a v => simp only [execOp, hx a h.1, hx v h.2]
  case binOp p t a v q => simp only [execOp, hx a h.1, hx v h.2]
  case makeSlice t a v => simp only [execOp, hx a h.1, hx v h.2]
  case indexAddr t a v => simp only [execOp, hx a h.1, hx v h.2]
  case index t a v => simp only [execOp, hx a h.1, hx v h.2]
  case makeFunc f a c => simp only [execOp]; rw [map_congr_arr (fun p hp => hx _ (h.1 p hp)), map_congr_arr (fun p hp => hx _ (h.2 p hp))]
  case slice t x l hh m => simp only [execOp, hx x h.1, hO l h.2.1, hO hh h.2.2.1, hO m h.2.2.2]
  case call c =>
    simp only [execOp, resolve]
    rw [map_congr_arr (fun p hp => hx _ (h.2 p hp))]
    obtain ⟨callee, args, tys⟩ := c
    cases callee with
    | value f => simp only at h ⊢; rw [hx f h.1]
    | builtin b => rfl
    | invoke r m => simp at h
  all_goals cases h
theorem use_get {U : Sl} {γ : Nat → Nat} {a : Act} (h : ∀ p ∈ U, a.tmps[p.1]? = some (p.2.den γ)) {x : Operand} (hk : knownX U x = true) : a.eval x = envOf γ U x := by
  cases x with
  | tmp t =>
    simp only [knownX] at hk
    cases hl : lk U t with
    | none =>
      exfalso
      have : ∀ {l : Sl}, hasKey l t = true → lk l t ≠ none := by
        intro l
        induction l with
        | nil => intro h; simp [hasKey] at h
        | cons p l ih =>
          obtain ⟨u, y⟩ := p
          intro h
          simp only [hasKey, Bool.or_eq_true] at h
          simp only [lk]
          rcases h with h | h
          · simp [h]
          · cases hb : Nat.beq u t with
            | true => simp
            | false => simpa using ih h
      exact this hk hl
    | some y =>
      have := h _ (lk_mem hl)
      simp only at this
      simp only [Act.eval, envOf, hl, Array.getD_eq_getD_getElem?, this, Option.getD_some]
  | const v => rfl
  | global g => rfl
  | func f => rfl
section
variable {P : Program} {F : Fx} {B0 : Bs} {w0 : World} {ops : Array Oper} {o : Oper} {r : Row}
theorem Eff.same {γ : Nat → Nat} {w w' : World} (hn : r.neu = []) (hp : r.puts = []) (h : Below w.heap.size w w') : Eff γ γ w w' r := by
  refine ⟨h.os, h.tape, h.output, h.size, fun _ _ => rfl, ?_, ?_, ?_, fun j hj _ => h.block j hj⟩
  · intro k c hc; rw [hn] at hc; cases hc
  · intro k k' c c' hc; rw [hn] at hc; cases hc
  · intro k c hc; rw [hp] at hc; cases hc
theorem stepGoal_wp {a : Act} {w : World} {K : Act → World → Prop} {Q : Exit → Act → World → Prop} (hg : o.guard = none) (h : o.wp P a w K Q) : StepGoal P ops o a w K Q := by
  unfold StepGoal
  rw [if_pos (by simp [Region.wanted, hg])]
  exact .inl h
theorem trip_val (hd : o.dst = r.dst) (hg : o.guard = none) (hk : known r.use o.op = true) (hn : r.neu = []) (hp : r.puts = [])
    (hrun : ∀ γ w, Keep B0 w0 w → (∀ p ∈ F, γ p.1 = p.2) → (∀ p ∈ r.keys, p.2.at γ (γ p.1) w) → (execOp (envOf γ r.use) o).run P w = .ok (.value (r.v.den γ)) w) : Trip P F B0 w0 ops o r := by
  refine ⟨hd, fun γ a w Q K hkeep hfix hu hks _hap hK => stepGoal_wp hg ?_⟩
  unfold Oper.wp
  rw [execOp_congr (fun x hx => use_get hu hx) hk, hrun γ w hkeep hfix hks]
  show K (a.put o.dst (r.v.den γ)) w
  rw [hd]
  exact hK γ w (Eff.same hn hp (Below.refl _ _))
theorem trip_pure (hd : o.dst = r.dst) (hg : o.guard = none) (hk : known r.use o.op = true) (hn : r.neu = []) (hp : r.puts = [])
    (hrun : ∀ γ w, (execOp (envOf γ r.use) o).run P w = .ok (.value (r.v.den γ)) w) : Trip P F B0 w0 ops o r := trip_val hd hg hk hn hp (fun γ w _ _ _ => hrun γ w)
def nm (γ : Nat → Nat) (k g : Nat) : Nat → Nat := fun j => bif Nat.beq j k then g else γ j
theorem nm_self (γ : Nat → Nat) (k g : Nat) : nm γ k g k = g := by simp [nm]
theorem nm_ne {γ : Nat → Nat} {k g j : Nat} (h : j ≠ k) : nm γ k g j = γ j := by simp [nm, beq_ne h]
theorem heap_alloc_old' (w : World) (o : Obj) (i : Nat) (h : i < w.heap.size) : (w.alloc o).heap[i]? = w.heap[i]? := Below.heap_alloc w o i h
theorem trip_new (k : Nat) (c : Ct) (hd : o.dst = r.dst) (hg : o.guard = none) (hk : known r.use o.op = true) (hn : r.neu = [(k, c)]) (hp : r.puts = []) (hf : c.1.has k = false) (hN : c.isNum = false)
    (hrun : ∀ γ w, Keep B0 w0 w → (∀ p ∈ F, γ p.1 = p.2) → (∀ p ∈ r.keys, p.2.at γ (γ p.1) w) → (execOp (envOf γ r.use) o).run P w = .ok (.value (r.v.den (nm γ k w.heap.size))) (w.alloc (c.obj γ))) : Trip P F B0 w0 ops o r := by
  refine ⟨hd, fun γ a w Q K hkeep hfix hu hks _hap hK => stepGoal_wp hg ?_⟩
  unfold Oper.wp
  rw [execOp_congr (fun x hx => use_get hu hx) hk, hrun γ w hkeep hfix hks]
  show K (a.put o.dst (r.v.den (nm γ k w.heap.size))) (w.alloc (c.obj γ))
  rw [hd]
  have hlk : ∀ j c', lk r.neu j = some c' → j = k ∧ c' = c := fun j c' h => by
    rw [hn] at h
    simp only [lk] at h
    cases hb : Nat.beq k j with
    | true => rw [hb] at h; simp at h; exact ⟨(Nat.eq_of_beq_eq_true hb).symm, h.symm⟩
    | false => rw [hb] at h; simp at h
  refine hK _ _ ⟨rfl, rfl, rfl, by simp, ?_, ?_, ?_, ?_, fun j hj _ => heap_alloc_old' _ _ _ hj⟩
  · intro j hj
    refine nm_ne (fun e => ?_)
    subst e
    rw [hn] at hj
    simp [lk] at hj
  · intro j c' hj
    obtain ⟨rfl, rfl⟩ := hlk j c' hj
    rw [nm_self]
    refine ⟨(Ct.at_obj hN).2 ?_, fun g hg => .inl (by rw [(Ct.ft_eq hN).1 hg]; exact Nat.le_refl _)⟩
    rw [heap_alloc_new]
    rw [Ct.obj_congr (fun k' hk' => nm_ne (fun e => by subst e; rw [hf] at hk'; cases hk'))]
  · intro j j' c1 c2 h1 h2 _ hne
    exact absurd ((hlk j c1 h1).1.trans (hlk j' c2 h2).1.symm) hne
  · intro j c' hj
    rw [hp] at hj; cases hj
theorem Eff.fill {γ : Nat → Nat} {w : World} (k : Nat) (c c' : Ct) (hn : r.neu = []) (hp : r.puts = [(k, c')]) (ht : c'.2 = c.2) (hN : c.isNum = false) (hN' : c'.isNum = false) (hkey : (k, c) ∈ r.keys) (hks : ∀ p ∈ r.keys, p.2.at γ (γ p.1) w) (hone : ∀ p ∈ r.keys, p.1 = k → p.2 = c) :
    Eff γ γ w (w.setRow (γ k) (c'.1.cs.map (Sc.den γ)).toArray) r := by
  have hh := (Ct.at_obj hN).1 (hks _ hkey)
  simp only at hh
  have hlk : ∀ j d, lk r.puts j = some d → j = k ∧ d = c' := fun j d h => by
    rw [hp] at h
    simp only [lk] at h
    cases hb : Nat.beq k j with
    | true => rw [hb] at h; simp at h; exact ⟨(Nat.eq_of_beq_eq_true hb).symm, h.symm⟩
    | false => rw [hb] at h; simp at h
  refine ⟨rfl, rfl, rfl, by simp, fun _ _ => rfl, ?_, ?_, ?_, ?_⟩
  · intro j d hj; rw [hn] at hj; cases hj
  · intro j j' d d' hj; rw [hn] at hj; cases hj
  · intro j d hj
    obtain ⟨rfl, rfl⟩ := hlk j d hj
    refine ⟨(Ct.at_obj hN').2 ?_, fun g hg p hpk e => ?_⟩
    · rw [setRow_heap w _ _ _ _ _ hh]
      unfold Ct.obj
      rw [ht]
    · rw [hone p hpk e]
      exact (Ct.ft_eq hN).2 ((Ct.ft_eq hN').1 hg)
  · intro j hj hne
    refine setRow_other _ _ _ _ (fun e => ?_)
    exact hne _ hkey (by rw [hp]; simp [hasKey]) ((Ct.ft_eq hN).2 e)
theorem trip_fill (k : Nat) (c c' : Ct) (hd : o.dst = r.dst) (hnd : r.dst = none) (hg : o.guard = none) (hk : known r.use o.op = true) (hn : r.neu = []) (hp : r.puts = [(k, c')]) (ht : c'.2 = c.2) (hN : c.isNum = false) (hN' : c'.isNum = false) (hkey : r.keys = [(k, c)])
    (hrun : ∀ γ w, w.heap[γ k]? = some (c.obj γ) → (execOp (envOf γ r.use) o).run P w = .ok .skip (w.setRow (γ k) (c'.1.cs.map (Sc.den γ)).toArray)) : Trip P F B0 w0 ops o r := by
  refine ⟨hd, fun γ a w Q K hkeep hfix hu hks _hap hK => stepGoal_wp hg ?_⟩
  have hkm : (k, c) ∈ r.keys := by rw [hkey]; exact .head _
  have hh := (Ct.at_obj hN).1 (hks _ hkm)
  unfold Oper.wp
  rw [execOp_congr (fun x hx => use_get hu hx) hk, hrun γ w hh]
  have h2 := hK γ _ (Eff.fill k c c' hn hp ht hN hN' hkm hks (fun p hpk e => by
    rw [hkey] at hpk
    rw [List.mem_singleton.1 hpk]))
  rw [hnd] at h2
  show K (a.put o.dst undef) _
  rw [hd, hnd]
  exact h2
def Ret (r : Row) (γ : Nat → Nat) (w : World) (e : Ending) (w' : World) : Prop := ∃ γ', Eff γ γ' w w' r ∧ e = .returned (r.v.den γ')
theorem trip_call (f : FuncId) (args : (Nat → Nat) → Array Value) (hd : o.dst = r.dst) (hg : o.guard = none) (hk : known r.use o.op = true)
    (hrun : ∀ γ w, (execOp (envOf γ r.use) o).run P w = .ok (.enter f (args γ)) w)
    (hcall : ∀ γ w, Keep B0 w0 w → (∀ p ∈ F, γ p.1 = p.2) → (∀ p ∈ r.keys, p.2.at γ (γ p.1) w) → Calls P f (args γ) w (Ret r γ w)) : Trip P F B0 w0 ops o r := by
  refine ⟨hd, fun γ a w Q K hkeep hfix hu hks _hap hK => stepGoal_wp hg ?_⟩
  unfold Oper.wp
  rw [execOp_congr (fun x hx => use_get hu hx) hk, hrun γ w]
  show Calls P f (args γ) w _
  refine (hcall γ w hkeep hfix hks).mono ?_
  rintro e w' ⟨γ', he, rfl⟩
  show K (a.put o.dst (r.v.den γ')) w'
  rw [hd]
  exact hK γ' w' he
theorem tca {f : FuncId} {args : (Nat → Nat) → Array Value} (hcall : ∀ γ w, Keep B0 w0 w → (∀ p ∈ r.keys, p.2.at γ (γ p.1) w) → KApart γ r.keys → Calls P f (args γ) w (Ret r γ w)) (hd : o.dst = r.dst := by exact rfl) (hg : o.guard = none := by exact rfl) (hk : known r.use o.op = true := by exact rfl)
    (hrun : ∀ γ w, (execOp (envOf γ r.use) o).run P w = .ok (.enter f (args γ)) w := by (intro γ w; kernel_rfl)) : Trip P F B0 w0 ops o r := by
  refine ⟨hd, fun γ a w Q K hkeep hfix hu hks hap hK => stepGoal_wp hg ?_⟩
  unfold Oper.wp
  rw [execOp_congr (fun x hx => use_get hu hx) hk, hrun γ w]
  show Calls P f (args γ) w _
  refine (hcall γ w hkeep hks hap).mono ?_
  rintro e w' ⟨γ', he, rfl⟩
  show K (a.put o.dst (r.v.den γ')) w'
  rw [hd]
  exact hK γ' w' he
theorem trip_tidy (f : FuncId) (args : (Nat → Nat) → Array Value) (hd : o.dst = r.dst) (hg : o.guard = none) (hk : known r.use o.op = true) (hn : r.neu = []) (hp : r.puts = [])
    (hrun : ∀ γ w, (execOp (envOf γ r.use) o).run P w = .ok (.enter f (args γ)) w)
    (hcall : ∀ γ w, Keep B0 w0 w → (∀ p ∈ F, γ p.1 = p.2) → (∀ p ∈ r.keys, p.2.at γ (γ p.1) w) → Calls P f (args γ) w fun e w' => e = .returned (r.v.den γ) ∧ Below w.heap.size w w') : Trip P F B0 w0 ops o r :=
  trip_call f args hd hg hk hrun (fun γ w h1 h2 h3 => (hcall γ w h1 h2 h3).mono fun _ _ ⟨he, hb⟩ => ⟨γ, Eff.same hn hp hb, he⟩)
theorem trip_on (j : Nat) (t : Nat) (want : Bool) (hg : o.guard = some (j, want)) (ht : (ops[j]?).bind (·.dst) = some t) (hu : (t, SV.s (.v (.bool want))) ∈ r.use)
    (h : Trip P F B0 w0 ops { o with guard := none } r) : Trip P F B0 w0 ops o r := by
  refine ⟨h.1, fun γ a w Q K h1 h2 h3 h4 h4a h5 => ?_⟩
  have hs := h.2 γ a w Q K h1 h2 h3 h4 h4a h5
  have hw : Region.wanted o (yielded ops a.tmps) = true := by
    have hsl := h3 _ hu
    simp only [SV.den, Sc.den] at hsl
    simp [Region.wanted, hg, yielded, ht, hsl]
  unfold StepGoal at hs ⊢
  rw [if_pos hw]
  rw [if_pos (by simp [Region.wanted])] at hs
  exact hs
theorem trip_off (j : Nat) (t : Nat) (want : Bool) (hd : o.dst = r.dst) (hg : o.guard = some (j, want)) (ht : (ops[j]?).bind (·.dst) = some t) (hu : (t, SV.s (.v (.bool (!want)))) ∈ r.use)
    (hv : r.v = .s (.v undef)) (hn : r.neu = []) (hp : r.puts = []) : Trip P F B0 w0 ops o r := by
  refine ⟨hd, fun γ a w Q K h1 h2 h3 h4 h4a h5 => ?_⟩
  have hw : Region.wanted o (yielded ops a.tmps) = false := by
    have hsl := h3 _ hu
    simp only [SV.den, Sc.den] at hsl
    cases want <;> simp [Region.wanted, hg, yielded, ht, hsl]
  unfold StepGoal
  rw [hw]
  have := h5 γ w (Eff.same hn hp (Below.refl _ _))
  rw [hv] at this
  rw [hd]
  simpa [SV.den, Sc.den] using this
def isAggD : TypeDesc → Bool
  | .struct _ => true
  | .array _ _ => true
  | _ => false
def AggT (P : Program) (ty n : Nat) : Prop := ((P.underlying ty).map isAggD, (P.info? ty).map (·.size)) = (some true, some n)
def OneT (P : Program) (ty : Nat) : Prop := ((P.underlying ty).map isAggD, (P.info? ty).map (·.size)) = (some false, some 1)
def ZeroT (P : Program) (ty : Nat) (z : Value) : Prop := (P.info? ty).bind (·.zero) = some z
theorem run_isAgg {ty : Nat} {b : Bool} (h : (P.underlying ty).map isAggD = some b) (w : World) : (isAgg ty).run P w = .ok b w := by
  cases hu : P.underlying ty with
  | none => rw [hu] at h; cases h
  | some d =>
    rw [hu] at h
    simp only [Option.map_some, Option.some.injEq] at h
    unfold isAgg
    rw [Sem.run_bind, run_underlying hu w]
    cases d <;> simp_all [isAggD]
theorem run_sizeOf' {ty n : Nat} (h : (P.info? ty).map (·.size) = some n) (w : World) : (sizeOf ty).run P w = .ok n w := by
  cases hi : P.info? ty with
  | none => rw [hi] at h; cases h
  | some i =>
    rw [hi] at h
    simp only [Option.map_some, Option.some.injEq] at h
    simp [sizeOf, typeInfo, hi, h]
theorem run_zeroValue' {ty : Nat} {z : Value} (h : ZeroT P ty z) (w : World) : (zeroValue ty).run P w = .ok z w := by
  unfold ZeroT at h
  cases hi : P.info? ty with
  | none => rw [hi] at h; cases h
  | some i =>
    rw [hi] at h
    simp only [Option.bind_some] at h
    simp [zeroValue, typeInfo, hi, h]
theorem add_none (g off n : Nat) : (⟨g, off, none⟩ : Addr).add n = ⟨g, off + n, none⟩ := by
  unfold Addr.add
  split <;> simp_all
theorem run_loadVar_part {w : World} {g off ty : Nat} {cells : List Value} {T : TypeId} {fr : Nat × Nat} {part : List Value} (hg : w.heap[g]? = some (.cells cells.toArray T fr)) (hT : AggT P ty part.length)
    (hp : (cells.drop off).take part.length = part) : (loadVar ty ⟨g, off, none⟩).run P w = .ok (.agg part.toArray) w := by
  simp only [AggT, Prod.mk.injEq] at hT
  have hl := run_loadCells_list (P := P) w ⟨g, off, none⟩ part (fun j v hv => by
    rw [add_none]
    have hj : j < part.length := (List.getElem?_eq_some_iff.1 hv).1
    have : cells[off + j]? = some v := by
      rw [← hv]
      conv => rhs; rw [← hp, List.getElem?_take, List.getElem?_drop]
      rw [if_pos hj]
    simp [World.cell?, hg, this])
  unfold loadVar
  rw [Sem.run_bind, run_isAgg hT.1 w]
  simp only [Result.andThen_ok, if_true]
  rw [Sem.run_bind, run_sizeOf' hT.2 w]
  simp only [Result.andThen_ok]
  rw [Sem.run_bind, hl]
  rfl
theorem run_loadVar_one {w : World} {g off ty : Nat} {cells : List Value} {T : TypeId} {fr : Nat × Nat} {v : Value} (hg : w.heap[g]? = some (.cells cells.toArray T fr)) (hT : OneT P ty)
    (hp : cells[off]? = some v) : (loadVar ty ⟨g, off, none⟩).run P w = .ok v w := by
  simp only [OneT, Prod.mk.injEq] at hT
  unfold loadVar
  rw [Sem.run_bind, run_isAgg hT.1 w]
  simp only [Result.andThen_ok, Bool.false_eq_true, if_false]
  have : w.cell? ⟨g, off, none⟩ = some v := by simp [World.cell?, hg, hp]
  simp [load, Sem.run, this]
theorem run_storeVar_part {w : World} {g off ty : Nat} {old : List Value} {T : TypeId} {v : Value} (hg : w.heap[g]? = some (.cells old.toArray T (0, 0))) (hs : (P.info? ty).map (·.size) = some v.cells.toList.length)
    (hle : off + v.cells.toList.length ≤ old.length) (h1 : ∀ x ∈ v.cells.toList, x.oneCell' = true) :
    (storeVar ty ⟨g, off, none⟩ v).run P w = .ok () (w.setRow g (old.take off ++ v.cells.toList ++ old.drop (off + v.cells.toList.length)).toArray) := by
  unfold storeVar
  rw [Sem.run_bind, run_sizeOf' hs w]
  simp only [Result.andThen_ok, Array.length_toList, ne_eq, not_true_eq_false, if_false]
  have := run_storeCells_at (P := P) g off T v.cells.toList 0 old.toArray w hg (by simpa using hle) h1
  simp only [Nat.add_zero, Array.length_toList] at this ⊢
  exact this
def Sc.one : Sc → Bool
  | .v x => x.oneCell'
  | _ => true
theorem Sc.one_den {c : Sc} {γ : Nat → Nat} (h : c.one = true) : (c.den γ).oneCell' = true := by
  cases c with
  | v x => exact h
  | ptr k o => rfl
  | sl k o n c => rfl
  | fn k f => exact f.one _
theorem map_drop_take {γ : Nat → Nat} {cs part : List Sc} {off : Nat} (h : (cs.drop off).take part.length = part) : ((cs.map (Sc.den γ)).drop off).take (part.map (Sc.den γ)).length = part.map (Sc.den γ) := by
  rw [List.length_map, ← List.map_drop, ← List.map_take, h]
theorem trip_load (t k off ty : Nat) (c : Ct) (part : List Sc) (hop : o.op = .load ty (.tmp t)) (hd : o.dst = r.dst) (hg : o.guard = none) (hn : r.neu = []) (hp : r.puts = [])
    (hx : lk r.use t = some (.s (.ptr k off))) (hkey : (k, c) ∈ r.keys) (hT : AggT P ty part.length) (hpart : (c.1.cs.drop off).take part.length = part) (hv : r.v = .agg part) (hN : c.isNum = false := by rfl) : Trip P F B0 w0 ops o r :=
  trip_val hd hg (by rw [hop]; exact hasKey_of_lk hx) hn hp (fun γ w _ _ hks => by
    have hh := (Ct.at_obj hN).1 (hks _ hkey)
    have hl := run_loadVar_part (P := P) (off := off) (ty := ty) (part := part.map (Sc.den γ)) hh (by rw [List.length_map]; exact hT) (map_drop_take hpart)
    simp only [execOp, hop, envOf, hx, Instr.loadAt, Instr.sureAddr, SV.den, Sc.den, Sem.run_bind, Sem.run_pure, Result.andThen_ok, hl, hv])
theorem trip_load1 (t k off ty : Nat) (c : Ct) (x : Sc) (hop : o.op = .load ty (.tmp t)) (hd : o.dst = r.dst) (hg : o.guard = none) (hn : r.neu = []) (hp : r.puts = [])
    (hx : lk r.use t = some (.s (.ptr k off))) (hkey : (k, c) ∈ r.keys) (hT : OneT P ty) (hpart : c.1.cs[off]? = some x) (hv : r.v = .s x) (hN : c.isNum = false := by rfl) : Trip P F B0 w0 ops o r :=
  trip_val hd hg (by rw [hop]; exact hasKey_of_lk hx) hn hp (fun γ w _ _ hks => by
    have hh := (Ct.at_obj hN).1 (hks _ hkey)
    have hl := run_loadVar_one (P := P) (off := off) (ty := ty) (v := x.den γ) hh hT (by rw [List.getElem?_map, hpart]; rfl)
    simp only [execOp, hop, envOf, hx, Instr.loadAt, Instr.sureAddr, SV.den, Sc.den, Sem.run_bind, Sem.run_pure, Result.andThen_ok, hl, hv])
def cellsX (U : Sl) : Operand → List Sc
  | .tmp t => match lk U t with
    | some (.s x) => [x]
    | some (.agg cs) => cs
    | _ => []
  | .const v => [.v v]
  | .func f => [.v (.func (.func f) #[] #[])]
  | .global g => [.v (.pointer (some ⟨g, 0, none⟩))]
theorem cells_one {v : Value} (h : v.oneCell' = true) : v.cells = #[v] := by
  cases v <;> first | rfl | cases h
theorem cellsX_den (γ : Nat → Nat) (U : Sl) (x : Operand) (hk : knownX U x = true) (h : (cellsX U x).all Sc.one = true) (h2 : (cellsX U x).isEmpty = false) (h3 : ∀ v, x ≠ .const (.agg v)) : (envOf γ U x).cells = ((cellsX U x).map (Sc.den γ)).toArray := by
  cases x with
  | tmp t =>
    simp only [cellsX, envOf] at h h2 ⊢
    cases hl : lk U t with
    | none => rw [hl] at h2; cases h2
    | some y =>
      rw [hl] at h h2
      cases y with
      | s x =>
        simp only [List.all_cons, List.all_nil, Bool.and_true] at h
        simp only [SV.den]
        rw [cells_one (Sc.one_den h)]; rfl
      | agg cs => rfl
      | two a b => cases h2
      | three a b c => cases h2
  | const v =>
    simp only [cellsX, List.all_cons, List.all_nil, Bool.and_true, Sc.one] at h
    simp only [envOf, cellsX]
    rw [cells_one h]; rfl
  | func f => rfl
  | global g => rfl
theorem trip_store (t k off ty : Nat) (x : Operand) (c : Ct) (part new : List Sc) (hop : o.op = .store ty (.tmp t) x) (hd : o.dst = none) (hrd : r.dst = none) (hg : o.guard = none) (hn : r.neu = []) (hp : r.puts = [(k, (.sc new, c.2))])
    (hx : lk r.use t = some (.s (.ptr k off))) (hkx : knownX r.use x = true) (hval : ∀ γ, (envOf γ r.use x).cells = (part.map (Sc.den γ)).toArray) (hkey : r.keys = [(k, c)]) (hs : (P.info? ty).map (·.size) = some part.length)
    (hle : off + part.length ≤ c.1.cs.length) (h1 : part.all Sc.one = true) (hnew : c.1.cs.take off ++ part ++ c.1.cs.drop (off + part.length) = new) (hN : c.isNum = false := by rfl) : Trip P F B0 w0 ops o r :=
  trip_fill k c (.sc new, c.2) (hd.trans hrd.symm) hrd hg (by rw [hop]; simp only [known, Bool.and_eq_true]; exact ⟨hasKey_of_lk hx, hkx⟩) hn hp rfl hN rfl hkey (fun γ w hh => by
    have hl := run_storeVar_part (P := P) (off := off) (ty := ty) (v := envOf γ r.use x) hh (by rw [hval γ]; simpa using hs) (by rw [hval γ]; simpa using hle)
      (by rw [hval γ]; intro y hy; simp only at hy; obtain ⟨z, hz, rfl⟩ := List.mem_map.1 hy; exact Sc.one_den (List.all_eq_true.1 h1 z hz))
    rw [hval γ] at hl
    simp only [List.length_map, ← List.map_take, ← List.map_drop, ← List.map_append, hnew] at hl
    simp only [execOp, hop]
    simp only [show envOf γ r.use (.tmp t) = .pointer (some ⟨γ k, off, none⟩) by simp [envOf, hx, SV.den, Sc.den], Instr.storeAt, Instr.sureAddr, Sem.run_bind, Sem.run_pure, Result.andThen_ok, hl, Cn.cs])
theorem trip_alloc (k ty : Nat) (cs : List Sc) (z : Value) (hop : o.op = .alloc ty) (hd : o.dst = r.dst) (hg : o.guard = none) (hn : r.neu = [(k, (.sc cs, ty))]) (hp : r.puts = []) (hf : hasL k cs = false)
    (hz : ZeroT P ty z) (hcs : ∀ γ, z.cells = (cs.map (Sc.den γ)).toArray) (hv : r.v = .s (.ptr k 0)) : Trip P F B0 w0 ops o r :=
  trip_new k (.sc cs, ty) hd hg (by rw [hop]; rfl) hn hp hf rfl (fun γ w _ _ _ => by
    simp only [execOp, hop, Instr.alloc, Sem.run_bind, run_zeroValue' hz, Result.andThen_ok, newVar, newRow, newObj, Sem.run, hv, SV.den, Sc.den, nm_self, hcs γ]
    rfl)
theorem trip_box (k ty : Nat) (x : Operand) (cs : List Sc) (hop : o.op = .box ty x) (hd : o.dst = r.dst) (hg : o.guard = none) (hkx : knownX r.use x = true) (hn : r.neu = [(k, (.sc cs, ty))]) (hp : r.puts = []) (hf : hasL k cs = false)
    (hval : ∀ γ, (envOf γ r.use x).cells = (cs.map (Sc.den γ)).toArray) (hv : r.v = .s (.ptr k 0)) : Trip P F B0 w0 ops o r :=
  trip_new k (.sc cs, ty) hd hg (by rw [hop]; exact hkx) hn hp hf rfl (fun γ w _ _ _ => by
    simp only [execOp, hop, Instr.box, Sem.run_bind, newVar, newRow, newObj, Sem.run, hv, SV.den, Sc.den, nm_self, hval γ]
    rfl)
theorem tp (hd : o.dst = r.dst := by exact rfl) (hg : o.guard = none := by exact rfl) (hk : known r.use o.op = true := by exact rfl) (hn : r.neu = [] := by exact rfl) (hp : r.puts = [] := by exact rfl)
    (hrun : ∀ γ w, (execOp (envOf γ r.use) o).run P w = .ok (.value (r.v.den γ)) w := by (intro γ w; kernel_rfl)) : Trip P F B0 w0 ops o r := trip_pure hd hg hk hn hp hrun
theorem tE {x : Value} (hx : ∀ γ, x = r.v.den γ) (hd : o.dst = r.dst := by exact rfl) (hg : o.guard = none := by exact rfl) (hk : known r.use o.op = true := by exact rfl) (hn : r.neu = [] := by exact rfl) (hp : r.puts = [] := by exact rfl)
    (hrun : ∀ γ w, (execOp (envOf γ r.use) o).run P w = .ok (.value x) w := by (intro γ w; kernel_rfl)) : Trip P F B0 w0 ops o r := trip_pure hd hg hk hn hp (fun γ w => by rw [hrun γ w, hx γ])
theorem tl {t k off ty n : Nat} {c : Ct} {part : List Sc} (hT : AggT P ty n) (hop : o.op = .load ty (.tmp t) := by exact rfl) (hd : o.dst = r.dst := by exact rfl) (hg : o.guard = none := by exact rfl) (hn : r.neu = [] := by exact rfl) (hp : r.puts = [] := by exact rfl)
    (hx : lk r.use t = some (.s (.ptr k off)) := by exact rfl) (hv : r.v = .agg part := by exact rfl) (hkey : (k, c) ∈ r.keys := by exact .head _) (hl : part.length = n := by kernel_rfl) (hpart : (c.1.cs.drop off).take part.length = part := by kernel_rfl) (hN : c.isNum = false := by exact rfl) : Trip P F B0 w0 ops o r :=
  trip_load t k off ty c part hop hd hg hn hp hx hkey (hl ▸ hT) hpart hv hN
theorem tl1 {t k off ty : Nat} {c : Ct} {x : Sc} (hT : OneT P ty) (hop : o.op = .load ty (.tmp t) := by exact rfl) (hd : o.dst = r.dst := by exact rfl) (hg : o.guard = none := by exact rfl) (hn : r.neu = [] := by exact rfl) (hp : r.puts = [] := by exact rfl)
    (hx : lk r.use t = some (.s (.ptr k off)) := by exact rfl) (hv : r.v = .s x := by exact rfl) (hkey : (k, c) ∈ r.keys := by exact .head _) (hpart : c.1.cs[off]? = some x := by kernel_rfl) (hN : c.isNum = false := by exact rfl) : Trip P F B0 w0 ops o r :=
  trip_load1 t k off ty c x hop hd hg hn hp hx hkey hT hpart hv hN
def notAgg : Operand → Bool
  | .const (.agg _) => false
  | _ => true
def storeOk (U : Sl) (x : Operand) (n off m : Nat) : Bool := (cellsX U x).all Sc.one && (!(cellsX U x).isEmpty && (Nat.beq (cellsX U x).length n && (Nat.ble (off + n) m && notAgg x)))
theorem ts {t k off ty n : Nat} {x : Operand} {c : Ct} {new : List Sc} (hs : (P.info? ty).map (·.size) = some n) (hop : o.op = .store ty (.tmp t) x := by exact rfl) (hd : o.dst = none := by exact rfl) (hrd : r.dst = none := by exact rfl) (hg : o.guard = none := by exact rfl) (hn : r.neu = [] := by exact rfl)
    (hx : lk r.use t = some (.s (.ptr k off)) := by exact rfl) (hkey : r.keys = [(k, c)] := by exact rfl) (hp : r.puts = [(k, (.sc new, c.2))] := by exact rfl) (hkx : knownX r.use x = true := by exact rfl)
    (h1 : storeOk r.use x n off c.1.cs.length = true := by kernel_rfl) (hnew : c.1.cs.take off ++ cellsX r.use x ++ c.1.cs.drop (off + (cellsX r.use x).length) = new := by kernel_rfl) (hN : c.isNum = false := by exact rfl) : Trip P F B0 w0 ops o r := by
  simp only [storeOk, Bool.and_eq_true, Bool.not_eq_true'] at h1
  obtain ⟨a1, a2, a3, a4, a5⟩ := h1
  have e := Nat.eq_of_beq_eq_true a3
  refine trip_store t k off ty x c (cellsX r.use x) new hop hd hrd hg hn hp hx hkx (fun γ => cellsX_den γ r.use x hkx a1 a2 (fun v h => by rw [h] at a5; cases a5)) hkey (by rw [hs, e]) (by rw [e]; exact Nat.le_of_ble_eq_true a4) a1 hnew hN
theorem ta {k ty : Nat} {cs : List Sc} {z : Value} (hz : ZeroT P ty z) (hop : o.op = .alloc ty := by exact rfl) (hd : o.dst = r.dst := by exact rfl) (hg : o.guard = none := by exact rfl) (hn : r.neu = [(k, (.sc cs, ty))] := by exact rfl) (hp : r.puts = [] := by exact rfl) (hf : hasL k cs = false := by kernel_rfl)
    (hcs : ∀ γ, z.cells = (cs.map (Sc.den γ)).toArray := by (intro γ; kernel_rfl)) (hv : r.v = .s (.ptr k 0) := by exact rfl) : Trip P F B0 w0 ops o r := trip_alloc k ty cs z hop hd hg hn hp hf hz hcs hv
theorem tb {k ty : Nat} {x : Operand} {cs : List Sc} (hop : o.op = .box ty x := by exact rfl) (hd : o.dst = r.dst := by exact rfl) (hg : o.guard = none := by exact rfl) (hkx : knownX r.use x = true := by exact rfl) (hn : r.neu = [(k, (.sc cs, ty))] := by exact rfl) (hp : r.puts = [] := by exact rfl) (hf : hasL k cs = false := by kernel_rfl)
    (hval : ∀ γ, (envOf γ r.use x).cells = (cs.map (Sc.den γ)).toArray := by (intro γ; kernel_rfl)) (hv : r.v = .s (.ptr k 0) := by exact rfl) : Trip P F B0 w0 ops o r := trip_box k ty x cs hop hd hg hkx hn hp hf hval hv
theorem ton {j t : Nat} {want : Bool} (h : Trip P F B0 w0 ops { o with guard := none } r) (hg : o.guard = some (j, want) := by exact rfl) (ht : (ops[j]?).bind (·.dst) = some t := by exact rfl) (hu : lk r.use t = some (.s (.v (.bool want))) := by exact rfl) : Trip P F B0 w0 ops o r :=
  trip_on j t want hg ht (lk_mem hu) h
theorem tof {j t : Nat} {want : Bool} (hd : o.dst = r.dst := by exact rfl) (hg : o.guard = some (j, want) := by exact rfl) (ht : (ops[j]?).bind (·.dst) = some t := by exact rfl) (hu : lk r.use t = some (.s (.v (.bool (!want)))) := by exact rfl)
    (hv : r.v = .s (.v undef) := by exact rfl) (hn : r.neu = [] := by exact rfl) (hp : r.puts = [] := by exact rfl) : Trip P F B0 w0 ops o r := trip_off j t want hd hg ht (lk_mem hu) hv hn hp
theorem tc {f : FuncId} {args : (Nat → Nat) → Array Value} (hcall : ∀ γ w, Keep B0 w0 w → (∀ p ∈ F, γ p.1 = p.2) → (∀ p ∈ r.keys, p.2.at γ (γ p.1) w) → Calls P f (args γ) w (Ret r γ w)) (hd : o.dst = r.dst := by exact rfl) (hg : o.guard = none := by exact rfl) (hk : known r.use o.op = true := by exact rfl)
    (hrun : ∀ γ w, (execOp (envOf γ r.use) o).run P w = .ok (.enter f (args γ)) w := by (intro γ w; kernel_rfl)) : Trip P F B0 w0 ops o r := trip_call f args hd hg hk hrun hcall
theorem tt {f : FuncId} {args : (Nat → Nat) → Array Value} {val : (Nat → Nat) → Value} (hcall : ∀ γ w, Keep B0 w0 w → (∀ p ∈ F, γ p.1 = p.2) → (∀ p ∈ r.keys, p.2.at γ (γ p.1) w) → Calls P f (args γ) w fun e w' => e = .returned (val γ) ∧ Below w.heap.size w w')
    (hd : o.dst = r.dst := by exact rfl) (hg : o.guard = none := by exact rfl) (hk : known r.use o.op = true := by exact rfl) (hn : r.neu = [] := by exact rfl) (hp : r.puts = [] := by exact rfl)
    (hrun : ∀ γ w, (execOp (envOf γ r.use) o).run P w = .ok (.enter f (args γ)) w := by (intro γ w; kernel_rfl)) (hval : ∀ γ, val γ = r.v.den γ := by (intro γ; kernel_rfl)) : Trip P F B0 w0 ops o r :=
  trip_tidy f args hd hg hk hn hp hrun (fun γ w h1 h2 h3 => (hcall γ w h1 h2 h3).mono fun e w' ⟨he, hb⟩ => ⟨by rw [he, hval γ], hb⟩)
theorem tq {f : FuncId} {args : Array Value} {val : Value} (hcall : ∀ w, Calls P f args w fun e w' => e = .returned val ∧ Below w.heap.size w w')
    (hd : o.dst = r.dst := by exact rfl) (hg : o.guard = none := by exact rfl) (hk : known r.use o.op = true := by exact rfl) (hn : r.neu = [] := by exact rfl) (hp : r.puts = [] := by exact rfl)
    (hrun : ∀ γ w, (execOp (envOf γ r.use) o).run P w = .ok (.enter f args) w := by (intro γ w; kernel_rfl)) (hval : ∀ γ, val = r.v.den γ := by (intro γ; kernel_rfl)) : Trip P F B0 w0 ops o r :=
  tt (fun _ w _ _ _ => hcall w) hd hg hk hn hp hrun hval
end
end Sx
end Go.Proofs.Ytddfimfgcfgpbaa
