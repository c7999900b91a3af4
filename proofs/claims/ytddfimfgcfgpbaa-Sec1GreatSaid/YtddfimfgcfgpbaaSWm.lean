/-
  How a function's text is walked: its entry, its forks, its loops, its end.
  Numbers of nine words, and the small laws of integers that the walks lean on.
  DERIVED: THE SHELF's CONTRACTS AT THIS DUMP, IN PLAIN WORDS (tools/lay-plain.mjs out of 'TryShelf.lean', which tools/lay-shelf.mjs wrote): THE SAME DECLARATIONS UNDER THE SAME NAMES: 'import', 'namespace', 'open', 'def', 'theorem' AND NOTHING ELSE: no command of the shelf's: FOR A HAND-IN. Each laying: the table of numbers ('.._ren') and one theorem, a field a fact of the dump's own or the kernel's comparison; each contract: ONE APPLICATION.
  What operations on words answer, as numbers; numbers of words.
-/
import Derived.Test.YtddfimfgcfgpbaaSSx
import Derived.Test.YtddfimfgcfgpbaaProg
import Derived.WalkKit
import Derived.Shelf.Small.Bits
import Derived.Shelf.Strconv.Itoa0
import Derived.Shelf.Bits.Mul64
import Derived.Laws.Externs
namespace Go.Proofs.Ytddfimfgcfgpbaa
namespace Sx
open Go.RowKit (Below)
theorem then_normal {K : Act → World → Prop} {Q : Exit → Act → World → Prop} {a : Act} {w : World} (h : K a w) : Exit.then K Q .normal a w := h
theorem then_ret {K : Act → World → Prop} {Q : Exit → Act → World → Prop} {a : Act} {w : World} (h : Q .ret a w) : Exit.then K Q .ret a w := h
theorem then_exit {K : Act → World → Prop} {Q : Exit → Act → World → Prop} {id : Nat} {a : Act} {w : World} (h : Q (.exit id) a w) : Exit.then K Q (.exit id) a w := h
theorem blk_normal {Q : Exit → Act → World → Prop} {id : Nat} {a : Act} {w : World} (h : Q .normal a w) : Exit.inBlock id Q .normal a w := h
theorem blk_ret {Q : Exit → Act → World → Prop} {id : Nat} {a : Act} {w : World} (h : Q .ret a w) : Exit.inBlock id Q .ret a w := h
theorem blk_hit {Q : Exit → Act → World → Prop} {id : Nat} {a : Act} {w : World} (h : Q .normal a w) : Exit.inBlock id Q (.exit id) a w := by
  unfold Exit.inBlock
  simpa using h
theorem blk_miss {Q : Exit → Act → World → Prop} {id id' : Nat} (hne : id' ≠ id) {a : Act} {w : World} (h : Q (.exit id') a w) : Exit.inBlock id Q (.exit id') a w := by
  unfold Exit.inBlock
  simpa [hne] using h
abbrev vP (k off : Nat) : SV := .s (.ptr k off)
abbrev vX (g off : Nat) : SV := .s (.v (.pointer (some ⟨g, off, none⟩)))
abbrev vU : SV := .s (.v undef)
abbrev inN (k : IntKind) (n : Nat) : Sc := .v (.int k (n : Int))
abbrev inI (k : IntKind) (n : Int) : Sc := .v (.int k n)
abbrev bo (b : Bool) : Sc := .v (.bool b)
abbrev wN (n : Nat) : Sc := .v (.int .u64 (n : Int))
abbrev iN (n : Nat) : Sc := .v (.int .i64 (n : Int))
abbrev vW (n : Nat) : SV := .s (.v (.int .u64 (n : Int)))
abbrev vI (n : Nat) : SV := .s (.v (.int .i64 (n : Int)))
abbrev vB (b : Bool) : SV := .s (.v (.bool b))
noncomputable abbrev vM (k : Nat) : SV := .s (.fn k nfN)
abbrev st (s : ByteArray) : Sc := .v (.string s)
section
variable {P : Program} {F : Fx} {B0 : Bs} {w0 : World} {ops : Array Oper} {o : Oper} {r : Row}
theorem trip_loadx (t g off ty : Nat) (cells : List Sc) (T : TypeId) (part : List Sc) (hop : o.op = .load ty (.tmp t)) (hd : o.dst = r.dst) (hg : o.guard = none) (hn : r.neu = []) (hp : r.puts = [])
    (hx : lk r.use t = some (.s (.v (.pointer (some ⟨g, off, none⟩))))) (hh : ∀ w, Keep B0 w0 w → w.heap[g]? = some (.cells (cells.map (Sc.den fun _ => 0)).toArray T (0, 0))) (hT : AggT P ty part.length)
    (hpart : (cells.drop off).take part.length = part) (hc : ∀ γ, part.map (Sc.den γ) = part.map (Sc.den fun _ => 0)) (hv : r.v = .agg part) : Trip P F B0 w0 ops o r :=
  trip_val hd hg (by rw [hop]; exact hasKey_of_lk hx) hn hp (fun γ w hk _ _ => by
    have hl := run_loadVar_part (P := P) (off := off) (ty := ty) (part := part.map (Sc.den fun _ => 0)) (hh w hk) (by rw [List.length_map]; exact hT) (map_drop_take hpart)
    simp only [execOp, hop, envOf, hx, Instr.loadAt, Instr.sureAddr, SV.den, Sc.den, Sem.run_bind, Sem.run_pure, Result.andThen_ok, hl, hv, hc γ])
theorem trip_loadx1 (t g off ty : Nat) (cells : List Sc) (T : TypeId) (x : Value) (hop : o.op = .load ty (.tmp t)) (hd : o.dst = r.dst) (hg : o.guard = none) (hn : r.neu = []) (hp : r.puts = [])
    (hx : lk r.use t = some (.s (.v (.pointer (some ⟨g, off, none⟩))))) (hh : ∀ w, Keep B0 w0 w → w.heap[g]? = some (.cells (cells.map (Sc.den fun _ => 0)).toArray T (0, 0))) (hT : OneT P ty)
    (hpart : cells[off]? = some (.v x)) (hv : r.v = .s (.v x)) : Trip P F B0 w0 ops o r :=
  trip_val hd hg (by rw [hop]; exact hasKey_of_lk hx) hn hp (fun γ w hk _ _ => by
    have hl := run_loadVar_one (P := P) (off := off) (ty := ty) (v := x) (hh w hk) hT (by rw [List.getElem?_map, hpart]; rfl)
    simp only [execOp, hop, envOf, hx, Instr.loadAt, Instr.sureAddr, SV.den, Sc.den, Sem.run_bind, Sem.run_pure, Result.andThen_ok, hl, hv])
end
section
variable {P : Program} {N : Nat} {F : Fx} {B0 : Bs} {w0 : World} {Q : Exit → Act → World → Prop} {γ : Nat → Nat} {a : Act} {w : World} {S : Nat → Option SV} {C : Nat → Option Ct}
theorem cond_sx {t : Nat} {c : Bool} {x y : Code} (E : Env N F B0 w0 S C γ a w) (hS : S t = some (.s (.v (.bool c)))) (ht : c = true → x.wp P Q a w) (hf : c = false → y.wp P Q a w) :
    (Code.cond (.tmp t) x y).wp P Q a w := by
  have h := E.slot t _ hS
  simp only [SV.den, Sc.den] at h
  exact wp_cond_split (by simp [Act.eval, h]) ht hf
theorem Env.sub {L L' : Sl} {M M' : Bl} (E : Env N F B0 w0 (lk L) (lk M) γ a w) (hL : L'.map (fun p => lk L p.1) = L'.map (fun p => some p.2)) (hM : M'.map (fun p => lk M p.1) = M'.map (fun p => some p.2)) :
    Env N F B0 w0 (lk L') (lk M') γ a w :=
  E.mono (fun _ _ hx => List.map_inj_left.1 hL _ (lk_mem hx)) (fun _ _ hc => List.map_inj_left.1 hM _ (lk_mem hc))
theorem loop_sx {σ : Type} {c : Code} (μ : σ → Nat) (G : σ → Prop) (L : σ → Sl) (M : σ → Bl) (s0 : σ) (hG : G s0) (E : Env N F B0 w0 (lk (L s0)) (lk (M s0)) γ a w)
    (round : ∀ s γ a w, G s → Env N F B0 w0 (lk (L s)) (lk (M s)) γ a w → c.wp P (Exit.then (fun a' w' => ∃ s', μ s' < μ s ∧ G s' ∧ ∃ γ', Env N F B0 w0 (lk (L s')) (lk (M s')) γ' a' w') Q) a w) :
    (Code.loop c).wp P Q a w := by
  refine wp_loop_ghost (fun n a w => ∃ s, μ s = n ∧ G s ∧ ∃ γ, Env N F B0 w0 (lk (L s)) (lk (M s)) γ a w) (μ s0) ⟨s0, rfl, hG, γ, E⟩ ?_
  rintro n a w ⟨s, rfl, hs, γ, E⟩
  refine wp_mono (round s γ a w hs E) ?_
  intro e a' w' h
  cases e with
  | normal =>
    obtain ⟨s', h1, h2, h3⟩ := h
    exact ⟨μ s', h1, s', rfl, h2, h3⟩
  | exit id => exact h
  | goto l => exact h
  | ret => exact h
  | panic c => exact h
  | outgrown => exact h
theorem enter_sx {f : FuncId} {fn : Func} {c : Code} {R : Ending → World → Prop} {args : Array Value} (L : Sl) (N : Nat) (hf : P.funcs[f]? = some fn) (hb : fn.body = some c) (hN : fn.ntmps = N) (hs : args.size ≤ N)
    (hL : ∀ γ : Nat → Nat, L.map (fun p => args[p.1]?) = L.map (fun p => some (p.2.den γ)))
    (h : ∀ γ a, Env N [] noB w0 (lk L) (lk []) γ a w0 → c.wp P (bodyPost P fn R) a w0) : Calls P f args w0 R := by
  refine calls_of_wp hf hb (h (fun _ => 0) _ ⟨?_, rfl, ?_, ?_, ?_, ?_, ?_, Keep.refl _ _⟩)
  · simp; omega
  · intro t x hx
    have := List.map_inj_left.1 (hL fun _ => 0) _ (lk_mem hx)
    simp only at this
    have hlt : t < args.size := by
      by_cases h' : t < args.size
      · exact h'
      · rw [Array.getElem?_eq_none (by omega)] at this; cases this
    simp only
    rw [Array.getElem?_append_left hlt]
    exact this
  · intro k c hc; cases hc
  · intro k c hc; cases hc
  · intro k k' c c' hc; cases hc
  · intro p hp; cases hp
theorem enter_fx {f : FuncId} {fn : Func} {c : Code} {R : Ending → World → Prop} {args : Array Value} (F : Fx) (B0 : Bs) (γ : Nat → Nat) (L : Sl) (M : Bl) (N : Nat) (hf : P.funcs[f]? = some fn) (hb : fn.body = some c) (hN : fn.ntmps = N) (hs : args.size ≤ N)
    (hL : L.map (fun p => args[p.1]?) = L.map (fun p => some (p.2.den γ))) (hfix : ∀ p ∈ F, γ p.1 = p.2) (hM : ∀ k c, lk M k = some c → c.at γ (γ k) w0 ∧ ∀ g, c.ft (γ k) g → B0.b g ∨ (c.mu = false ∧ B0.o g))
    (hinj : ∀ k k' c c', lk M k = some c → lk M k' = some c' → c.mu = true → k ≠ k' → ∀ g, c.ft (γ k) g → ¬ c'.ft (γ k') g)
    (h : ∀ γ a, Env N F B0 w0 (lk L) (lk M) γ a w0 → c.wp P (bodyPost P fn R) a w0) : Calls P f args w0 R := by
  refine calls_of_wp hf hb (h γ _ ⟨?_, rfl, ?_, fun k c hc => (hM k c hc).1, fun k c hc g hg => .inr ((hM k c hc).2 g hg), hinj, hfix, Keep.refl _ _⟩)
  · simp; omega
  · intro t x hx
    have := List.map_inj_left.1 hL _ (lk_mem hx)
    simp only at this
    have hlt : t < args.size := by
      by_cases h' : t < args.size
      · exact h'
      · rw [Array.getElem?_eq_none (by omega)] at this; cases this
    simp only
    rw [Array.getElem?_append_left hlt]
    exact this
abbrev Ent := List (Nat × Nat × Ct)
def Ent.fx (E : Ent) : Fx := E.map fun e => (e.1, e.2.1)
def Ent.bl (E : Ent) : Bl := E.map fun e => (e.1, e.2.2)
def Ent.nms (E : Ent) : Nat → Nat := fun j => (lk E.fx j).getD 0
def Ent.At (γ : Nat → Nat) (w : World) : Ent → Prop
  | [] => True
  | e :: r => e.2.2.at γ e.2.1 w ∧ Ent.At γ w r
def aparts (e d : Nat × Nat × Ct) : Prop := (e.2.2.mu = true → ∀ g, e.2.2.ft e.2.1 g → ¬ d.2.2.ft d.2.1 g) ∧ (d.2.2.mu = true → ∀ g, d.2.2.ft d.2.1 g → ¬ e.2.2.ft e.2.1 g)
theorem aparts_cells {e d : Nat × Nat × Ct} (he : e.2.2.isNum = false) (hd : d.2.2.isNum = false) (h : e.2.1 ≠ d.2.1) : aparts e d :=
  ⟨fun _ g h1 h2 => h (((Ct.ft_eq he).1 h1).symm.trans ((Ct.ft_eq hd).1 h2)), fun _ g h1 h2 => h (((Ct.ft_eq he).1 h2).symm.trans ((Ct.ft_eq hd).1 h1))⟩
def Ent.Apart : Ent → Prop
  | [] => True
  | e :: r => (∀ d ∈ r, aparts e d) ∧ Ent.Apart r
def Ent.B (E : Ent) : Bs := ⟨fun g => ∃ e ∈ E, e.2.2.mu = true ∧ e.2.2.ft e.2.1 g, fun g => ∃ e ∈ E, e.2.2.mu = false ∧ e.2.2.ft e.2.1 g⟩
def Ent.ok (E : Ent) : Bool := nodupK E.fx && E.all fun e => match e.2.2.1 with
  | .sc l => l.all fun c => match c with | .v _ => true | .ptr k _ => hasKey E.fx k | .sl k _ _ _ => hasKey E.fx k | .fn k _ => hasKey E.fx k
  | .pl _ => true
  | .abs _ => true
theorem lk_map_snd {α β : Type} (f : α → β) {k : Nat} : ∀ {l : List (Nat × α)}, lk (l.map fun e => (e.1, f e.2)) k = (lk l k).map f
  | [] => rfl
  | (u, x) :: r => by
    simp only [List.map_cons, lk]
    cases hb : Nat.beq u k with
    | true => rfl
    | false => exact lk_map_snd f
theorem Ent.mem_of_M {E : Ent} {k : Nat} {c : Ct} (h : lk E.bl k = some c) : ∃ g, (k, g, c) ∈ E ∧ lk E.fx k = some g := by
  unfold Ent.bl at h
  rw [show E.map (fun e => (e.1, e.2.2)) = E.map (fun e => (e.1, (fun x : Nat × Ct => x.2) e.2)) from rfl, lk_map_snd] at h
  cases hl : lk E k with
  | none => rw [hl] at h; cases h
  | some x =>
    rw [hl] at h
    simp only [Option.map_some, Option.some.injEq] at h
    obtain ⟨g, c'⟩ := x
    simp only at h
    subst h
    refine ⟨g, lk_mem hl, ?_⟩
    unfold Ent.fx
    rw [show E.map (fun e => (e.1, e.2.1)) = E.map (fun e => (e.1, (fun x : Nat × Ct => x.1) e.2)) from rfl, lk_map_snd, hl]; rfl
theorem Ent.At.get {γ : Nat → Nat} {w : World} : ∀ {E : Ent}, E.At γ w → ∀ e ∈ E, e.2.2.at γ e.2.1 w
  | [], _, _, h => by cases h
  | d :: r, ⟨h1, h2⟩, e, h => by
    rcases List.mem_cons.1 h with rfl | h
    · exact h1
    · exact Ent.At.get h2 e h
theorem Ent.Apart.get : ∀ {E : Ent}, E.Apart → nodupK E.fx = true → ∀ e ∈ E, ∀ d ∈ E, e.1 ≠ d.1 → aparts e d
  | [], _, _, _, h, _, _, _ => by cases h
  | x :: r, ⟨h1, h2⟩, hn, e, he, d, hd, hne => by
    simp only [Ent.fx, List.map_cons, nodupK, Bool.and_eq_true] at hn
    rcases List.mem_cons.1 he with q1 | q1 <;> rcases List.mem_cons.1 hd with q2 | q2
    · rw [q1, q2] at hne; exact absurd rfl hne
    · rw [q1]; exact h1 d q2
    · rw [q2]; exact ⟨(h1 e q1).2, (h1 e q1).1⟩
    · exact Ent.Apart.get h2 hn.2 e q1 d q2 hne
theorem lk_of_mem_nodup {k g : Nat} : ∀ {l : Fx}, nodupK l = true → (k, g) ∈ l → lk l k = some g
  | [], _, h => by cases h
  | (u, x) :: r, hn, h => by
    simp only [nodupK, Bool.and_eq_true, Bool.not_eq_true'] at hn
    simp only [lk]
    rcases List.mem_cons.1 h with h | h
    · simp only [Prod.mk.injEq] at h
      obtain ⟨rfl, rfl⟩ := h
      simp
    · have ih := lk_of_mem_nodup hn.2 h
      cases hb : Nat.beq u k with
      | true =>
        have := Nat.eq_of_beq_eq_true hb
        subst this
        rw [hasKey_of_lk ih] at hn
        cases hn.1
      | false => simpa using ih
theorem enter_e {f : FuncId} {fn : Func} {c : Code} {R : Ending → World → Prop} {args : Array Value} (E : Ent) (L : Sl) (N : Nat) (hf : P.funcs[f]? = some fn) (hb : fn.body = some c) (hN : fn.ntmps = N) (hs : args.size ≤ N)
    (hL : L.map (fun p => args[p.1]?) = L.map (fun p => some (p.2.den E.nms))) (hok : E.ok = true) (hE : E.At E.nms w0) (ha : E.Apart)
    (h : ∀ γ a, Env N E.fx E.B w0 (lk L) (lk E.bl) γ a w0 → c.wp P (bodyPost P fn R) a w0) : Calls P f args w0 R := by
  simp only [Ent.ok, Bool.and_eq_true] at hok
  have hγ : ∀ p ∈ E.fx, E.nms p.1 = p.2 := fun p hp => by
    obtain ⟨k, g⟩ := p
    simp only [Ent.nms, lk_of_mem_nodup hok.1 hp, Option.getD_some]
  refine enter_fx E.fx E.B E.nms L E.bl N hf hb hN hs hL hγ (fun k c hc => ?_) (fun k k' c c' hc hc' hNm hne => ?_) h
  · obtain ⟨g, hm, hl⟩ := Ent.mem_of_M hc
    have h1 := hE.get _ hm
    have h2 : E.nms k = g := by simp [Ent.nms, hl]
    simp only at h1
    rw [h2]
    refine ⟨h1, fun g' hg' => ?_⟩
    cases hmu : c.mu with
    | true => exact .inl ⟨_, hm, hmu, hg'⟩
    | false => exact .inr ⟨rfl, _, hm, hmu, hg'⟩
  · obtain ⟨g, hm, hl⟩ := Ent.mem_of_M hc
    obtain ⟨g', hm', hl'⟩ := Ent.mem_of_M hc'
    have h2 : E.nms k = g := by simp [Ent.nms, hl]
    have h2' : E.nms k' = g' := by simp [Ent.nms, hl']
    rw [h2, h2']
    exact (ha.get hok.1 _ hm _ hm' hne).1 hNm
inductive ResOk (P : Program) (S : Nat → Option SV) (C : Nat → Option Ct) : ResultVar → SV → Prop where
  | tmp (t : Nat) (v : SV) (h : S t = some v) : ResOk P S C (.tmp t) v
  | cells (p k off ty T : Nat) (cs part : List Sc) (h : S p = some (.s (.ptr k off))) (hc : C k = some (.sc cs, T)) (hT : AggT P ty part.length) (hp : (cs.drop off).take part.length = part) : ResOk P S C (.cell p ty) (.agg part)
  | cell (p k off ty T : Nat) (cs : List Sc) (x : Sc) (h : S p = some (.s (.ptr k off))) (hc : C k = some (.sc cs, T)) (hT : OneT P ty) (hp : cs[off]? = some x) : ResOk P S C (.cell p ty) (.s x)
def rdV (tmps : Array Value) : ResultVar → Sem Value
  | .tmp t => pure (tmps.getD t undef)
  | .cell a t => do loadVar t (← asAddr (tmps.getD a undef))
theorem results_eq (fn : Func) (tmps : Array Value) : results fn tmps = (do
    let vs ← fn.results.mapM (rdV tmps)
    pure (if h : vs.size = 1 then vs[0] else .tuple vs)) := by
  unfold results
  congr 1
theorem res_run {E : Env N F B0 w0 S C γ a w} {rv : ResultVar} {v : SV} (h : ResOk P S C rv v) : (rdV a.tmps rv).run P w = .ok (v.den γ) w := by
  cases h with
  | tmp t v h =>
    have := E.slot t v h
    simp [rdV, this]
  | cells p k off ty T cs part h hc hT hp =>
    have h1 := E.slot p _ h
    have h2 : w.heap[γ k]? = some (.cells (cs.map (Sc.den γ)).toArray T (0, 0)) := E.heap k _ hc
    have hl := run_loadVar_part (P := P) (off := off) (ty := ty) (part := part.map (Sc.den γ)) h2 (by rw [List.length_map]; exact hT) (map_drop_take hp)
    simp only [SV.den, Sc.den] at h1
    simp [rdV, h1, asAddr, hl, SV.den]
  | cell p k off ty T cs x h hc hT hp =>
    have h1 := E.slot p _ h
    have h2 : w.heap[γ k]? = some (.cells (cs.map (Sc.den γ)).toArray T (0, 0)) := E.heap k _ hc
    have hl := run_loadVar_one (P := P) (off := off) (ty := ty) (v := x.den γ) h2 hT (by rw [List.getElem?_map, hp]; rfl)
    simp only [SV.den, Sc.den] at h1
    simp [rdV, h1, asAddr, hl, SV.den]
theorem results1 {E : Env N F B0 w0 S C γ a w} {fn : Func} {r1 : ResultVar} {v1 : SV} (hr : fn.results = #[r1]) (h1 : ResOk P S C r1 v1) : (results fn a.tmps).run P w = .ok (v1.den γ) w := by
  have e1 := res_run (E := E) h1
  rw [results_eq, hr]
  simp [e1]
theorem results2 {E : Env N F B0 w0 S C γ a w} {fn : Func} {r1 r2 : ResultVar} {v1 v2 : SV} (hr : fn.results = #[r1, r2]) (h1 : ResOk P S C r1 v1) (h2 : ResOk P S C r2 v2) :
    (results fn a.tmps).run P w = .ok (.tuple #[v1.den γ, v2.den γ]) w := by
  have e1 := res_run (E := E) h1
  have e2 := res_run (E := E) h2
  rw [results_eq, hr]
  simp [e1, e2]
theorem end1 {fn : Func} {R : Ending → World → Prop} {r1 : ResultVar} {v1 : SV} (E : Env N F B0 w0 S C γ a w) (hr : fn.results = #[r1]) (h1 : ResOk P S C r1 v1) (hR : R (.returned (v1.den γ)) w) :
    bodyPost P fn R .ret a w ∧ bodyPost P fn R .normal a w :=
  ⟨⟨E.defers, _, results1 (E := E) hr h1, hR⟩, ⟨E.defers, _, results1 (E := E) hr h1, hR⟩⟩
theorem end2 {fn : Func} {R : Ending → World → Prop} {r1 r2 : ResultVar} {v1 v2 : SV} (E : Env N F B0 w0 S C γ a w) (hr : fn.results = #[r1, r2]) (h1 : ResOk P S C r1 v1) (h2 : ResOk P S C r2 v2)
    (hR : R (.returned (.tuple #[v1.den γ, v2.den γ])) w) : bodyPost P fn R .ret a w ∧ bodyPost P fn R .normal a w :=
  ⟨⟨E.defers, _, results2 (E := E) hr h1 h2, hR⟩, ⟨E.defers, _, results2 (E := E) hr h1 h2, hR⟩⟩
end
section
variable {P : Program} {F : Fx} {B0 : Bs} {w0 : World} {ops : Array Oper} {o : Oper} {r : Row}
theorem tlx {t g off ty n : Nat} {cells : List Sc} {T : TypeId} {part : List Sc} (hh : ∀ w, Keep B0 w0 w → w.heap[g]? = some (.cells (cells.map (Sc.den fun _ => 0)).toArray T (0, 0))) (hT : AggT P ty n) (hop : o.op = .load ty (.tmp t) := by exact rfl) (hd : o.dst = r.dst := by exact rfl) (hg : o.guard = none := by exact rfl) (hn : r.neu = [] := by exact rfl) (hp : r.puts = [] := by exact rfl)
    (hx : lk r.use t = some (.s (.v (.pointer (some ⟨g, off, none⟩)))) := by exact rfl) (hv : r.v = .agg part := by exact rfl) (hl : part.length = n := by kernel_rfl)
    (hpart : (cells.drop off).take part.length = part := by kernel_rfl) (hc : ∀ γ, part.map (Sc.den γ) = part.map (Sc.den fun _ => 0) := by (intro γ; kernel_rfl)) : Trip P F B0 w0 ops o r :=
  trip_loadx t g off ty cells T part hop hd hg hn hp hx hh (hl ▸ hT) hpart hc hv
theorem tlx1 {t g off ty : Nat} {cells : List Sc} {T : TypeId} {x : Value} (hh : ∀ w, Keep B0 w0 w → w.heap[g]? = some (.cells (cells.map (Sc.den fun _ => 0)).toArray T (0, 0))) (hT : OneT P ty) (hop : o.op = .load ty (.tmp t) := by exact rfl) (hd : o.dst = r.dst := by exact rfl) (hg : o.guard = none := by exact rfl) (hn : r.neu = [] := by exact rfl) (hp : r.puts = [] := by exact rfl)
    (hx : lk r.use t = some (.s (.v (.pointer (some ⟨g, off, none⟩)))) := by exact rfl) (hv : r.v = .s (.v x) := by exact rfl)
    (hpart : cells[off]? = some (.v x) := by kernel_rfl) : Trip P F B0 w0 ops o r :=
  trip_loadx1 t g off ty cells T x hop hd hg hn hp hx hh hT hpart hv
end
section
variable {P : Program} {N : Nat} {w0 : World} {γ : Nat → Nat} {a : Act} {w : World}
def Sc.ren (ρ : List (Nat × Nat)) : Sc → Sc
  | .v x => .v x
  | .ptr k o => .ptr ((lk ρ k).getD k) o
  | .sl k o n c => .sl ((lk ρ k).getD k) o n c
  | .fn k f => .fn ((lk ρ k).getD k) f
def SV.ren (ρ : List (Nat × Nat)) : SV → SV
  | .s x => .s (x.ren ρ)
  | .agg cs => .agg (cs.map (Sc.ren ρ))
  | .two a b => .two (a.ren ρ) (b.ren ρ)
  | .three a b c => .three (a.ren ρ) (b.ren ρ) (c.ren ρ)
def Cn.ren (ρ : List (Nat × Nat)) : Cn → Cn
  | .sc l => .sc (l.map (Sc.ren ρ))
  | .pl l => .pl l
  | .abs A => .abs A
def rn (ρ : List (Nat × Nat)) (γ : Nat → Nat) : Nat → Nat := fun k => γ ((lk ρ k).getD k)
theorem Sc.ren_den (ρ : List (Nat × Nat)) (x : Sc) : (x.ren ρ).den γ = x.den (rn ρ γ) := by cases x <;> rfl
theorem ren_map (ρ : List (Nat × Nat)) (cs : List Sc) : (cs.map (Sc.ren ρ)).map (Sc.den γ) = cs.map (Sc.den (rn ρ γ)) := by
  rw [List.map_map]
  exact List.map_congr_left (fun x _ => Sc.ren_den ρ x)
theorem SV.ren_den (ρ : List (Nat × Nat)) (x : SV) : (x.ren ρ).den γ = x.den (rn ρ γ) := by
  induction x with
  | s x => exact Sc.ren_den ρ x
  | agg cs => simp only [SV.ren, SV.den, ren_map]
  | two a b iha ihb => simp only [SV.ren, SV.den, iha, ihb]
  | three a b c iha ihb ihc => simp only [SV.ren, SV.den, iha, ihb, ihc]
theorem Ct.ren_obj (ρ : List (Nat × Nat)) (c : Cn) (T : TypeId) : Ct.obj γ (c.ren ρ, T) = Ct.obj (rn ρ γ) (c, T) := by
  cases c with
  | sc l => simp only [Ct.obj, Cn.ren, Cn.cs, ren_map]
  | pl l =>
    simp only [Ct.obj, Cn.ren, Cn.cs, List.map_map]
    rfl
  | abs A => rfl
theorem Ct.ren_at (ρ : List (Nat × Nat)) (c : Cn) (T : TypeId) (n : Nat) : Ct.at γ (c.ren ρ, T) n w ↔ Ct.at (rn ρ γ) (c, T) n w := by
  cases c with
  | sc l => show w.heap[n]? = some (Ct.obj γ (Cn.ren ρ (.sc l), T)) ↔ w.heap[n]? = some (Ct.obj _ (.sc l, T)); rw [Ct.ren_obj]
  | pl l => show w.heap[n]? = some (Ct.obj γ (Cn.ren ρ (.pl l), T)) ↔ w.heap[n]? = some (Ct.obj _ (.pl l, T)); rw [Ct.ren_obj]
  | abs A => exact Iff.rfl
theorem Ct.ren_mu (ρ : List (Nat × Nat)) (c : Cn) (T : TypeId) : Ct.mu (c.ren ρ, T) = Ct.mu (c, T) := by cases c <;> rfl
theorem Ct.ren_ft (ρ : List (Nat × Nat)) (c : Cn) (T : TypeId) (n g : Nat) : Ct.ft (c.ren ρ, T) n g ↔ Ct.ft (c, T) n g := by cases c <;> exact Iff.rfl
def renOk (F : Fx) (ρ : List (Nat × Nat)) (M : Bl) : Bool := (F.all fun p => !hasKey ρ p.1) && M.all fun p => M.all fun q => Nat.beq p.1 q.1 || !Nat.beq ((lk ρ p.1).getD p.1) ((lk ρ q.1).getD q.1)
theorem Env.ren {F : Fx} {B0 : Bs} {L L' : Sl} {M M' : Bl} (ρ : List (Nat × Nat)) (E : Env N F B0 w0 (lk L) (lk M) γ a w) (hr : renOk F ρ M' = true) (hL : L'.map (fun p => lk L p.1) = L'.map (fun p => some (p.2.ren ρ)))
    (hM : M'.map (fun p => lk M ((lk ρ p.1).getD p.1)) = M'.map (fun p => some (p.2.1.ren ρ, p.2.2))) : Env N F B0 w0 (lk L') (lk M') (rn ρ γ) a w := by
  simp only [renOk, Bool.and_eq_true] at hr
  have hm : ∀ k c, lk M' k = some c → lk M ((lk ρ k).getD k) = some (c.1.ren ρ, c.2) := fun k c hc => List.map_inj_left.1 hM _ (lk_mem hc)
  refine ⟨E.tsize, E.defers, fun t x hx => ?_, fun k c hc => ?_, fun k c hc g hg => ?_, fun k k' c c' hc hc' hmu hne g hg hg' => ?_, fun p hp => ?_, E.keep⟩
  · rw [← SV.ren_den]
    exact E.slot t _ (List.map_inj_left.1 hL _ (lk_mem hx))
  · exact (Ct.ren_at ρ c.1 c.2 _).1 (E.heap _ _ (hm k c hc))
  · rcases E.own _ _ (hm k c hc) g ((Ct.ren_ft ρ c.1 c.2 _ g).2 hg) with h | h | h
    · exact .inl h
    · exact .inr (.inl h)
    · exact .inr (.inr ⟨(Ct.ren_mu ρ c.1 c.2).symm.trans h.1, h.2⟩)
  · have h1 := List.all_eq_true.1 (List.all_eq_true.1 hr.2 _ (lk_mem hc)) _ (lk_mem hc')
    simp only [beq_ne hne, Bool.false_or, Bool.not_eq_true'] at h1
    refine E.inj _ _ _ _ (hm k c hc) (hm k' c' hc') ((Ct.ren_mu ρ c.1 c.2).trans hmu) (fun e => ?_) g ((Ct.ren_ft ρ c.1 c.2 _ g).2 hg) ((Ct.ren_ft ρ c'.1 c'.2 _ g).2 hg')
    rw [e, beq_self] at h1; cases h1
  · have h1 := List.all_eq_true.1 hr.1 p hp
    simp only [Bool.not_eq_true'] at h1
    show γ ((lk ρ p.1).getD p.1) = p.2
    rw [lk_none_of_hasKey h1]
    exact E.fix p hp
theorem Env.new {F : Fx} {S : Nat → Option SV} {C : Nat → Option Ct} (E : Env N F noB w0 S C γ a w) {k : Nat} {c : Ct} (hc : C k = some c) (hN : c.isNum = false := by rfl) : w0.heap.size ≤ γ k :=
  (E.own k c hc (γ k) ((Ct.ft_eq hN).2 rfl)).resolve_right (fun h => h.elim id fun h => h.2)
theorem Env.ne {F : Fx} {B0 : Bs} {S : Nat → Option SV} {C : Nat → Option Ct} (E : Env N F B0 w0 S C γ a w) {k k' : Nat} {c c' : Ct} (hc : C k = some c) (hc' : C k' = some c') (hne : k ≠ k' := by decide) (hN : c.isNum = false := by rfl) (hN' : c'.isNum = false := by rfl) : γ k ≠ γ k' :=
  fun e => E.inj k k' c c' hc hc' (Ct.mu_of hN) hne (γ k) ((Ct.ft_eq hN).2 rfl) ((Ct.ft_eq hN').2 e)
end
end Sx
end Go.Proofs.Ytddfimfgcfgpbaa
namespace Go.Proofs.Ytddfimfgcfgpbaa
open Sx
open Go.RowKit (Below)
theorem wr_i64 {A : Int} {n : Nat} (h : A = n) (hn : n < 9223372036854775808) : Value.int .i64 (IntKind.i64.wrap A) = Value.int .i64 (n : Int) := by
  subst h; congr 1; rw [IntKind.wrap_i64]; omega
theorem wr_u64 {A : Int} {n : Nat} (h : A = n) (hn : n < 18446744073709551616) : Value.int .u64 (IntKind.u64.wrap A) = Value.int .u64 (n : Int) := by
  subst h; congr 1; rw [IntKind.wrap_u64]; omega
theorem wr_u8 {A : Int} {n : Nat} (h : A = n) (hn : n < 256) : Value.int .u8 (IntKind.u8.wrap A) = Value.int .u8 (n : Int) := by
  subst h; congr 1; rw [IntKind.wrap_u8]; omega
theorem wr_u32 {A : Int} {n : Nat} (h : A = n) (hn : n < 4294967296) : Value.int .u32 (IntKind.u32.wrap A) = Value.int .u32 (n : Int) := by
  subst h; congr 1; rw [IntKind.wrap_u32]; omega
theorem wu_add (a b : Nat) : Value.int .u64 (IntKind.u64.wrap ((a : Int) + (b : Int))) = Value.int .u64 (((a + b) % 18446744073709551616 : Nat) : Int) := by
  congr 1
theorem wu_mul (a b : Nat) : Value.int .u64 (IntKind.u64.wrap ((a : Int) * (b : Int))) = Value.int .u64 (((a * b) % 18446744073709551616 : Nat) : Int) := by
  congr 1
theorem wu_sub (a b : Nat) (h : b ≤ 18446744073709551616) : Value.int .u64 (IntKind.u64.wrap ((a : Int) - (b : Int))) = Value.int .u64 (((a + (18446744073709551616 - b)) % 18446744073709551616 : Nat) : Int) := by
  congr 1; rw [IntKind.wrap_u64]; omega
theorem wi_add {a b : Nat} (h : a + b < 9223372036854775808 := by omega) : Value.int .i64 (IntKind.i64.wrap ((a : Int) + (b : Int))) = Value.int .i64 ((a + b : Nat) : Int) := wr_i64 (by omega) h
theorem wi_sub {a b : Nat} (h : b ≤ a := by omega) (h2 : a - b < 9223372036854775808 := by omega) : Value.int .i64 (IntKind.i64.wrap ((a : Int) - (b : Int))) = Value.int .i64 ((a - b : Nat) : Int) := wr_i64 (by omega) h2
theorem wi_mul {a b : Nat} (h : a * b < 9223372036854775808 := by omega) : Value.int .i64 (IntKind.i64.wrap ((a : Int) * (b : Int))) = Value.int .i64 ((a * b : Nat) : Int) := wr_i64 (by simp) h
theorem wu32_add {a b : Nat} (h : a + b < 4294967296 := by omega) : Value.int .u32 (IntKind.u32.wrap ((a : Int) + (b : Int))) = Value.int .u32 ((a + b : Nat) : Int) := wr_u32 (by omega) h
theorem d_lss (a b : Nat) : Value.bool (decide ((a : Int) < (b : Int))) = Value.bool (decide (a < b)) := by simp
theorem d_leq (a b : Nat) : Value.bool (decide ((a : Int) ≤ (b : Int))) = Value.bool (decide (a ≤ b)) := by simp
theorem d_gtr (a b : Nat) : Value.bool (decide ((a : Int) > (b : Int))) = Value.bool (decide (b < a)) := by simp
theorem d_geq (a b : Nat) : Value.bool (decide ((a : Int) ≥ (b : Int))) = Value.bool (decide (b ≤ a)) := by simp
theorem d_eql (a b : Nat) : Value.bool ((a : Int) == (b : Int)) = Value.bool (decide (a = b)) := by
  congr 1; rw [Bool.eq_iff_iff]; simp; omega
theorem d_neq (a b : Nat) : Value.bool ((a : Int) != (b : Int)) = Value.bool (!decide (a = b)) := by
  congr 1; rw [Bool.eq_iff_iff]; simp; omega
def dg (x i : Nat) : Nat := x / 2 ^ (64 * i) % 2 ^ 64
def U9 (x : Nat) : List Sc := [inN .u64 (dg x 0), inN .u64 (dg x 1), inN .u64 (dg x 2), inN .u64 (dg x 3), inN .u64 (dg x 4), inN .u64 (dg x 5), inN .u64 (dg x 6), inN .u64 (dg x 7), inN .u64 (dg x 8)]
noncomputable def nv (x : Nat) : Value := .agg ((U9 x).map (Sc.den fun _ => 0)).toArray
def arrOf (P : Program) (ty : Nat) : Option (Nat × Nat) := match P.underlying ty with
  | some (.array len e) => (P.info? e).map fun i => (len, i.size)
  | _ => none
def ArrT (P : Program) (ty n : Nat) : Prop := arrOf P ty = some (n, 1)
theorem trip_ixarr {P : Program} {F : Fx} {B0 : Bs} {w0 : World} {ops : Array Oper} {o : Oper} {r : Row} (t : Nat) (ix : Operand) (k off i n ty : Nat) (hop : o.op = .indexAddr ty (.tmp t) ix) (hd : o.dst = r.dst) (hg : o.guard = none) (hn : r.neu = []) (hp : r.puts = [])
    (hx : lk r.use t = some (.s (.ptr k off))) (hkx : knownX r.use ix = true) (hi : ∀ γ, envOf γ r.use ix = .int .i64 (i : Int)) (hT : ArrT P ty n) (hlt : i < n) (hv : r.v = .s (.ptr k (off + i))) : Trip P F B0 w0 ops o r :=
  trip_pure hd hg (by rw [hop]; simp only [known, Bool.and_eq_true]; exact ⟨hasKey_of_lk hx, hkx⟩) hn hp (fun γ w => by
    unfold ArrT arrOf at hT
    cases hu : P.underlying ty with
    | none => rw [hu] at hT; cases hT
    | some d =>
      rw [hu] at hT
      cases d with
      | array len e =>
        simp only at hT
        cases he : P.info? e with
        | none => rw [he] at hT; cases hT
        | some inf =>
          rw [he] at hT
          simp only [Option.map_some, Option.some.injEq, Prod.mk.injEq] at hT
          obtain ⟨rfl, hsz⟩ := hT
          have h1 : (0 : Int) ≤ (i : Int) := by omega
          have h2 : (i : Int) < (len : Int) := by omega
          simp only [execOp, hop, hi γ, show envOf γ r.use (.tmp t) = .pointer (some ⟨γ k, off, none⟩) by simp [envOf, hx, SV.den, Sc.den]]
          simp [Instr.indexAt, asIntOf, run_underlying hu, Instr.sureAddr, sizeOf, typeInfo, he, hsz, hlt, add_none, hv, SV.den, Sc.den]
      | _ => cases hT)
section
variable {P : Program} {F : Fx} {B0 : Bs} {w0 : World} {ops : Array Oper} {o : Oper} {r : Row}
theorem txa0 {t : Nat} {ix : Operand} {k i n ty : Nat} (hT : ArrT P ty n) (hop : o.op = .indexAddr ty (.tmp t) ix := by exact rfl) (hd : o.dst = r.dst := by exact rfl) (hg : o.guard = none := by exact rfl) (hn : r.neu = [] := by exact rfl) (hp : r.puts = [] := by exact rfl)
    (hx : lk r.use t = some (.s (.ptr k 0)) := by exact rfl) (hv : r.v = .s (.ptr k i) := by exact rfl) (hkx : knownX r.use ix = true := by exact rfl) (hi : ∀ γ, envOf γ r.use ix = .int .i64 (i : Int) := by (intro γ; kernel_rfl)) (hlt : i < n := by omega) : Trip P F B0 w0 ops o r :=
  trip_ixarr t ix k 0 i n ty hop hd hg hn hp hx hkx hi hT hlt (by rw [hv, Nat.zero_add])
end
end Go.Proofs.Ytddfimfgcfgpbaa
namespace Go.Proofs
open Go.Shelf
def Try.lays134_ren : Go.Shelf.Ren := ⟨fun | 134 => 148 | 129 => 130 | n => n, fun | 53 => 22 | 3 => 3 | 4 => 4 | 46 => 30 | 5 => 5 | 9 => 9 | n => n, fun | n => n⟩
theorem Try.lays134 : Go.Proofs.Lays.n134 Try.prog Try.lays134_ren := {
  mixed := by kernel_rfl
  f129 := Try.func130.trans (congrArg some (by kernel_rfl))
  f134 := Try.func148.trans (congrArg some (by kernel_rfl))
  t3 := Try.underlying3
  a3 := Try.isAgg3
  z3 := Try.sizeOf3
  v3 := Try.zeroValue3
  t4 := Try.underlying4
  a4 := Try.isAgg4
  z4 := Try.sizeOf4
  v4 := Try.zeroValue4
  t5 := Try.underlying5
  a5 := Try.isAgg5
  z5 := Try.sizeOf5
  v5 := Try.zeroValue5
  t9 := Try.underlying9
  a9 := Try.isAgg9
  z9 := Try.sizeOf9
  v9 := Try.zeroValue9
  t46 := Try.underlying30
  a46 := Try.isAgg30
  z46 := Try.sizeOf30
  v46 := Try.zeroValue30
  t53 := Try.underlying22
  a53 := Try.isAgg22
  z53 := Try.sizeOf22
  v53 := Try.zeroValue22 }
theorem Try.bits_LeadingZeros64 (x : Int) (w : World) (h0 : 0 ≤ x) (h1 : x ≤ 18446744073709551615) :
    Calls Try.prog 148 #[.int .u64 x] w fun e w' => e = .returned (.int .i64 (64 - (Lib.bitLen x.toNat : Int))) ∧ w' = w := Any.bits_LeadingZeros64 Try.lays134 x w h0 h1
def Try.lays129_ren : Go.Shelf.Ren := ⟨fun | 129 => 130 | n => n, fun | 53 => 22 | 3 => 3 | 4 => 4 | 46 => 30 | 5 => 5 | 9 => 9 | n => n, fun | n => n⟩
theorem Try.lays129 : Go.Proofs.Lays.n129 Try.prog Try.lays129_ren := {
  mixed := by kernel_rfl
  f129 := Try.func130.trans (congrArg some (by kernel_rfl))
  t3 := Try.underlying3
  a3 := Try.isAgg3
  z3 := Try.sizeOf3
  v3 := Try.zeroValue3
  t4 := Try.underlying4
  a4 := Try.isAgg4
  z4 := Try.sizeOf4
  v4 := Try.zeroValue4
  t5 := Try.underlying5
  a5 := Try.isAgg5
  z5 := Try.sizeOf5
  v5 := Try.zeroValue5
  t9 := Try.underlying9
  a9 := Try.isAgg9
  z9 := Try.sizeOf9
  v9 := Try.zeroValue9
  t46 := Try.underlying30
  a46 := Try.isAgg30
  z46 := Try.sizeOf30
  v46 := Try.zeroValue30
  t53 := Try.underlying22
  a53 := Try.isAgg22
  z53 := Try.sizeOf22
  v53 := Try.zeroValue22 }
theorem Try.bits_Len64 (x : Int) (w : World) (h0 : 0 ≤ x) (h1 : x ≤ 18446744073709551615) :
    Calls Try.prog 130 #[.int .u64 x] w fun e w' => e = .returned (.int .i64 (Lib.bitLen x.toNat)) ∧ w' = w := Any.bits_Len64 Try.lays129 x w h0 h1
def Try.lays264_ren : Go.Shelf.Ren := ⟨fun | 264 => 149 | n => n, fun | 53 => 22 | 46 => 30 | n => n, fun | n => n⟩
theorem Try.lays264 : Go.Proofs.Lays.n264 Try.prog Try.lays264_ren := {
  mixed := by kernel_rfl
  f264 := Try.func149.trans (congrArg some (by kernel_rfl))
  t46 := Try.underlying30
  a46 := Try.isAgg30
  z46 := Try.sizeOf30
  v46 := Try.zeroValue30
  t53 := Try.underlying22
  a53 := Try.isAgg22
  z53 := Try.sizeOf22
  v53 := Try.zeroValue22 }
open Go.RowKit Go.Lib in
theorem Try.bits_Mul64 (x y : Nat) (hx : x < 18446744073709551616) (hy : y < 18446744073709551616) (w : World) :
    Calls Try.prog 149 #[.int .u64 x, .int .u64 y] w fun e w' => e = .returned (.tuple #[.int .u64 ((x * y / 18446744073709551616 : Nat) : Int), .int .u64 ((x * y % 18446744073709551616 : Nat) : Int)]) ∧ w' = w := Any.bits_Mul64 Try.lays264 x y hx hy w
end Go.Proofs
namespace Go.Proofs.Ytddfimfgcfgpbaa
open Sx
open Go.RowKit (Below)
section
variable {P : Program} {F : Fx} {B0 : Bs} {w0 : World} {ops : Array Oper} {o : Oper} {r : Row}
theorem trip_bin (op : BinOp) (tx ty : TypeId) (x y : Operand) (A B V : Value) (hop : o.op = .binOp op tx x y ty) (hd : o.dst = r.dst) (hg : o.guard = none) (hk : known r.use o.op = true) (hn : r.neu = []) (hp : r.puts = [])
    (hA : ∀ γ, envOf γ r.use x = A) (hB : ∀ γ, envOf γ r.use y = B) (h1 : ∀ a b, eqGuard op tx x y a b = pure ()) (hV : ∀ w, (binOp op tx A B).run P w = .ok V w) (hv : ∀ γ, V = r.v.den γ) : Trip P F B0 w0 ops o r :=
  trip_pure hd hg hk hn hp (fun γ w => by
    simp only [execOp, hop, h1, hA γ, hB γ, Sem.run_bind, Sem.run_pure, Result.andThen_ok, hV w, hv γ])
theorem trip_eq (op : BinOp) (tx ty : TypeId) (x y : Operand) (A B : (Nat → Nat) → Value) (c : Bool) (hop : o.op = .binOp op tx x y ty) (hd : o.dst = r.dst) (hg : o.guard = none) (hk : known r.use o.op = true) (hn : r.neu = []) (hp : r.puts = [])
    (hA : ∀ γ, envOf γ r.use x = A γ) (hB : ∀ γ, envOf γ r.use y = B γ) (hG : ∀ γ w, (eqGuard op tx x y (A γ) (B γ)).run P w = .ok () w) (hV : ∀ γ w, (binOp op tx (A γ) (B γ)).run P w = .ok (.bool c) w) (hv : ∀ γ, Value.bool c = r.v.den γ) : Trip P F B0 w0 ops o r :=
  trip_pure hd hg hk hn hp (fun γ w => by
    simp only [execOp, hop, hA γ, hB γ, Sem.run_bind, Sem.run_pure, Result.andThen_ok, hG γ w, hV γ w, hv γ])
theorem trip_prim (f : FuncId) (c : Call) (args : (Nat → Nat) → Array Value) (V : (Nat → Nat) → Value) (hop : o.op = .call c) (hc : c.callee = .value (.func f)) (hd : o.dst = r.dst) (hg : o.guard = none) (hk : known r.use o.op = true) (hn : r.neu = []) (hp : r.puts = [])
    (hA : ∀ γ, c.args.map (envOf γ r.use) = args γ) (hV : ∀ γ w, (callFunc f (args γ)).run P w = .ok (.value (V γ)) w) (hv : ∀ γ, V γ = r.v.den γ) : Trip P F B0 w0 ops o r :=
  trip_pure hd hg hk hn hp (fun γ w => by
    simp only [execOp, hop, resolve, hc, hA γ, envOf, Deferred.ofValue, Sem.run_bind, Sem.run_pure, Result.andThen_ok, invoke, Array.append_empty, Array.empty_append, hV γ w, hv γ])
end
section
variable {P : Program} {tx : TypeId} {w : World}
theorem b_shr_u64 (a n : Nat) (yk : IntKind) (h : n ≤ 64) : (binOp .shr tx (.int .u64 a) (.int yk n)).run P w = .ok (.int .u64 ((a / 2 ^ n : Nat) : Int)) w := by
  have h1 : ¬ ((n : Int) < 0) := by omega
  have h2 : min (n : Int).toNat 64 = n := by omega
  simp only [binOp, Op.shift, IntKind.bits, if_neg h1, h2, Sem.run_pure]
  congr 2
  rw [Int.fdiv_eq_ediv_of_nonneg _ (Int.pow_nonneg (by decide))]
  simp
theorem b_shr_u32 (a n : Nat) (yk : IntKind) (h : n ≤ 32) : (binOp .shr tx (.int .u32 a) (.int yk n)).run P w = .ok (.int .u32 ((a / 2 ^ n : Nat) : Int)) w := by
  have h1 : ¬ ((n : Int) < 0) := by omega
  have h2 : min (n : Int).toNat 32 = n := by omega
  simp only [binOp, Op.shift, IntKind.bits, if_neg h1, h2, Sem.run_pure]
  congr 2
  rw [Int.fdiv_eq_ediv_of_nonneg _ (Int.pow_nonneg (by decide))]
  simp
theorem b_shl_u64 (a n : Nat) (yk : IntKind) (h : n ≤ 64) : (binOp .shl tx (.int .u64 a) (.int yk n)).run P w = .ok (.int .u64 ((a * 2 ^ n % 18446744073709551616 : Nat) : Int)) w := by
  have h1 : ¬ ((n : Int) < 0) := by omega
  have h2 : min (n : Int).toNat 64 = n := by omega
  simp only [binOp, Op.shift, IntKind.bits, if_neg h1, h2, Sem.run_pure]
  congr 2
theorem b_shl_u32 (a n : Nat) (yk : IntKind) (h : n ≤ 32) : (binOp .shl tx (.int .u32 a) (.int yk n)).run P w = .ok (.int .u32 ((a * 2 ^ n % 4294967296 : Nat) : Int)) w := by
  have h1 : ¬ ((n : Int) < 0) := by omega
  have h2 : min (n : Int).toNat 32 = n := by omega
  simp only [binOp, Op.shift, IntKind.bits, if_neg h1, h2, Sem.run_pure]
  congr 2
theorem ofInt_toNat {m a : Nat} (h : a < 2 ^ m) : (BitVec.ofInt m (a : Int)).toNat = a := by
  simp
  exact Nat.mod_eq_of_lt h
theorem b_and_u64 (a b : Nat) (ha : a < 18446744073709551616) (hb : b < 18446744073709551616) : (binOp .and tx (.int .u64 a) (.int .u64 b)).run P w = .ok (.int .u64 ((a &&& b : Nat) : Int)) w := by
  have h3 : a &&& b ≤ a := Nat.and_le_left
  show (Sem.run P (pure (Value.int .u64 (IntKind.u64.wrap (BitVec.ofInt 64 (a : Int) &&& BitVec.ofInt 64 (b : Int)).toNat))) w) = _
  rw [Sem.run_pure, BitVec.toNat_and, ofInt_toNat (by omega), ofInt_toNat (by omega), IntKind.wrap_u64]
  congr 3
  omega
theorem b_or_u64 (a b : Nat) (ha : a < 18446744073709551616) (hb : b < 18446744073709551616) : (binOp .or tx (.int .u64 a) (.int .u64 b)).run P w = .ok (.int .u64 ((a ||| b : Nat) : Int)) w := by
  have h3 : a ||| b < 2 ^ 64 := Nat.or_lt_two_pow (by omega) (by omega)
  show (Sem.run P (pure (Value.int .u64 (IntKind.u64.wrap (BitVec.ofInt 64 (a : Int) ||| BitVec.ofInt 64 (b : Int)).toNat))) w) = _
  rw [Sem.run_pure, BitVec.toNat_or, ofInt_toNat (by omega), ofInt_toNat (by omega), IntKind.wrap_u64]
  congr 3
  omega
theorem b_or_u32 (a b : Nat) (ha : a < 4294967296) (hb : b < 4294967296) : (binOp .or tx (.int .u32 a) (.int .u32 b)).run P w = .ok (.int .u32 ((a ||| b : Nat) : Int)) w := by
  have h3 : a ||| b < 2 ^ 32 := Nat.or_lt_two_pow (by omega) (by omega)
  show (Sem.run P (pure (Value.int .u32 (IntKind.u32.wrap (BitVec.ofInt 32 (a : Int) ||| BitVec.ofInt 32 (b : Int)).toNat))) w) = _
  rw [Sem.run_pure, BitVec.toNat_or, ofInt_toNat (by omega), ofInt_toNat (by omega), IntKind.wrap_u32]
  congr 3
  omega
theorem b_quo_i64 (a b : Nat) (ha : a < 9223372036854775808) (hb : 0 < b) : (binOp .quo tx (.int .i64 a) (.int .i64 b)).run P w = .ok (.int .i64 ((a / b : Nat) : Int)) w := by
  show (Sem.run P (if (b : Int) = 0 then runtimePanic (.error "integer divide by zero") else pure (Value.int .i64 (IntKind.i64.wrap ((a : Int).tdiv b)))) w) = _
  have h2 : a / b ≤ a := Nat.div_le_self a b
  rw [if_neg (by omega), Sem.run_pure, IntKind.wrap_i64, Int.tdiv_eq_ediv_of_nonneg (by omega), ← Int.natCast_ediv]
  generalize a / b = q at h2
  rw [show ((q : Int) + 9223372036854775808) % 18446744073709551616 - 9223372036854775808 = q by omega]
theorem b_rem_i64 (a b : Nat) (hb : 0 < b) : (binOp .rem tx (.int .i64 a) (.int .i64 b)).run P w = .ok (.int .i64 ((a % b : Nat) : Int)) w := by
  show (Sem.run P (if (b : Int) = 0 then runtimePanic (.error "integer divide by zero") else pure (Value.int .i64 ((a : Int).tmod b))) w) = _
  rw [if_neg (by omega), Sem.run_pure, Int.tmod_eq_emod_of_nonneg (by omega), ← Int.natCast_emod]
theorem b_quo_u64 (a b : Nat) (ha : a < 18446744073709551616) (hb : 0 < b) : (binOp .quo tx (.int .u64 a) (.int .u64 b)).run P w = .ok (.int .u64 ((a / b : Nat) : Int)) w := by
  show (Sem.run P (if (b : Int) = 0 then runtimePanic (.error "integer divide by zero") else pure (Value.int .u64 (IntKind.u64.wrap ((a : Int).tdiv b)))) w) = _
  have h2 : a / b ≤ a := Nat.div_le_self a b
  rw [if_neg (by omega), Sem.run_pure, IntKind.wrap_u64, Int.tdiv_eq_ediv_of_nonneg (by omega), ← Int.natCast_ediv]
  generalize a / b = q at h2
  rw [show (q : Int) % 18446744073709551616 = q by omega]
theorem b_rem_u64 (a b : Nat) (hb : 0 < b) : (binOp .rem tx (.int .u64 a) (.int .u64 b)).run P w = .ok (.int .u64 ((a % b : Nat) : Int)) w := by
  show (Sem.run P (if (b : Int) = 0 then runtimePanic (.error "integer divide by zero") else pure (Value.int .u64 ((a : Int).tmod b))) w) = _
  rw [if_neg (by omega), Sem.run_pure, Int.tmod_eq_emod_of_nonneg (by omega), ← Int.natCast_emod]
end
section
variable {P : Program} {F : Fx} {B0 : Bs} {w0 : World} {ops : Array Oper} {o : Oper} {r : Row}
theorem t_shr_u64 {tx ty : TypeId} {x y : Operand} {a b : Nat} {yk : IntKind} (hop : o.op = .binOp .shr tx x y ty := by exact rfl) (hd : o.dst = r.dst := by exact rfl) (hg : o.guard = none := by exact rfl) (hk : known r.use o.op = true := by exact rfl) (hn : r.neu = [] := by exact rfl) (hp : r.puts = [] := by exact rfl) (hv : r.v = .s (.v (.int .u64 ((a / 2 ^ b : Nat) : Int))) := by exact rfl)
    (hA : ∀ γ, envOf γ r.use x = .int .u64 (a : Int) := by (intro γ; kernel_rfl)) (hB : ∀ γ, envOf γ r.use y = .int yk (b : Int) := by (intro γ; exact rfl)) (h : b ≤ 64 := by omega) : Trip P F B0 w0 ops o r :=
  trip_bin .shr tx ty x y _ _ _ hop hd hg hk hn hp hA hB (fun _ _ => rfl) (fun w => b_shr_u64 a b yk h) (fun γ => by rw [hv]; rfl)
theorem t_shr_u32 {tx ty : TypeId} {x y : Operand} {a b : Nat} {yk : IntKind} (hop : o.op = .binOp .shr tx x y ty := by exact rfl) (hd : o.dst = r.dst := by exact rfl) (hg : o.guard = none := by exact rfl) (hk : known r.use o.op = true := by exact rfl) (hn : r.neu = [] := by exact rfl) (hp : r.puts = [] := by exact rfl) (hv : r.v = .s (.v (.int .u32 ((a / 2 ^ b : Nat) : Int))) := by exact rfl)
    (hA : ∀ γ, envOf γ r.use x = .int .u32 (a : Int) := by (intro γ; kernel_rfl)) (hB : ∀ γ, envOf γ r.use y = .int yk (b : Int) := by (intro γ; exact rfl)) (h : b ≤ 32 := by omega) : Trip P F B0 w0 ops o r :=
  trip_bin .shr tx ty x y _ _ _ hop hd hg hk hn hp hA hB (fun _ _ => rfl) (fun w => b_shr_u32 a b yk h) (fun γ => by rw [hv]; rfl)
theorem t_shl_u64 {tx ty : TypeId} {x y : Operand} {a b : Nat} {yk : IntKind} (hop : o.op = .binOp .shl tx x y ty := by exact rfl) (hd : o.dst = r.dst := by exact rfl) (hg : o.guard = none := by exact rfl) (hk : known r.use o.op = true := by exact rfl) (hn : r.neu = [] := by exact rfl) (hp : r.puts = [] := by exact rfl) (hv : r.v = .s (.v (.int .u64 ((a * 2 ^ b % 18446744073709551616 : Nat) : Int))) := by exact rfl)
    (hA : ∀ γ, envOf γ r.use x = .int .u64 (a : Int) := by (intro γ; kernel_rfl)) (hB : ∀ γ, envOf γ r.use y = .int yk (b : Int) := by (intro γ; exact rfl)) (h : b ≤ 64 := by omega) : Trip P F B0 w0 ops o r :=
  trip_bin .shl tx ty x y _ _ _ hop hd hg hk hn hp hA hB (fun _ _ => rfl) (fun w => b_shl_u64 a b yk h) (fun γ => by rw [hv]; rfl)
theorem t_shl_u32 {tx ty : TypeId} {x y : Operand} {a b : Nat} {yk : IntKind} (hop : o.op = .binOp .shl tx x y ty := by exact rfl) (hd : o.dst = r.dst := by exact rfl) (hg : o.guard = none := by exact rfl) (hk : known r.use o.op = true := by exact rfl) (hn : r.neu = [] := by exact rfl) (hp : r.puts = [] := by exact rfl) (hv : r.v = .s (.v (.int .u32 ((a * 2 ^ b % 4294967296 : Nat) : Int))) := by exact rfl)
    (hA : ∀ γ, envOf γ r.use x = .int .u32 (a : Int) := by (intro γ; kernel_rfl)) (hB : ∀ γ, envOf γ r.use y = .int yk (b : Int) := by (intro γ; exact rfl)) (h : b ≤ 32 := by omega) : Trip P F B0 w0 ops o r :=
  trip_bin .shl tx ty x y _ _ _ hop hd hg hk hn hp hA hB (fun _ _ => rfl) (fun w => b_shl_u32 a b yk h) (fun γ => by rw [hv]; rfl)
theorem t_and_u64 {tx ty : TypeId} {x y : Operand} {a b : Nat} (hop : o.op = .binOp .and tx x y ty := by exact rfl) (hd : o.dst = r.dst := by exact rfl) (hg : o.guard = none := by exact rfl) (hk : known r.use o.op = true := by exact rfl) (hn : r.neu = [] := by exact rfl) (hp : r.puts = [] := by exact rfl) (hv : r.v = .s (.v (.int .u64 ((a &&& b : Nat) : Int))) := by exact rfl)
    (hA : ∀ γ, envOf γ r.use x = .int .u64 (a : Int) := by (intro γ; kernel_rfl)) (hB : ∀ γ, envOf γ r.use y = .int .u64 (b : Int) := by (intro γ; kernel_rfl)) (ha : a < 18446744073709551616 := by omega) (hb : b < 18446744073709551616 := by omega) : Trip P F B0 w0 ops o r :=
  trip_bin .and tx ty x y _ _ _ hop hd hg hk hn hp hA hB (fun _ _ => rfl) (fun w => b_and_u64 a b ha hb) (fun γ => by rw [hv]; rfl)
theorem t_or_u64 {tx ty : TypeId} {x y : Operand} {a b : Nat} (hop : o.op = .binOp .or tx x y ty := by exact rfl) (hd : o.dst = r.dst := by exact rfl) (hg : o.guard = none := by exact rfl) (hk : known r.use o.op = true := by exact rfl) (hn : r.neu = [] := by exact rfl) (hp : r.puts = [] := by exact rfl) (hv : r.v = .s (.v (.int .u64 ((a ||| b : Nat) : Int))) := by exact rfl)
    (hA : ∀ γ, envOf γ r.use x = .int .u64 (a : Int) := by (intro γ; kernel_rfl)) (hB : ∀ γ, envOf γ r.use y = .int .u64 (b : Int) := by (intro γ; kernel_rfl)) (ha : a < 18446744073709551616 := by omega) (hb : b < 18446744073709551616 := by omega) : Trip P F B0 w0 ops o r :=
  trip_bin .or tx ty x y _ _ _ hop hd hg hk hn hp hA hB (fun _ _ => rfl) (fun w => b_or_u64 a b ha hb) (fun γ => by rw [hv]; rfl)
theorem t_or_u32 {tx ty : TypeId} {x y : Operand} {a b : Nat} (hop : o.op = .binOp .or tx x y ty := by exact rfl) (hd : o.dst = r.dst := by exact rfl) (hg : o.guard = none := by exact rfl) (hk : known r.use o.op = true := by exact rfl) (hn : r.neu = [] := by exact rfl) (hp : r.puts = [] := by exact rfl) (hv : r.v = .s (.v (.int .u32 ((a ||| b : Nat) : Int))) := by exact rfl)
    (hA : ∀ γ, envOf γ r.use x = .int .u32 (a : Int) := by (intro γ; kernel_rfl)) (hB : ∀ γ, envOf γ r.use y = .int .u32 (b : Int) := by (intro γ; kernel_rfl)) (ha : a < 4294967296 := by omega) (hb : b < 4294967296 := by omega) : Trip P F B0 w0 ops o r :=
  trip_bin .or tx ty x y _ _ _ hop hd hg hk hn hp hA hB (fun _ _ => rfl) (fun w => b_or_u32 a b ha hb) (fun γ => by rw [hv]; rfl)
theorem t_quo_u64 {tx ty : TypeId} {x y : Operand} {a b : Nat} (hop : o.op = .binOp .quo tx x y ty := by exact rfl) (hd : o.dst = r.dst := by exact rfl) (hg : o.guard = none := by exact rfl) (hk : known r.use o.op = true := by exact rfl) (hn : r.neu = [] := by exact rfl) (hp : r.puts = [] := by exact rfl) (hv : r.v = .s (.v (.int .u64 ((a / b : Nat) : Int))) := by exact rfl)
    (hA : ∀ γ, envOf γ r.use x = .int .u64 (a : Int) := by (intro γ; kernel_rfl)) (hB : ∀ γ, envOf γ r.use y = .int .u64 (b : Int) := by (intro γ; kernel_rfl)) (ha : a < 18446744073709551616 := by omega) (hb : 0 < b := by omega) : Trip P F B0 w0 ops o r :=
  trip_bin .quo tx ty x y _ _ _ hop hd hg hk hn hp hA hB (fun _ _ => rfl) (fun w => b_quo_u64 a b ha hb) (fun γ => by rw [hv]; rfl)
theorem t_rem_u64 {tx ty : TypeId} {x y : Operand} {a b : Nat} (hop : o.op = .binOp .rem tx x y ty := by exact rfl) (hd : o.dst = r.dst := by exact rfl) (hg : o.guard = none := by exact rfl) (hk : known r.use o.op = true := by exact rfl) (hn : r.neu = [] := by exact rfl) (hp : r.puts = [] := by exact rfl) (hv : r.v = .s (.v (.int .u64 ((a % b : Nat) : Int))) := by exact rfl)
    (hA : ∀ γ, envOf γ r.use x = .int .u64 (a : Int) := by (intro γ; kernel_rfl)) (hB : ∀ γ, envOf γ r.use y = .int .u64 (b : Int) := by (intro γ; kernel_rfl)) (hb : 0 < b := by omega) : Trip P F B0 w0 ops o r :=
  trip_bin .rem tx ty x y _ _ _ hop hd hg hk hn hp hA hB (fun _ _ => rfl) (fun w => b_rem_u64 a b hb) (fun γ => by rw [hv]; rfl)
theorem t_quo_i64 {tx ty : TypeId} {x y : Operand} {a b : Nat} (hop : o.op = .binOp .quo tx x y ty := by exact rfl) (hd : o.dst = r.dst := by exact rfl) (hg : o.guard = none := by exact rfl) (hk : known r.use o.op = true := by exact rfl) (hn : r.neu = [] := by exact rfl) (hp : r.puts = [] := by exact rfl) (hv : r.v = .s (.v (.int .i64 ((a / b : Nat) : Int))) := by exact rfl)
    (hA : ∀ γ, envOf γ r.use x = .int .i64 (a : Int) := by (intro γ; kernel_rfl)) (hB : ∀ γ, envOf γ r.use y = .int .i64 (b : Int) := by (intro γ; kernel_rfl)) (ha : a < 9223372036854775808 := by omega) (hb : 0 < b := by omega) : Trip P F B0 w0 ops o r :=
  trip_bin .quo tx ty x y _ _ _ hop hd hg hk hn hp hA hB (fun _ _ => rfl) (fun w => b_quo_i64 a b ha hb) (fun γ => by rw [hv]; rfl)
theorem t_rem_i64 {tx ty : TypeId} {x y : Operand} {a b : Nat} (hop : o.op = .binOp .rem tx x y ty := by exact rfl) (hd : o.dst = r.dst := by exact rfl) (hg : o.guard = none := by exact rfl) (hk : known r.use o.op = true := by exact rfl) (hn : r.neu = [] := by exact rfl) (hp : r.puts = [] := by exact rfl) (hv : r.v = .s (.v (.int .i64 ((a % b : Nat) : Int))) := by exact rfl)
    (hA : ∀ γ, envOf γ r.use x = .int .i64 (a : Int) := by (intro γ; kernel_rfl)) (hB : ∀ γ, envOf γ r.use y = .int .i64 (b : Int) := by (intro γ; kernel_rfl)) (hb : 0 < b := by omega) : Trip P F B0 w0 ops o r :=
  trip_bin .rem tx ty x y _ _ _ hop hd hg hk hn hp hA hB (fun _ _ => rfl) (fun w => b_rem_i64 a b hb) (fun γ => by rw [hv]; rfl)
end
def sub64E : Array Value → Sem Value := (Extern.MathBitsCarry.rows.getD 1 ("", fun _ => stuck "")).2
theorem run_sub64E (x y b : Nat) (hb : b ≤ 1) (w : World) : (sub64E #[.int .u64 x, .int .u64 y, .int .u64 b]).run Try.prog w =
    .ok (.tuple #[.int .u64 (((x + 18446744073709551616 - y - b) % 18446744073709551616 : Nat) : Int), .int .u64 ((if x < y + b then 1 else 0 : Nat) : Int)]) w := by
  have : b = 0 ∨ b = 1 := by omega
  rcases this with rfl | rfl <;> rfl
theorem prim_Add64 (x y c : Nat) (hc : c ≤ 1) (w : World) : (callFunc 142 #[.int .u64 x, .int .u64 y, .int .u64 c]).run Try.prog w =
    .ok (.value (.tuple #[.int .u64 (((x + y + c) % 18446744073709551616 : Nat) : Int), .int .u64 (((x + y + c) / 18446744073709551616 : Nat) : Int)])) w := by
  rw [run_callFunc_extern Try.func142 (by kernel_rfl) (by kernel_rfl) (by kernel_rfl) (e := add64Entry) (by kernel_rfl), run_add64 x y c (by omega) (by omega) (by omega) (by omega)]
  simp only [Result.andThen]
  congr 5 <;> omega
theorem prim_Sub64 (x y b : Nat) (hb : b ≤ 1) (w : World) : (callFunc 128 #[.int .u64 x, .int .u64 y, .int .u64 b]).run Try.prog w =
    .ok (.value (.tuple #[.int .u64 (((x + 18446744073709551616 - y - b) % 18446744073709551616 : Nat) : Int), .int .u64 ((if x < y + b then 1 else 0 : Nat) : Int)])) w := by
  rw [run_callFunc_extern Try.func128 (by kernel_rfl) (by kernel_rfl) (by kernel_rfl) (e := sub64E) (by kernel_rfl), run_sub64E x y b hb]
  rfl
section
variable {F : Fx} {B0 : Bs} {w0 : World} {ops : Array Oper} {o : Oper} {r : Row}
theorem t_add64 {x y c : Nat} {cl : Call} (hop : o.op = .call cl := by exact rfl) (hc : cl.callee = .value (.func 142) := by exact rfl) (hd : o.dst = r.dst := by exact rfl) (hg : o.guard = none := by exact rfl) (hk : known r.use o.op = true := by exact rfl) (hn : r.neu = [] := by exact rfl) (hp : r.puts = [] := by exact rfl)
    (hv : r.v = .two (.s (.v (.int .u64 (((x + y + c) % 18446744073709551616 : Nat) : Int)))) (.s (.v (.int .u64 (((x + y + c) / 18446744073709551616 : Nat) : Int)))) := by exact rfl)
    (hA : ∀ γ, cl.args.map (envOf γ r.use) = #[.int .u64 (x : Int), .int .u64 (y : Int), .int .u64 (c : Int)] := by (intro γ; kernel_rfl)) (h : c ≤ 1 := by omega) : Trip Try.prog F B0 w0 ops o r :=
  trip_prim 142 cl (fun _ => _) (fun _ => _) hop hc hd hg hk hn hp hA (fun _ w => prim_Add64 x y c h w) (fun γ => by rw [hv]; rfl)
theorem t_sub64 {x y c : Nat} {cl : Call} (hop : o.op = .call cl := by exact rfl) (hc : cl.callee = .value (.func 128) := by exact rfl) (hd : o.dst = r.dst := by exact rfl) (hg : o.guard = none := by exact rfl) (hk : known r.use o.op = true := by exact rfl) (hn : r.neu = [] := by exact rfl) (hp : r.puts = [] := by exact rfl)
    (hv : r.v = .two (.s (.v (.int .u64 (((x + 18446744073709551616 - y - c) % 18446744073709551616 : Nat) : Int)))) (.s (.v (.int .u64 ((if x < y + c then 1 else 0 : Nat) : Int)))) := by exact rfl)
    (hA : ∀ γ, cl.args.map (envOf γ r.use) = #[.int .u64 (x : Int), .int .u64 (y : Int), .int .u64 (c : Int)] := by (intro γ; kernel_rfl)) (h : c ≤ 1 := by omega) : Trip Try.prog F B0 w0 ops o r :=
  trip_prim 128 cl (fun _ => _) (fun _ => _) hop hc hd hg hk hn hp hA (fun _ w => prim_Sub64 x y c h w) (fun γ => by rw [hv]; rfl)
end
theorem dg_lt (x i : Nat) : dg x i < 18446744073709551616 := Nat.mod_lt _ (by decide)
theorem pw_pos (i : Nat) : 0 < 2 ^ (64 * i) := Nat.pow_pos (by decide)
theorem pw_succ (i : Nat) : 2 ^ (64 * (i + 1)) = 18446744073709551616 * 2 ^ (64 * i) := by
  rw [Nat.mul_succ, Nat.pow_add, Nat.mul_comm]
theorem lo_succ (x i : Nat) : x % 2 ^ (64 * (i + 1)) = dg x i * 2 ^ (64 * i) + x % 2 ^ (64 * i) := by
  rw [Nat.mul_succ, Nat.pow_add, Nat.mod_mul, dg, Nat.add_comm, Nat.mul_comm]
theorem hi_succ (x i : Nat) : x / 2 ^ (64 * i) = x / 2 ^ (64 * (i + 1)) * 18446744073709551616 + dg x i := by
  have h : 2 ^ (64 * (i + 1)) = 2 ^ (64 * i) * 2 ^ 64 := by rw [Nat.mul_succ, Nat.pow_add]
  rw [h, ← Nat.div_div_eq_div_mul, dg]
  have := Nat.div_add_mod (x / 2 ^ (64 * i)) (2 ^ 64)
  omega
def setw (y i d : Nat) : Nat := y / 2 ^ (64 * (i + 1)) * 2 ^ (64 * (i + 1)) + d * 2 ^ (64 * i) + y % 2 ^ (64 * i)
def mixw (s x i : Nat) : Nat := x / 2 ^ (64 * i) * 2 ^ (64 * i) + s % 2 ^ (64 * i)
theorem pw_le {i j : Nat} (h : i ≤ j) : ∃ c, 2 ^ (64 * j) = 2 ^ (64 * i) * c ∧ (i < j → ∃ e, c = 18446744073709551616 * e) := by
  obtain ⟨k, rfl⟩ := Nat.exists_eq_add_of_le h
  refine ⟨2 ^ (64 * k), by rw [Nat.mul_add, Nat.pow_add], fun hlt => ?_⟩
  obtain ⟨l, rfl⟩ : ∃ l, k = l + 1 := ⟨k - 1, by omega⟩
  exact ⟨_, pw_succ l⟩
theorem dg_mixw (s x i j : Nat) : dg (mixw s x i) j = if j < i then dg s j else dg x j := by
  unfold dg mixw
  split
  · next h =>
    obtain ⟨c, hc, he⟩ := pw_le (Nat.le_of_lt h)
    obtain ⟨e, rfl⟩ := he h
    have key : ∀ q M N c : Nat, M = N * c → q * M = N * (q * c) := fun q M N c h => by rw [h, Nat.mul_left_comm]
    have this : x / 2 ^ (64 * i) * 2 ^ (64 * i) + s % 2 ^ (64 * i) = 2 ^ (64 * j) * (x / 2 ^ (64 * i) * (18446744073709551616 * e)) + s % 2 ^ (64 * i) := congrArg (· + s % 2 ^ (64 * i)) (key (x / 2 ^ (64 * i)) _ _ _ hc)
    rw [this, Nat.mul_add_div (pw_pos j)]
    have h2 : s % 2 ^ (64 * i) / 2 ^ (64 * j) = s / 2 ^ (64 * j) % (18446744073709551616 * e) := by
      rw [hc, Nat.mod_mul_right_div_self]
    rw [h2, show x / 2 ^ (64 * i) * (18446744073709551616 * e) = 2 ^ 64 * (x / 2 ^ (64 * i) * e) by rw [Nat.mul_left_comm], Nat.mul_add_mod]
    exact Nat.mod_mul_right_mod _ _ _
  · next h =>
    obtain ⟨k, rfl⟩ := Nat.exists_eq_add_of_le (Nat.le_of_not_lt h)
    congr 1
    rw [Nat.mul_add, Nat.pow_add, ← Nat.div_div_eq_div_mul, ← Nat.div_div_eq_div_mul]
    congr 1
    rw [Nat.mul_comm, Nat.mul_add_div (pw_pos i), Nat.div_eq_of_lt (Nat.mod_lt _ (pw_pos i)), Nat.add_zero]
theorem setw_eq (y i d : Nat) (hd : d < 18446744073709551616) : setw y i d = mixw (mixw y (d * 2 ^ (64 * i)) i) y (i + 1) := by
  unfold setw mixw
  rw [Nat.add_assoc]
  congr 1
  rw [Nat.mul_div_cancel _ (pw_pos i), Nat.mod_eq_of_lt (a := d * 2 ^ (64 * i) + y % 2 ^ (64 * i))]
  rw [pw_succ]
  have h1 := Nat.mod_lt y (pw_pos i)
  have h2 : d * 2 ^ (64 * i) + 2 ^ (64 * i) ≤ 18446744073709551616 * 2 ^ (64 * i) := by
    rw [← Nat.succ_mul]; exact Nat.mul_le_mul_right _ hd
  generalize d * 2 ^ (64 * i) = e at *
  generalize 18446744073709551616 * 2 ^ (64 * i) = f at *
  generalize 2 ^ (64 * i) = g at *
  omega
theorem dg_setw (y i d j : Nat) (hd : d < 18446744073709551616) : dg (setw y i d) j = if j = i then d else dg y j := by
  rw [setw_eq y i d hd, dg_mixw, dg_mixw]
  by_cases h1 : j = i
  · subst h1
    simp [dg, Nat.mul_div_cancel _ (pw_pos j), Nat.mod_eq_of_lt hd]
  · by_cases h2 : j < i
    · simp [h1, h2, Nat.lt_succ_of_lt h2]
    · have : ¬ j < i + 1 := by omega
      simp [h1, this]
theorem U9_congr {x y : Nat} (h : ∀ j, j < 9 → dg x j = dg y j) : U9 x = U9 y := by
  simp only [U9, h 0 (by decide), h 1 (by decide), h 2 (by decide), h 3 (by decide), h 4 (by decide), h 5 (by decide), h 6 (by decide), h 7 (by decide), h 8 (by decide)]
theorem U9_get {y i : Nat} (h : i < 9) : (U9 y)[i]? = some (inN .u64 (dg y i)) := by
  match i, h with
  | 0, _ | 1, _ | 2, _ | 3, _ | 4, _ | 5, _ | 6, _ | 7, _ | 8, _ => rfl
theorem U9_get' {y i : Nat} {B : List Sc} (h : i < 9) : (U9 y ++ B)[i]? = some (inN .u64 (dg y i)) := by
  rw [List.getElem?_append_left (by simpa [U9] using h)]; exact U9_get h
theorem U9_set {y i d : Nat} (h : i < 9) (hd : d < 18446744073709551616) : (U9 y).take i ++ [inN .u64 d] ++ (U9 y).drop (i + [inN .u64 d].length) = U9 (setw y i d) := by
  have e : ∀ j, dg (setw y i d) j = if j = i then d else dg y j := fun j => dg_setw y i d j hd
  simp only [U9, e]
  generalize dg y = f
  have h9 : i = 0 ∨ i = 1 ∨ i = 2 ∨ i = 3 ∨ i = 4 ∨ i = 5 ∨ i = 6 ∨ i = 7 ∨ i = 8 := by omega
  rcases h9 with rfl | rfl | rfl | rfl | rfl | rfl | rfl | rfl | rfl <;> simp
theorem U9_set' {y i d : Nat} {B : List Sc} (h : i < 9) (hd : d < 18446744073709551616) : (U9 y ++ B).take i ++ [inN .u64 d] ++ (U9 y ++ B).drop (i + [inN .u64 d].length) = U9 (setw y i d) ++ B := by
  rw [← U9_set h hd]
  rw [List.take_append_of_le_length (by simp [U9]; omega), List.drop_append_of_le_length (by simp [U9]; omega)]
  simp only [List.append_assoc]
theorem setw_mixw {s x i d : Nat} (hd : d = dg s i) : U9 (setw (mixw s x i) i d) = U9 (mixw s x (i + 1)) := by
  refine U9_congr (fun j _ => ?_)
  rw [dg_setw _ _ _ _ (hd ▸ dg_lt s i), dg_mixw, dg_mixw]
  by_cases h1 : j = i
  · subst h1; simp [hd]
  · by_cases h2 : j < i
    · simp [h1, h2, Nat.lt_succ_of_lt h2]
    · have : ¬ j < i + 1 := by omega
      simp [h1, h2, this]
theorem U9_mix0 (s x : Nat) : U9 x = U9 (mixw s x 0) := U9_congr (fun j _ => by rw [dg_mixw]; simp)
theorem U9_mix9 (s x : Nat) : U9 (mixw s x 9) = U9 s := U9_congr (fun j h => by rw [dg_mixw, if_pos h])
set_option exponentiation.threshold 2000
theorem eq_of_dg {x y : Nat} (hx : x < 2 ^ 576) (hy : y < 2 ^ 576) (h : ∀ j, j < 9 → dg x j = dg y j) : x = y := by
  have : ∀ n, n ≤ 9 → x % 2 ^ (64 * n) = y % 2 ^ (64 * n) := by
    intro n
    induction n with
    | zero => intro _; simp [Nat.mod_one]
    | succ n ih => intro hn; rw [lo_succ, lo_succ, ih (by omega), h n (by omega)]
  have := this 9 (Nat.le_refl _)
  rwa [Nat.mod_eq_of_lt hx, Nat.mod_eq_of_lt hy] at this
end Go.Proofs.Ytddfimfgcfgpbaa
