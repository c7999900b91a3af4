/-
  A block of one's own that a shift trims; two numbers without digits.
-/
import Derived.Test.YtddfimfgcfgpbaaSRv
namespace Go.Proofs.Ytddfimfgcfgpbaa
open Sx
open Go.RowKit (Below)
set_option exponentiation.threshold 2000
section
variable {F : Fx} {B0 : Bs} {w0 : World} {ops : Array Oper} {o : Oper} {r : Row}
theorem tshr0 {k n m y T d : Nat} (hn1 : n ≤ 1000 := by omega) (hnm : n ≤ m := by omega) (hlt : y < 2 ^ (32 * n)) (hkey : r.keys = [(k, (.pl (Vn n y), T))] := by exact rfl) (hp : r.puts = [(k, (.gone, 0))] := by exact rfl) (hn : r.neu = [(d, (.abs (numA y), 0))] := by exact rfl) (hv : r.v = .s (.fn d nfN) := by exact rfl) (hd : o.dst = r.dst := by exact rfl) (hg : o.guard = none := by exact rfl) (hk : known r.use o.op = true := by exact rfl)
    (hrun : ∀ γ w, (execOp (envOf γ r.use) o).run Try.prog w = .ok (.enter 99 #[.slice (some ⟨γ k, 0, none⟩) n m, .int .i64 ((0 : Nat) : Int)]) w := by (intro γ w; kernel_rfl)) : Trip Try.prog F B0 w0 ops o r :=
  trip_call 99 (fun γ => #[.slice (some ⟨γ k, 0, none⟩) n m, .int .i64 ((0 : Nat) : Int)]) hd hg hk hrun (fun γ w _ _ hks => by
    have hh := Ct.pl_at (hks (k, (.pl (Vn n y), T)) (by rw [hkey]; exact .head _))
    have hh2 : w.heap[γ k]? = some (.cells (Vn n y).toArray T (0, 0)) := by
      refine hh.trans ?_
      simp only [Ct.obj, Cn.cs, List.map_map, Function.comp_def, Sc.den, List.map_id']
    have hraw : Raw w (enc (some (γ k)) n m) n y := raw_of hh2 (Nat.le_refl _) hnm
    have hc := r1_Shr (k := enc (some (γ k)) n m) (r := 0) hn1 hlt (by decide) w hraw
    rw [dec_enc] at hc
    refine hc.mono ?_
    rintro e w' ⟨f, he, hz, hb⟩
    obtain ⟨hnum, hown⟩ := hz 0 (y / 2 ^ 0) rfl
    rw [Nat.pow_zero, Nat.div_one] at hnum
    obtain ⟨b1, b2, b3, b4, b5⟩ := hb
    have hlk : ∀ j c', lk r.neu j = some c' → j = d ∧ c' = (.abs (numA y), 0) := fun j c' h => by
      rw [hn] at h
      simp only [lk] at h
      cases hb : Nat.beq d j with
      | true => rw [hb] at h; simp at h; exact ⟨(Nat.eq_of_beq_eq_true hb).symm, h.symm⟩
      | false => rw [hb] at h; simp at h
    have hpk : lk r.puts k = some (.gone, 0) := by rw [hp]; simp [lk]
    refine ⟨nm γ d (f 0), ⟨b1, b2, b3, b4, fun j hj => ?_, fun j c hj => ?_, fun j j' c c' hj _ hmu => ?_, fun j c hj => ?_, fun j hj _ => b5 j hj⟩, ?_⟩
    · refine nm_ne (fun e => ?_)
      subst e
      rw [hn] at hj
      simp [lk] at hj
    · obtain ⟨rfl, rfl⟩ := hlk j c hj
      rw [nm_self]
      refine ⟨hnum, fun g hg => ?_⟩
      rcases hown g hg with h | ⟨n', hn', h⟩
      · exact .inl h
      · refine .inr ⟨_, by rw [hkey]; exact .head _, ?_, .inl ⟨rfl, hpk⟩⟩
        rw [List.mem_singleton.1 hn'] at h
        exact Nb_enc h
    · obtain ⟨rfl, rfl⟩ := hlk j c hj
      cases hmu
    · rw [hp] at hj
      have : c = (.gone, 0) := by
        simp only [lk] at hj
        cases hb : Nat.beq k j with
        | true => rw [hb] at hj; simp at hj; exact hj.symm
        | false => rw [hb] at hj; simp at hj
      subst this
      exact ⟨trivial, fun g hg => hg.elim⟩
    · rw [he, hv]
      simp only [SV.den, Sc.den, nm_self, nfN])
theorem tnil2 {d1 d2 t : Nat} {b : Bool} (hn : r.neu = [(d1, (.abs (numA 0), 0)), (d2, (.abs (numA 0), 0))] := by exact rfl) (hv : r.v = .agg [.fn d1 nfN, .fn d2 nfN, .v (.bool b)] := by exact rfl) (hne : Nat.beq d1 d2 = false := by exact rfl) (hd : o.dst = r.dst := by exact rfl) (hg : o.guard = none := by exact rfl) (hk : known r.use o.op = true := by exact rfl) (hp : r.puts = [] := by exact rfl)
    (hrun : ∀ γ w, (execOp (envOf γ r.use) o).run Try.prog w = .ok (.value (.agg #[.slice none 0 0, .slice none 0 0, .bool b])) w := by (intro γ w; kernel_rfl)) (_ht : r.dst = some t := by exact rfl) : Trip Try.prog F B0 w0 ops o r := by
  have hne2 : d2 ≠ d1 := fun e => by rw [e, Nat.beq_refl] at hne; cases hne
  refine ⟨hd, fun γ a w Q K hkeep hfix hu hks _hap hK => stepGoal_wp hg ?_⟩
  unfold Oper.wp
  rw [Sx.execOp_congr (fun x hx => use_get hu hx) hk, hrun γ w]
  have hlk : ∀ j c', lk r.neu j = some c' → (j = d1 ∨ j = d2) ∧ c' = (.abs (numA 0), 0) := fun j c' h => by
    rw [hn] at h
    simp only [lk] at h
    cases hb : Nat.beq d1 j with
    | true => rw [hb] at h; simp at h; exact ⟨.inl (Nat.eq_of_beq_eq_true hb).symm, h.symm⟩
    | false =>
      rw [hb] at h
      simp only [cond_false] at h
      cases hb2 : Nat.beq d2 j with
      | true => rw [hb2] at h; simp at h; exact ⟨.inr (Nat.eq_of_beq_eq_true hb2).symm, h.symm⟩
      | false => rw [hb2] at h; simp at h
  have h2 := hK (nm (nm γ d1 (enc none 0 0)) d2 (enc none 0 0)) w ⟨rfl, rfl, rfl, Nat.le_refl _, fun j hj => ?_, fun j c hj => ?_, fun j j' c c' hj _ hmu => ?_, fun j c hj => ?_, fun j hj _ => rfl⟩
  · rw [hv] at h2
    have e1 : nm (nm γ d1 (enc none 0 0)) d2 (enc none 0 0) d1 = enc none 0 0 := by rw [nm_ne (fun e => hne2 e.symm), nm_self]
    simp only [SV.den, Sc.den, nm_self, nfN, dec_enc, e1, List.map_cons, List.map_nil] at h2
    show K (a.put o.dst _) _
    rw [hd]
    exact h2
  · have h1 : j ≠ d1 := fun e => by subst e; rw [hn] at hj; simp [lk] at hj
    have h3 : j ≠ d2 := fun e => by
      subst e; rw [hn] at hj
      simp [lk] at hj
    rw [nm_ne h3, nm_ne h1]
  · obtain ⟨hj', rfl⟩ := hlk j c hj
    have e : nm (nm γ d1 (enc none 0 0)) d2 (enc none 0 0) j = enc none 0 0 := by
      rcases hj' with rfl | rfl
      · rw [nm_ne (fun e => hne2 e.symm), nm_self]
      · rw [nm_self]
    rw [e]
    exact ⟨num_nil, fun g hg => (Nb_nil hg).elim⟩
  · obtain ⟨_, rfl⟩ := hlk j c hj
    cases hmu
  · rw [hp] at hj; cases hj
end
end Go.Proofs.Ytddfimfgcfgpbaa
