/- Regions: every order that the model may take comes to what the small language reckons. -/
import Derived.Test.YtimijcjjmeemeaaSoundF
import Derived.Orders
set_option linter.unusedVariables false
set_option linter.unusedSimpArgs false
namespace Fb
open Go

def slotsOf (ops : Array Oper) (j : Nat) : Option Nat := (ops[j]?).bind (·.dst)
/-- What the checker knows of a statement. -/
structure StmOk (P : Program) (inv : FuncId → Option Nat) (isPure : Nat → Bool) (h : Hint) (nt : Nat) (ops : Array Oper) (am : List (Nat × Nat)) (o : Oper) (s : Stm) : Prop where
  g : guardOf h ⟨am, looksAt (slotsOf ops) o⟩ (slotsOf ops) o.guard = some s.g
  d : s.d = dstOf o s.o
  c : comp1 P inv isPure h ⟨am, looksAt (slotsOf ops) o⟩ o = some s.o ∨ s.o = .bad
  lt : ∀ d, o.dst = some d → d < nt
  ok : dstOk h ⟨am, looksAt (slotsOf ops) o⟩ o s.o = true
/-- What the checker knows of a region. dep p q: q comes behind p in every order. -/
structure Rg (P : Program) (inv : FuncId → Option Nat) (isPure : Nat → Bool) (h : Hint) (nt : Nat) (ops : Array Oper) (am : List (Nat × Nat)) (xs : List (Nat × Stm)) (dep : Nat → Nat → Prop) : Prop where
  stm : ∀ p i s, xs[p]? = some (i, s) → ∃ o, ops[i]? = some o ∧ StmOk P inv isPure h nt ops am o s ∧
    ∀ t ∈ looksAt (slotsOf ops) o, t ∈ s.rds ∧ (h.vars.contains t = true ∨ h.keep.contains t = true ∨ (amFind am t).isSome = true ∨ ∃ (q j : Nat) (b : Stm), q < p ∧ xs[q]? = some (j, b) ∧ b.d = some t)
  slot : ∀ (p q i : Nat) (a : Stm) (j : Nat) (b : Stm), p < q → xs[p]? = some (i, a) → xs[q]? = some (j, b) → dep p q ∨ slotClash a b = false
  acts : ∀ (p q i : Nat) (a : Stm) (j : Nat) (b : Stm), p < q → xs[p]? = some (i, a) → xs[q]? = some (j, b) → a.o.meets = .acts → b.o.meets ≠ .no → dep p q
  reads : ∀ (p q i : Nat) (a : Stm) (j : Nat) (b : Stm), p < q → xs[p]? = some (i, a) → xs[q]? = some (j, b) → a.o.meets = .reads → b.o.meets = .acts →
    dep p q ∨ b.o.quiet = true ∨ (∃ n y, a.o.from = some (.t n) ∧ y ∈ b.fl ∧ y = .t n)
  frm : (∀ p q, p < q → dep p q) ∨ ∀ (p q i : Nat) (a : Stm) (j : Nat) (b : Stm), p < q → xs[p]? = some (i, a) → xs[q]? = some (j, b) → ∀ x : Opd, a.o.from = some x → ∀ d, a.d = some d ∨ b.d = some d → d ∉ x.rs
  rem : ∀ (p q i : Nat) (a : Stm) (j : Nat) (b : Stm), p < q → xs[p]? = some (i, a) → xs[q]? = some (j, b) → remade h a b = false
  amok : ∀ s p, amFind am s = some p → h.vars.contains s = false ∧ h.keep.contains s = false ∧ h.vars.contains p = true

section
variable (xs : List (Nat × Stm))
def Wr (p s : Nat) : Prop := ∃ i b, xs[p]? = some (i, b) ∧ b.d = some s
def IsAct (p : Nat) : Prop := ∃ i b, xs[p]? = some (i, b) ∧ b.o.meets = .acts
def Added (E : Nat → Env) (p : Nat) : Prop := ∃ i b, xs[p]? = some (i, b) ∧ b.o.meets = .adds ∧ wanted (E p) b.g = true
end
/-- How far the model has come: the statements of D are done. -/
structure Sim (h : Hint) (nt : Nat) (am : List (Nat × Nat)) (xs : List (Nat × Stm)) (dep : Nat → Nat → Prop) (E : Nat → Env) (Hs : Nat → Heap) (n0 B0 : Nat) (C0 : Cx) (w0 : World) (D : Nat → Prop) (C : Cx) (a : Act) (w : World) : Prop where
  closed : ∀ p q, p < q → q < xs.length → dep p q → D q → D p
  heap : ∃ j, j ≤ xs.length ∧ (∀ p, p < j → IsAct xs p → D p) ∧ (j < xs.length → IsAct xs j ∧ ¬ D j) ∧ C.H = Hs j ∧
    ∀ p, p < j → Added xs E p → ¬ D p → C.σ (Hs p).length = none ∧ C.H[(Hs p).length]? = (Hs (p + 1))[(Hs p).length]?
  env : ∃ eD, St h am B0 nt (fun s => h.keep.contains s = true ∨ ∃ p, D p ∧ Wr xs p s) C eD a w ∧
    ∀ s, ∃ r, r ≤ xs.length ∧ (∀ p, p < r → Wr xs p s → D p) ∧ (r < xs.length → Wr xs r s ∧ ¬ D r) ∧ eD s = E r s
  wr : WR C w
  ext : Ext n0 B0 C0 w0 C w
  rho : C.ρ = C0.ρ

section
variable {P : Program} {inv : FuncId → Option Nat} {isPure : Nat → Bool} {h : Hint} {nt : Nat} {ops : Array Oper} {am : List (Nat × Nat)} {xs : List (Nat × Stm)} {dep : Nat → Nat → Prop}
variable {cl : Cl} {n0 B0 : Nat} {wb : Bool} {E : Nat → Env} {Hs : Nat → Heap} {C0 : Cx} {w0 : World}
/-- The trace. -/
def Trace (cl : Cl) (n0 : Nat) (wb : Bool) (xs : List (Nat × Stm)) (E : Nat → Env) (Hs : Nat → Heap) : Prop := ∀ p i s, xs[p]? = some (i, s) → Tick cl n0 wb s (E p) (Hs p) (E (p + 1)) (Hs (p + 1))
theorem slot_keep (hT : Trace cl n0 wb xs E Hs) {s : Nat} : ∀ {r p : Nat}, p ≤ r → r ≤ xs.length → (∀ q, p ≤ q → q < r → ¬ Wr xs q s) → E r s = E p s
  | 0, p, h1, _, _ => by
    obtain rfl : p = 0 := by omega
    rfl
  | r + 1, p, h1, h2, h3 => by
    rcases Nat.lt_or_ge r p with h4 | h4
    · obtain rfl : p = r + 1 := by omega
      rfl
    · have h5 := slot_keep hT h4 (by omega) fun q h6 h7 => h3 q h6 (by omega)
      rw [← h5]
      obtain ⟨⟨i, b⟩, hb⟩ : ∃ x, xs[r]? = some x := ⟨_, List.getElem?_eq_getElem (show r < xs.length by omega)⟩
      have hd : b.d ≠ some s := fun e => h3 r h4 (by omega) ⟨i, b, hb, e⟩
      rcases hT r i b hb with ⟨_, _, v, _, he⟩ | ⟨_, _, he⟩
      · rw [he, put_other hd]
      · rw [he, skip_other hd]
theorem first_of (Q : Nat → Prop) (m : Nat) : ∀ (n p : Nat), m - p = n → p ≤ m → ∃ r, p ≤ r ∧ r ≤ m ∧ (∀ q, p ≤ q → q < r → ¬ Q q) ∧ (r < m → Q r)
  | 0, p, h1, h2 => ⟨m, h2, Nat.le_refl _, fun q h3 h4 => by omega, fun h => by omega⟩
  | n + 1, p, h1, h2 => by
    by_cases hq : Q p
    · exact ⟨p, Nat.le_refl _, h2, fun q h3 h4 => by omega, fun _ => hq⟩
    · obtain ⟨r, h3, h4, h5, h6⟩ := first_of Q m n (p + 1) (by omega) (by omega)
      refine ⟨r, by omega, h4, fun q h7 h8 => ?_, h6⟩
      rcases Nat.eq_or_lt_of_le h7 with h9 | h9
      · subst h9; exact hq
      · exact h5 q h9 h8
theorem clash_rd {a b : Stm} {s : Nat} (ha : a.d = some s) (hb : s ∈ b.rds) : slotClash a b = true := by
  simp [slotClash, ha, hb]
theorem clash_wr {a b : Stm} {s : Nat} (ha : a.d = some s) (hb : b.d = some s) : slotClash a b = true := by
  simp [slotClash, ha, hb]
theorem clash_rw {a b : Stm} {s : Nat} (ha : s ∈ a.rds) (hb : b.d = some s) : slotClash a b = true := by
  simp [slotClash, ha, hb]
/-- What an operation reads is what the trace has there. -/
theorem reads_now (hR : Rg P inv isPure h nt ops am xs dep) (hT : Trace cl n0 wb xs E Hs) {D : Nat → Prop} (hclosed : ∀ p q, p < q → q < xs.length → dep p q → D q → D p) {p i : Nat} {st : Stm} (hp : xs[p]? = some (i, st)) (hnd : ¬ D p)
    (hdep : ∀ q, q < p → dep q p → D q) {eD : Env} (hE : ∀ s, ∃ r, r ≤ xs.length ∧ (∀ p, p < r → Wr xs p s → D p) ∧ (r < xs.length → Wr xs r s ∧ ¬ D r) ∧ eD s = E r s) {s : Nat} (hs : s ∈ st.rds) : eD s = E p s := by
  obtain ⟨r, h1, h2, h3, h4⟩ := hE s
  have hpl : p < xs.length := (List.getElem?_eq_some_iff.1 hp).1
  rw [h4]
  rcases Nat.lt_or_ge r p with hrp | hrp
  · obtain ⟨⟨j, b, hb, hd⟩, h6⟩ := h3 (by omega)
    rcases hR.slot r p j b i st hrp hb hp with h7 | h7
    · exact absurd (hdep r hrp h7) h6
    · rw [clash_rd hd hs] at h7; cases h7
  · refine slot_keep hT hrp h1 fun q h5 h6 hw => ?_
    have hq := h2 q h6 hw
    rcases Nat.eq_or_lt_of_le h5 with h7 | h7
    · subst h7; exact hnd hq
    · obtain ⟨j, b, hb, hd⟩ := hw
      rcases hR.slot p q i st j b h7 hp hb with h8 | h8
      · exact hnd (hclosed p q h7 (by omega) h8 hq)
      · rw [clash_rw hs hd] at h8; cases h8
/-- The slots, one statement later. -/
theorem env_next (hR : Rg P inv isPure h nt ops am xs dep) (hT : Trace cl n0 wb xs E Hs) {D : Nat → Prop} (hclosed : ∀ p q, p < q → q < xs.length → dep p q → D q → D p) {p i : Nat} {st : Stm} (hp : xs[p]? = some (i, st)) (hnd : ¬ D p)
    (hdep : ∀ q, q < p → dep q p → D q) {eD eD' : Env} (hE : ∀ s, ∃ r, r ≤ xs.length ∧ (∀ p, p < r → Wr xs p s → D p) ∧ (r < xs.length → Wr xs r s ∧ ¬ D r) ∧ eD s = E r s)
    (h1 : ∀ s, st.d ≠ some s → eD' s = eD s) (h2 : ∀ d, st.d = some d → eD' d = E (p + 1) d) :
    ∀ s, ∃ r, r ≤ xs.length ∧ (∀ q, q < r → Wr xs q s → (D q ∨ q = p)) ∧ (r < xs.length → Wr xs r s ∧ ¬ (D r ∨ r = p)) ∧ eD' s = E r s := by
  intro s
  have hpl : p < xs.length := (List.getElem?_eq_some_iff.1 hp).1
  by_cases hd : st.d = some s
  · obtain ⟨r, g1, g2, g3, g4⟩ := first_of (fun q => Wr xs q s) xs.length _ (p + 1) rfl (by omega)
    refine ⟨r, g2, fun q hq hw => ?_, fun hr => ⟨g4 hr, ?_⟩, ?_⟩
    · rcases Nat.lt_trichotomy q p with h5 | h5 | h5
      · obtain ⟨j, b, hb, hbd⟩ := hw
        rcases hR.slot q p j b i st h5 hb hp with h8 | h8
        · exact .inl (hdep q h5 h8)
        · rw [clash_wr hbd hd] at h8; cases h8
      · exact .inr h5
      · exact absurd hw (g3 q h5 hq)
    · rintro (h5 | h5)
      · obtain ⟨j, b, hb, hbd⟩ := g4 hr
        rcases hR.slot p r i st j b (by omega) hp hb with h8 | h8
        · exact hnd (hclosed p r (by omega) hr h8 h5)
        · rw [clash_wr hd hbd] at h8; cases h8
      · omega
    · rw [h2 s hd, slot_keep hT g1 g2 g3]
  · obtain ⟨r, g1, g2, g3, g4⟩ := hE s
    refine ⟨r, g1, fun q hq hw => .inl (g2 q hq hw), fun hr => ⟨(g3 hr).1, ?_⟩, by rw [h1 s hd, g4]⟩
    rintro (h5 | h5)
    · exact (g3 hr).2 h5
    · subst h5
      obtain ⟨j, b, hb, hbd⟩ := (g3 hr).1
      rw [hp] at hb
      cases hb
      exact hd hbd
end
end Fb
