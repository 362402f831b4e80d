/- Runs told by what they come to. -/
import Derived.Test.YtimijcjjmeemeaaLib
set_option linter.unusedVariables false
set_option linter.unusedSimpArgs false
namespace Fb
open Go

/-- A run that ends, and what holds at its end. -/
def WP (T : Tab) (n0 : Nat) (wb : Bool) (c : Cd) (e : Env) (H : Heap) (Q : Ex → Env → Heap → Prop) : Prop :=
  ∃ x e' H', Run T n0 wb c e H = some (x, e', H') ∧ Q x e' H'
/-- What goes on behind a piece that ends as it should. -/
def andThen (K : Env → Heap → Prop) (Q : Ex → Env → Heap → Prop) : Ex → Env → Heap → Prop
  | .normal, e, H => K e H
  | x, e, H => Q x e H
def inBlk (id : Nat) (Q : Ex → Env → Heap → Prop) : Ex → Env → Heap → Prop
  | .exit i, e, H => if i = id then Q .normal e H else Q (.exit i) e H
  | x, e, H => Q x e H
section
variable {T : Tab} {n0 : Nat} {wb : Bool} {e : Env} {H : Heap} {Q : Ex → Env → Heap → Prop} {K : Env → Heap → Prop}
@[simp] theorem andThen_normal : andThen K Q .normal e H = K e H := rfl
@[simp] theorem andThen_ret : andThen K Q .ret e H = Q .ret e H := rfl
@[simp] theorem andThen_exit {i : Nat} : andThen K Q (.exit i) e H = Q (.exit i) e H := rfl
@[simp] theorem inBlk_normal {id : Nat} : inBlk id Q .normal e H = Q .normal e H := rfl
@[simp] theorem inBlk_ret {id : Nat} : inBlk id Q .ret e H = Q .ret e H := rfl
@[simp] theorem inBlk_exit {id i : Nat} : inBlk id Q (.exit i) e H = if i = id then Q .normal e H else Q (.exit i) e H := rfl
theorem WP.mono {c : Cd} {Q' : Ex → Env → Heap → Prop} (h : WP T n0 wb c e H Q) (hq : ∀ x e' H', Q x e' H' → Q' x e' H') : WP T n0 wb c e H Q' :=
  let ⟨x, e', H', hr, q⟩ := h; ⟨x, e', H', hr, hq _ _ _ q⟩
theorem WP_of {c : Cd} {x : Ex} {e' : Env} {H' : Heap} (h : Run T n0 wb c e H = some (x, e', H')) : WP T n0 wb c e H Q ↔ Q x e' H' :=
  ⟨fun ⟨_, _, _, hr, q⟩ => by rw [h] at hr; cases hr; exact q, fun q => ⟨_, _, _, h, q⟩⟩
theorem WP_none {c : Cd} (h : Run T n0 wb c e H = none) : WP T n0 wb c e H Q ↔ False :=
  ⟨fun ⟨_, _, _, hr, _⟩ => (by rw [h] at hr; cases hr), False.elim⟩
@[simp] theorem WP_skip : WP T n0 wb .skip e H Q ↔ Q .normal e H := WP_of Run_skip
@[simp] theorem WP_ret : WP T n0 wb .ret e H Q ↔ Q .ret e H := WP_of Run_ret
@[simp] theorem WP_exit {i : Nat} : WP T n0 wb (.exit i) e H Q ↔ Q (.exit i) e H := WP_of Run_exit
/-- Operations, and what goes on behind them. -/
def OPS (T : Tab) (n0 : Nat) (wb : Bool) (ss : List Stm) (e : Env) (H : Heap) (K : Env → Heap → Prop) : Prop :=
  ∃ e' H', ops (Call T) n0 wb ss e H = some (e', H') ∧ K e' H'
@[simp] theorem WP_reg {outs : List Nat} {ss : List Stm} : WP T n0 wb (.reg outs ss) e H Q ↔ OPS T n0 wb ss e H fun e1 H' => Q .normal (mask e e1 outs) H' := by
  cases h : ops (Call T) n0 wb ss e H with
  | none => rw [WP_none (by rw [Run_reg, h])]; exact ⟨False.elim, fun ⟨_, _, hr, _⟩ => by rw [h] at hr; cases hr⟩
  | some r =>
    rw [WP_of (by rw [Run_reg, h])]
    exact ⟨fun q => ⟨_, _, h, q⟩, fun ⟨_, _, hr, q⟩ => by rw [h] at hr; cases hr; exact q⟩
@[simp] theorem WP_seq {a b : Cd} : WP T n0 wb (.seq a b) e H Q ↔ WP T n0 wb a e H (andThen (fun e' H' => WP T n0 wb b e' H' Q) Q) := by
  cases h : Run T n0 wb a e H with
  | none => rw [WP_none h, WP_none (by rw [Run_seq, h])]
  | some r =>
    obtain ⟨x, e', H'⟩ := r
    rw [WP_of h]
    cases x with
    | normal => unfold WP; rw [Run_seq, h]; rfl
    | exit i => rw [WP_of (by rw [Run_seq, h])]; rfl
    | ret => rw [WP_of (by rw [Run_seq, h])]; rfl
@[simp] theorem WP_cond {c : Opd} {a b : Cd} : WP T n0 wb (.cond c a b) e H Q ↔ match c.ev e with
    | .bool true => WP T n0 wb a e H Q
    | .bool false => WP T n0 wb b e H Q
    | _ => False := by
  unfold WP
  rw [Run_cond]
  split
  · rename_i hc; rw [hc]
  · rename_i hc; rw [hc]
  · rename_i h1 h2
    split
    · rename_i hc; exact absurd hc h1
    · rename_i hc; exact absurd hc h2
    · simp
@[simp] theorem WP_block {id : Nat} {b : Cd} : WP T n0 wb (.block id b) e H Q ↔ WP T n0 wb b e H (inBlk id Q) := by
  cases h : Run T n0 wb b e H with
  | none => rw [WP_none h, WP_none (by rw [Run_block, h])]
  | some r =>
    obtain ⟨x, e', H'⟩ := r
    rw [WP_of h]
    cases x with
    | normal => rw [WP_of (by rw [Run_block, h])]; rfl
    | ret => rw [WP_of (by rw [Run_block, h])]; rfl
    | exit i =>
      simp only [inBlk_exit]
      split
      · rename_i hi; exact WP_of (by rw [Run_block, h]; simp only []; rw [if_pos hi])
      · rename_i hi; exact WP_of (by rw [Run_block, h]; simp only []; rw [if_neg hi])

@[simp] theorem OPS_nil : OPS T n0 wb [] e H K ↔ K e H := ⟨fun ⟨_, _, h, k⟩ => by cases h; exact k, fun k => ⟨_, _, rfl, k⟩⟩
/-- A value that is there, and what goes on behind it. -/
def thn (o : Option (Value × Heap)) (K : Value → Heap → Prop) : Prop := match o with
  | some r => K r.1 r.2
  | none => False
@[simp] theorem thn_some {r : Value × Heap} {K : Value → Heap → Prop} : thn (some r) K = K r.1 r.2 := rfl
@[simp] theorem thn_none {K : Value → Heap → Prop} : thn none K = False := rfl
@[simp] theorem OPS_plain {d : Option Nat} {o : Op1} {r : List Stm} : OPS T n0 wb (⟨none, d, o, []⟩ :: r) e H K ↔
    thn (ev1 (Call T) n0 wb e H o) fun v H' => OPS T n0 wb r (put e d v) H' K := by
  unfold OPS
  rw [ops_plain]
  cases ev1 (Call T) n0 wb e H o with
  | none => simp
  | some r => exact Iff.rfl
@[simp] theorem OPS_guard {j : Nat} {w : Bool} {d : Option Nat} {o : Op1} {r : List Stm} : OPS T n0 wb (⟨some (j, w), d, o, []⟩ :: r) e H K ↔
    if wanted e (some (j, w)) then thn (ev1 (Call T) n0 wb e H o) fun v H' => OPS T n0 wb r (put e d v) H' K
    else OPS T n0 wb r (skip o e d) H K := by
  unfold OPS
  rw [ops_guard]
  split
  · cases ev1 (Call T) n0 wb e H o with
    | none => simp
    | some r => exact Iff.rfl
  · rfl
end
/-- All slots that a piece may leave changed. -/
def outsAll : Cd → List Nat
  | .reg outs _ => outs
  | .seq a b | .cond _ a b => outsAll a ++ outsAll b
  | .block _ b | .loop b => outsAll b
  | _ => []
theorem mask_other {e e1 : Env} {s : Nat} : ∀ {outs : List Nat}, s ∉ outs → mask e e1 outs s = e s
  | [], _ => rfl
  | o :: os, h => by
    simp only [List.mem_cons, not_or] at h
    show (if s = o then e1 o else mask e e1 os s) = e s
    rw [if_neg h.1]; exact mask_other h.2
theorem code_frame {cl : Cl} {n0 : Nat} {wb : Bool} {k s : Nat} : ∀ {c : Cd} {e : Env} {H : Heap} {x e' H'},
    code cl n0 wb k c e H = some (x, e', H') → s ∉ outsAll c → e' s = e s := by
  intro c
  induction c with
  | skip => intro e H x e' H' h _; cases h; rfl
  | ret => intro e H x e' H' h _; cases h; rfl
  | exit i => intro e H x e' H' h _; cases h; rfl
  | reg outs ss =>
    intro e H x e' H' h hs
    simp only [code] at h
    split at h
    · cases h; exact mask_other hs
    · cases h
  | seq a b iha ihb =>
    intro e H x e' H' h hs
    simp only [outsAll, List.mem_append, not_or] at hs
    simp only [code] at h
    cases ha : code cl n0 wb k a e H with
    | none => rw [ha] at h; cases h
    | some v =>
      rw [ha] at h
      obtain ⟨y, e1, H1⟩ := v
      cases y with
      | normal => rw [ihb h hs.2, iha ha hs.1]
      | exit i => cases h; exact iha ha hs.1
      | ret => cases h; exact iha ha hs.1
  | cond c a b iha ihb =>
    intro e H x e' H' h hs
    simp only [outsAll, List.mem_append, not_or] at hs
    simp only [code] at h
    split at h
    · exact iha h hs.1
    · exact ihb h hs.2
    · cases h
  | block id b ih =>
    intro e H x e' H' h hs
    simp only [code] at h
    cases hb : code cl n0 wb k b e H with
    | none => rw [hb] at h; cases h
    | some v =>
      rw [hb] at h
      obtain ⟨y, e1, H1⟩ := v
      have := ih hb hs
      cases y with
      | normal => cases h; exact this
      | ret => cases h; exact this
      | exit i => dsimp only at h; split at h <;> cases h <;> exact this
  | loop b ih =>
    intro e H x e' H' h hs
    simp only [code] at h
    have : ∀ n e H x e' H', iter (code cl n0 wb k b) n e H = some (x, e', H') → e' s = e s := by
      intro n
      induction n with
      | zero => intro e H x e' H' h; simp [iter] at h
      | succ n ihn =>
        intro e H x e' H' h
        simp only [iter] at h
        cases hb : code cl n0 wb k b e H with
        | none => rw [hb] at h; cases h
        | some v =>
          rw [hb] at h
          obtain ⟨y, e1, H1⟩ := v
          have h1 := ih hb hs
          cases y with
          | normal => rw [ihn _ _ _ _ _ h, h1]
          | exit i => cases h; exact h1
          | ret => cases h; exact h1
    exact this _ _ _ _ _ _ h
section
variable {T : Tab} {n0 : Nat} {wb : Bool} {e : Env} {H : Heap} {Q : Ex → Env → Heap → Prop}
theorem Run_frame {c : Cd} {x : Ex} {e' : Env} {H' : Heap} (h : Run T n0 wb c e H = some (x, e', H')) {s : Nat} (hs : s ∉ outsAll c) : e' s = e s :=
  let ⟨_, hk⟩ := of_Run h; code_frame hk hs
theorem WP.frame {c : Cd} (h : WP T n0 wb c e H Q) : WP T n0 wb c e H fun x e' H' => Q x e' H' ∧ ∀ s, s ∉ outsAll c → e' s = e s :=
  let ⟨x, e', H', hr, q⟩ := h; ⟨x, e', H', hr, q, fun _ hs => Run_frame hr hs⟩
/-- A loop: what holds at its head, round by round, and how many rounds there are at most. -/
theorem WP_loop {b : Cd} (I : Nat → Env → Heap → Prop) (n : Nat)
    (round : ∀ i e' H', (∀ s, s ∉ outsAll b → e' s = e s) → i ≤ n → I i e' H' → WP T n0 wb b e' H' (andThen (fun e1 H1 => i < n ∧ I (i + 1) e1 H1) Q))
    {i : Nat} (hi : i ≤ n) (h0 : I i e H) : WP T n0 wb (.loop b) e H Q := by
  have key : ∀ d i e' H', n - i = d → i ≤ n → (∀ s, s ∉ outsAll b → e' s = e s) → I i e' H' → WP T n0 wb (.loop b) e' H' Q := by
    intro d
    induction d with
    | zero =>
      intro i e' H' hd hi hf hI
      obtain ⟨x, e1, H1, hr, q⟩ := round i e' H' hf hi hI
      cases x with
      | normal => obtain ⟨hlt, _⟩ := q; omega
      | exit j => exact (WP_of (by rw [Run_loop, hr])).2 q
      | ret => exact (WP_of (by rw [Run_loop, hr])).2 q
    | succ d ih =>
      intro i e' H' hd hi hf hI
      obtain ⟨x, e1, H1, hr, q⟩ := round i e' H' hf hi hI
      cases x with
      | normal =>
        obtain ⟨hlt, hI1⟩ := q
        have := ih (i + 1) e1 H1 (by omega) (by omega) (fun s hs => by rw [Run_frame hr hs, hf s hs]) hI1
        obtain ⟨x, e2, H2, hr2, q2⟩ := this
        exact ⟨x, e2, H2, by rw [Run_loop, hr]; exact hr2, q2⟩
      | exit j => exact (WP_of (by rw [Run_loop, hr])).2 q
      | ret => exact (WP_of (by rw [Run_loop, hr])).2 q
  exact key _ i e H rfl hi (fun _ _ => rfl) h0
theorem Call_wp0 {pu : Bool} {f : Nat} {F : Fn} (hT : T f = some (.fn F)) (hp : pu = false ∨ F.kind = .pure) {xs : List Value} {r : Value × Heap} (hn : xs.length = F.np)
    (h : WP T H.length (wbOf F.kind) F.body (ini xs) H fun x e' H' => (∀ i, x ≠ .exit i) ∧ (resVs e' H' F.res).map (finish H.length H') = some r) :
    Call T pu f xs H = some r := by
  obtain ⟨x, e', H', hr, hx, q⟩ := h
  rw [Call_fn hT hp hn, hr]
  cases x with
  | exit i => exact absurd rfl (hx i)
  | normal => exact q
  | ret => exact q
end
end Fb
