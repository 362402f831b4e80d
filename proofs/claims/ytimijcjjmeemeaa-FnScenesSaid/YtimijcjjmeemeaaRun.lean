/- The interpreter without a bound on its steps, and its equations. -/
import Derived.Test.YtimijcjjmeemeaaDen
set_option linter.unusedVariables false
set_option linter.unusedSimpArgs false
namespace Fb
open Go

def Le (a b : Cl) : Prop := ∀ pu f xs H r, a pu f xs H = some r → b pu f xs H = some r
theorem Le.refl (a : Cl) : Le a a := fun _ _ _ _ _ h => h

theorem ev1_mono {a b : Cl} (h : Le a b) {n0 : Nat} {wb : Bool} {e : Env} {H : Heap} {o : Op1} {r : Value × Heap}
    (hr : ev1 a n0 wb e H o = some r) : ev1 b n0 wb e H o = some r := by
  cases o with
  | call p f xs =>
    simp only [ev1] at hr ⊢
    split at hr
    · rename_i hp; rw [if_pos hp]; exact h _ _ _ _ _ hr
    · rename_i hp
      rw [if_neg hp]
      obtain ⟨q, hq, hr⟩ := Option.bind_eq_some_iff.1 hr
      rw [h _ _ _ _ _ hq]; exact hr
  | callv x xs =>
    simp only [ev1] at hr ⊢
    split at hr
    · split at hr
      · rename_i ha; rw [if_pos ha]; exact h _ _ _ _ _ hr
      · cases hr
    · cases hr
  | _ => exact hr

theorem ops_mono {a b : Cl} (h : Le a b) {n0 : Nat} {wb : Bool} : ∀ {ss : List Stm} {e : Env} {H : Heap} {r : Env × Heap},
    ops a n0 wb ss e H = some r → ops b n0 wb ss e H = some r
  | [], _, _, _, hr => hr
  | s :: ss, e, H, r, hr => by
    simp only [ops] at hr ⊢
    split at hr
    · rename_i hw
      rw [if_pos hw]
      split at hr
      · rename_i ha
        rw [if_pos ha]
        split at hr
        · rename_i v H' he
          rw [ev1_mono h he]
          simp only []
          split at hr
          · rename_i hl
            rw [if_pos hl]
            exact ops_mono h hr
          · cases hr
        · cases hr
      · cases hr
    · rename_i hw
      rw [if_neg hw]
      exact ops_mono h hr

abbrev Stp := Env → Heap → Option (Ex × Env × Heap)

theorem iter_mono {f g : Stp} (h : ∀ e H r, f e H = some r → g e H = some r) : ∀ {k k' : Nat}, k ≤ k' → ∀ {e : Env} {H : Heap} {r},
    iter f k e H = some r → iter g k' e H = some r
  | 0, _, _, _, _, _, hr => by simp [iter] at hr
  | k + 1, 0, hk, _, _, _, _ => by omega
  | k + 1, k' + 1, hk, e, H, r, hr => by
    simp only [iter] at hr ⊢
    cases hf : f e H with
    | none => rw [hf] at hr; simp at hr
    | some x =>
      rw [hf] at hr
      rw [h _ _ _ hf]
      obtain ⟨ex, e', H'⟩ := x
      cases ex <;> first | exact hr | exact iter_mono h (by omega) hr

theorem code_mono {a b : Cl} (h : Le a b) {n0 : Nat} {wb : Bool} {k k' : Nat} (hk : k ≤ k') : ∀ {c : Cd} {e : Env} {H : Heap} {r},
    code a n0 wb k c e H = some r → code b n0 wb k' c e H = some r := by
  intro c
  induction c with
  | skip => exact fun hr => hr
  | ret => exact fun hr => hr
  | exit i => exact fun hr => hr
  | reg outs ss =>
    intro e H r hr
    simp only [code] at hr ⊢
    split at hr
    · rename_i he; rw [ops_mono h he]; exact hr
    · cases hr
  | seq x y ihx ihy =>
    intro e H r hr
    simp only [code] at hr ⊢
    cases hx : code a n0 wb k x e H with
    | none => rw [hx] at hr; simp at hr
    | some v =>
      rw [hx] at hr
      rw [ihx hx]
      obtain ⟨ex, e', H'⟩ := v
      cases ex <;> first | exact hr | exact ihy hr
  | cond c x y ihx ihy =>
    intro e H r hr
    simp only [code] at hr ⊢
    split at hr
    · exact ihx hr
    · exact ihy hr
    · cases hr
  | block id x ih =>
    intro e H r hr
    simp only [code] at hr ⊢
    cases hx : code a n0 wb k x e H with
    | none => rw [hx] at hr; simp at hr
    | some v => rw [hx] at hr; rw [ih hx]; exact hr
  | loop x ih =>
    intro e H r hr
    simp only [code] at hr ⊢
    exact iter_mono (fun _ _ _ => ih) hk hr

theorem callF_succ (T : Tab) : ∀ k, Le (callF T k) (callF T (k + 1))
  | 0, _, _, _, _, _, h => by simp [callF] at h
  | k + 1, pu, f, xs, H, r, h => by
    rw [callF] at h ⊢
    cases hT : T f with
    | none => rw [hT] at h; cases h
    | some D =>
      rw [hT] at h
      dsimp only at h ⊢
      split at h
      · cases h
      · rename_i hp
        rw [if_neg hp]
        cases D with
        | ext kd g => exact h
        | fn F =>
          dsimp only at h ⊢
          split at h
          · rename_i hn
            rw [if_pos hn]
            cases hc : code (callF T k) H.length (wbOf F.kind) k F.body (ini xs) H with
            | none => rw [hc] at h; cases h
            | some x => rw [hc] at h; rw [code_mono (callF_succ T k) (Nat.le_succ k) hc]; exact h
          · cases h
theorem callF_le (T : Tab) {k k' : Nat} (h : k ≤ k') : Le (callF T k) (callF T k') := by
  induction h with
  | refl => exact Le.refl _
  | step _ ih => exact fun pu f xs H r hr => callF_succ T _ pu f xs H r (ih pu f xs H r hr)

/- Limits. -/
open Classical in
noncomputable def lim {α : Type} (f : Nat → Option α) : Option α := if h : ∃ k r, f k = some r then some h.choose_spec.choose else none
theorem lim_of {α : Type} {f : Nat → Option α} (mono : ∀ k k' r, k ≤ k' → f k = some r → f k' = some r) {k : Nat} {r : α} (h : f k = some r) : lim f = some r := by
  have hx : ∃ k r, f k = some r := ⟨k, r, h⟩
  unfold lim
  rw [dif_pos hx]
  have h1 := hx.choose_spec.choose_spec
  have a := mono _ (max k hx.choose) _ (Nat.le_max_right _ _) h1
  have b := mono _ (max k hx.choose) _ (Nat.le_max_left _ _) h
  rw [a] at b
  exact b
theorem of_lim {α : Type} {f : Nat → Option α} {r : α} (h : lim f = some r) : ∃ k, f k = some r := by
  unfold lim at h
  split at h
  · rename_i hx
    have h1 := hx.choose_spec.choose_spec
    cases h
    exact ⟨_, h1⟩
  · cases h
theorem lim_none {α : Type} {f : Nat → Option α} (h : lim f = none) (k : Nat) : f k = none := by
  cases hk : f k with
  | none => rfl
  | some r =>
    unfold lim at h
    rw [dif_pos ⟨k, r, hk⟩] at h
    cases h

noncomputable def Call (T : Tab) : Cl := fun pu f xs H => lim fun k => callF T k pu f xs H
noncomputable def Run (T : Tab) (n0 : Nat) (wb : Bool) (c : Cd) (e : Env) (H : Heap) : Option (Ex × Env × Heap) := lim fun k => code (Call T) n0 wb k c e H

theorem Call_of {T : Tab} {pu : Bool} {k f : Nat} {xs : List Value} {H : Heap} {r} (h : callF T k pu f xs H = some r) : Call T pu f xs H = some r :=
  lim_of (f := fun k => callF T k pu f xs H) (fun _ _ _ hk hr => callF_le T hk _ _ _ _ _ hr) h
theorem of_Call {T : Tab} {pu : Bool} {f : Nat} {xs : List Value} {H : Heap} {r} (h : Call T pu f xs H = some r) : ∃ k, callF T k pu f xs H = some r := of_lim h
theorem Run_of {T : Tab} {n0 : Nat} {wb : Bool} {k : Nat} {c : Cd} {e : Env} {H : Heap} {r} (h : code (Call T) n0 wb k c e H = some r) : Run T n0 wb c e H = some r :=
  lim_of (f := fun k => code (Call T) n0 wb k c e H) (fun _ _ _ hk hr => code_mono (Le.refl _) hk hr) h
theorem of_Run {T : Tab} {n0 : Nat} {wb : Bool} {c : Cd} {e : Env} {H : Heap} {r} (h : Run T n0 wb c e H = some r) : ∃ k, code (Call T) n0 wb k c e H = some r := of_lim h

section eqs
variable {T : Tab} {n0 : Nat} {wb : Bool} {e : Env} {H : Heap}
theorem Run_skip : Run T n0 wb .skip e H = some (.normal, e, H) := Run_of (k := 0) rfl
theorem Run_ret : Run T n0 wb .ret e H = some (.ret, e, H) := Run_of (k := 0) rfl
theorem Run_exit {i : Nat} : Run T n0 wb (.exit i) e H = some (.exit i, e, H) := Run_of (k := 0) rfl
theorem eq_of_some {α : Type} {a b : Option α} (h : ∀ r, a = some r ↔ b = some r) : a = b := by
  cases a with
  | some x => exact ((h x).1 rfl).symm
  | none => cases b with
    | none => rfl
    | some y => exact (h y).2 rfl
theorem Run_reg {outs : List Nat} {ss : List Stm} : Run T n0 wb (.reg outs ss) e H =
    match ops (Call T) n0 wb ss e H with
    | some (e1, H') => some (.normal, mask e e1 outs, H')
    | none => none := by
  refine eq_of_some fun r => ⟨fun h => ?_, fun h => ?_⟩
  · obtain ⟨k, hk⟩ := of_Run h; exact hk
  · exact Run_of (k := 0) h
theorem Run_seq {a b : Cd} : Run T n0 wb (.seq a b) e H =
    match Run T n0 wb a e H with
    | some (.normal, e', H') => Run T n0 wb b e' H'
    | r => r := by
  refine eq_of_some fun r => ⟨fun h => ?_, fun h => ?_⟩
  · obtain ⟨k, hk⟩ := of_Run h
    simp only [code] at hk
    cases hx : code (Call T) n0 wb k a e H with
    | none => rw [hx] at hk; cases hk
    | some v =>
      rw [hx] at hk
      rw [Run_of hx]
      obtain ⟨ex, e', H'⟩ := v
      cases ex <;> first | exact hk | exact Run_of hk
  · cases hx : Run T n0 wb a e H with
    | none => rw [hx] at h; cases h
    | some v =>
      rw [hx] at h
      obtain ⟨k1, h1⟩ := of_Run hx
      obtain ⟨ex, e', H'⟩ := v
      cases ex with
      | normal =>
        obtain ⟨k2, h2⟩ := of_Run h
        refine Run_of (k := max k1 k2) ?_
        simp only [code]
        rw [code_mono (Le.refl _) (Nat.le_max_left k1 k2) h1]
        exact code_mono (Le.refl _) (Nat.le_max_right k1 k2) h2
      | exit i => exact Run_of (k := k1) (by simp only [code]; rw [h1]; exact h)
      | ret => exact Run_of (k := k1) (by simp only [code]; rw [h1]; exact h)
theorem Run_cond {c : Opd} {a b : Cd} : Run T n0 wb (.cond c a b) e H =
    match c.ev e with
    | .bool true => Run T n0 wb a e H
    | .bool false => Run T n0 wb b e H
    | _ => none := by
  refine eq_of_some fun r => ⟨fun h => ?_, fun h => ?_⟩
  · obtain ⟨k, hk⟩ := of_Run h
    simp only [code] at hk
    split at hk
    · rename_i hc; rw [hc]; exact Run_of hk
    · rename_i hc; rw [hc]; exact Run_of hk
    · cases hk
  · split at h
    · rename_i hc; obtain ⟨k, hk⟩ := of_Run h; exact Run_of (k := k) (by simp only [code]; rw [hc]; exact hk)
    · rename_i hc; obtain ⟨k, hk⟩ := of_Run h; exact Run_of (k := k) (by simp only [code]; rw [hc]; exact hk)
    · cases h
theorem Run_block {id : Nat} {b : Cd} : Run T n0 wb (.block id b) e H =
    match Run T n0 wb b e H with
    | some (.exit i, e', H') => if i = id then some (.normal, e', H') else some (.exit i, e', H')
    | r => r := by
  refine eq_of_some fun r => ⟨fun h => ?_, fun h => ?_⟩
  · obtain ⟨k, hk⟩ := of_Run h
    simp only [code] at hk
    cases hx : code (Call T) n0 wb k b e H with
    | none => rw [hx] at hk; cases hk
    | some v => rw [hx] at hk; rw [Run_of hx]; exact hk
  · cases hx : Run T n0 wb b e H with
    | none => rw [hx] at h; cases h
    | some v =>
      rw [hx] at h
      obtain ⟨k, hk⟩ := of_Run hx
      exact Run_of (k := k) (by simp only [code]; rw [hk]; exact h)
theorem code_loop_iter {k k1 : Nat} (h1 : k ≤ k1) {b : Cd} {r} (h : iter (code (Call T) n0 wb k b) k e H = some r) :
    iter (code (Call T) n0 wb k1 b) k1 e H = some r := iter_mono (fun _ _ _ => code_mono (Le.refl _) h1) h1 h
theorem Run_loop {b : Cd} : Run T n0 wb (.loop b) e H =
    match Run T n0 wb b e H with
    | some (.normal, e', H') => Run T n0 wb (.loop b) e' H'
    | r => r := by
  refine eq_of_some fun r => ⟨fun h => ?_, fun h => ?_⟩
  · obtain ⟨k, hk⟩ := of_Run h
    simp only [code] at hk
    cases k with
    | zero => simp [iter] at hk
    | succ k =>
      simp only [iter] at hk
      cases hx : code (Call T) n0 wb (k + 1) b e H with
      | none => rw [hx] at hk; cases hk
      | some v =>
        rw [hx] at hk
        rw [Run_of hx]
        obtain ⟨ex, e', H'⟩ := v
        cases ex with
        | normal => exact Run_of (k := k + 1) (by simp only [code]; exact iter_mono (fun _ _ _ h => h) (Nat.le_succ k) hk)
        | exit i => exact hk
        | ret => exact hk
  · cases hx : Run T n0 wb b e H with
    | none => rw [hx] at h; cases h
    | some v =>
      rw [hx] at h
      obtain ⟨k1, h1⟩ := of_Run hx
      obtain ⟨ex, e', H'⟩ := v
      cases ex with
      | normal =>
        obtain ⟨k2, h2⟩ := of_Run h
        refine Run_of (k := max k1 k2 + 1) ?_
        simp only [code] at h2 ⊢
        simp only [iter]
        rw [code_mono (Le.refl _) (show k1 ≤ max k1 k2 + 1 by omega) h1]
        exact iter_mono (fun _ _ _ => code_mono (Le.refl _) (show k2 ≤ max k1 k2 + 1 by omega)) (Nat.le_max_right k1 k2) h2
      | exit i => exact Run_of (k := k1 + 1) (by simp only [code, iter]; rw [code_mono (Le.refl _) (Nat.le_succ k1) h1]; exact h)
      | ret => exact Run_of (k := k1 + 1) (by simp only [code, iter]; rw [code_mono (Le.refl _) (Nat.le_succ k1) h1]; exact h)
end eqs

/- A run that goes well makes finitely many calls. -/
theorem ev1_fin {T : Tab} {n0 : Nat} {wb : Bool} {e : Env} {H : Heap} {o : Op1} {r} (h : ev1 (Call T) n0 wb e H o = some r) :
    ∃ k, ev1 (callF T k) n0 wb e H o = some r := by
  cases o with
  | call p f xs =>
    simp only [ev1] at h ⊢
    split at h
    · rename_i hp; obtain ⟨k, hk⟩ := of_Call h; exact ⟨k, by rw [if_pos hp]; exact hk⟩
    · rename_i hp
      obtain ⟨q, hq, hr⟩ := Option.bind_eq_some_iff.1 h
      obtain ⟨k, hk⟩ := of_Call hq
      exact ⟨k, by rw [if_neg hp, hk]; exact hr⟩
  | callv x xs =>
    simp only [ev1] at h ⊢
    split at h
    · split at h
      · rename_i ha; obtain ⟨k, hk⟩ := of_Call h; exact ⟨k, by rw [if_pos ha]; exact hk⟩
      · cases h
    · cases h
  | _ => exact ⟨0, h⟩
theorem ops_fin {T : Tab} {n0 : Nat} {wb : Bool} : ∀ {ss : List Stm} {e : Env} {H : Heap} {r}, ops (Call T) n0 wb ss e H = some r →
    ∃ k, ops (callF T k) n0 wb ss e H = some r
  | [], _, _, _, h => ⟨0, h⟩
  | s :: ss, e, H, r, h => by
    simp only [ops] at h ⊢
    split at h
    · rename_i hw
      split at h
      · rename_i ha
        split at h
        · rename_i v H' he
          split at h
          · rename_i hl
            obtain ⟨k1, h1⟩ := ev1_fin he
            obtain ⟨k2, h2⟩ := ops_fin h
            refine ⟨max k1 k2, ?_⟩
            rw [if_pos hw, if_pos ha, ev1_mono (callF_le T (Nat.le_max_left k1 k2)) h1]
            simp only []
            rw [if_pos hl]
            exact ops_mono (callF_le T (Nat.le_max_right k1 k2)) h2
          · cases h
        · cases h
      · cases h
    · rename_i hw
      obtain ⟨k2, h2⟩ := ops_fin h
      exact ⟨k2, by rw [if_neg hw]; exact h2⟩
theorem iter_fin {T : Tab} {n0 : Nat} {wb : Bool} {k : Nat} {b : Cd}
    (ih : ∀ {e : Env} {H : Heap} {r}, code (Call T) n0 wb k b e H = some r → ∃ k', k ≤ k' ∧ code (callF T k') n0 wb k' b e H = some r) :
    ∀ {n : Nat} {e : Env} {H : Heap} {r}, iter (code (Call T) n0 wb k b) n e H = some r → ∃ k', k ≤ k' ∧ n ≤ k' ∧ iter (code (callF T k') n0 wb k' b) n e H = some r
  | 0, _, _, _, h => by simp [iter] at h
  | n + 1, e, H, r, h => by
    simp only [iter] at h
    cases hx : code (Call T) n0 wb k b e H with
    | none => rw [hx] at h; cases h
    | some v =>
      rw [hx] at h
      obtain ⟨k1, hk1, h1⟩ := ih hx
      obtain ⟨ex, e', H'⟩ := v
      cases ex with
      | normal =>
        obtain ⟨k2, hk2, _, h2⟩ := iter_fin ih h
        refine ⟨max k1 k2 + n + 1, by omega, by omega, ?_⟩
        simp only [iter]
        rw [code_mono (callF_le T (show k1 ≤ max k1 k2 + n + 1 by omega)) (by omega) h1]
        exact iter_mono (fun _ _ _ => code_mono (callF_le T (show k2 ≤ max k1 k2 + n + 1 by omega)) (by omega)) (Nat.le_refl n) h2
      | exit i =>
        refine ⟨k1 + n + 1, by omega, by omega, ?_⟩
        simp only [iter]
        rw [code_mono (callF_le T (show k1 ≤ k1 + n + 1 by omega)) (by omega) h1]; exact h
      | ret =>
        refine ⟨k1 + n + 1, by omega, by omega, ?_⟩
        simp only [iter]
        rw [code_mono (callF_le T (show k1 ≤ k1 + n + 1 by omega)) (by omega) h1]; exact h
theorem code_fin {T : Tab} {n0 : Nat} {wb : Bool} {k : Nat} : ∀ {c : Cd} {e : Env} {H : Heap} {r}, code (Call T) n0 wb k c e H = some r →
    ∃ k', k ≤ k' ∧ code (callF T k') n0 wb k' c e H = some r := by
  intro c
  induction c with
  | skip => exact fun h => ⟨k, Nat.le_refl k, h⟩
  | ret => exact fun h => ⟨k, Nat.le_refl k, h⟩
  | exit i => exact fun h => ⟨k, Nat.le_refl k, h⟩
  | reg outs ss =>
    intro e H r h
    simp only [code] at h ⊢
    split at h
    · rename_i he
      obtain ⟨k', h'⟩ := ops_fin he
      exact ⟨max k k', Nat.le_max_left k k', by rw [ops_mono (callF_le T (Nat.le_max_right k k')) h']; exact h⟩
    · cases h
  | seq x y ihx ihy =>
    intro e H r h
    simp only [code] at h
    cases hx : code (Call T) n0 wb k x e H with
    | none => rw [hx] at h; cases h
    | some v =>
      rw [hx] at h
      obtain ⟨k1, hk1, h1⟩ := ihx hx
      obtain ⟨ex, e', H'⟩ := v
      cases ex with
      | normal =>
        obtain ⟨k2, hk2, h2⟩ := ihy h
        refine ⟨max k1 k2, by omega, ?_⟩
        simp only [code]
        rw [code_mono (callF_le T (Nat.le_max_left k1 k2)) (Nat.le_max_left k1 k2) h1]
        exact code_mono (callF_le T (Nat.le_max_right k1 k2)) (Nat.le_max_right k1 k2) h2
      | exit i => exact ⟨k1, hk1, by simp only [code]; rw [h1]; exact h⟩
      | ret => exact ⟨k1, hk1, by simp only [code]; rw [h1]; exact h⟩
  | cond c x y ihx ihy =>
    intro e H r h
    simp only [code] at h
    split at h
    · rename_i hc; obtain ⟨k1, hk1, h1⟩ := ihx h; exact ⟨k1, hk1, by simp only [code]; rw [hc]; exact h1⟩
    · rename_i hc; obtain ⟨k1, hk1, h1⟩ := ihy h; exact ⟨k1, hk1, by simp only [code]; rw [hc]; exact h1⟩
    · cases h
  | block id x ih =>
    intro e H r h
    simp only [code] at h
    cases hx : code (Call T) n0 wb k x e H with
    | none => rw [hx] at h; cases h
    | some v =>
      rw [hx] at h
      obtain ⟨k1, hk1, h1⟩ := ih hx
      exact ⟨k1, hk1, by simp only [code]; rw [h1]; exact h⟩
  | loop x ih =>
    intro e H r h
    simp only [code] at h
    obtain ⟨k1, hk1, hn, h1⟩ := iter_fin ih h
    exact ⟨k1, hk1, by simp only [code]; exact iter_mono (fun _ _ _ h => h) hn h1⟩

theorem Call_ext {T : Tab} {pu : Bool} {f : Nat} {kd : Kind} {g} (hT : T f = some (.ext kd g)) (hp : pu = false ∨ kd = .pure) {xs : List Value} {H : Heap} : Call T pu f xs H = g xs H := by
  have hp' : ¬ (pu = true ∧ (Def.ext kd g).kind ≠ .pure) := by rintro ⟨rfl, h⟩; rcases hp with h' | h'; cases h'; exact h h'
  refine eq_of_some fun r => ⟨fun h => ?_, fun h => ?_⟩
  · obtain ⟨k, hk⟩ := of_Call h
    cases k with
    | zero => simp [callF] at hk
    | succ k => rw [callF, hT] at hk; dsimp only at hk; rw [if_neg hp'] at hk; exact hk
  · exact Call_of (k := 1) (by rw [callF, hT]; dsimp only; rw [if_neg hp']; exact h)
theorem Call_fn {T : Tab} {pu : Bool} {f : Nat} {F : Fn} (hT : T f = some (.fn F)) (hp : pu = false ∨ F.kind = .pure) {xs : List Value} {H : Heap} (hn : xs.length = F.np) : Call T pu f xs H =
    match Run T H.length (wbOf F.kind) F.body (ini xs) H with
    | some (.exit _, _, _) | none => none
    | some (_, e, H') => (resVs e H' F.res).map (finish H.length H') := by
  have hp' : ¬ (pu = true ∧ (Def.fn F).kind ≠ .pure) := by rintro ⟨rfl, h⟩; rcases hp with h' | h'; cases h'; exact h h'
  refine eq_of_some fun r => ⟨fun h => ?_, fun h => ?_⟩
  · obtain ⟨k, hk⟩ := of_Call h
    cases k with
    | zero => simp [callF] at hk
    | succ k =>
      rw [callF, hT] at hk
      dsimp only at hk
      rw [if_neg hp', if_pos hn] at hk
      cases hc : code (callF T k) H.length (wbOf F.kind) k F.body (ini xs) H with
      | none => rw [hc] at hk; cases hk
      | some x =>
        rw [hc] at hk
        rw [Run_of (code_mono (fun _ _ _ _ _ h => Call_of h) (Nat.le_refl k) hc)]
        exact hk
  · cases hc : Run T H.length (wbOf F.kind) F.body (ini xs) H with
    | none => rw [hc] at h; cases h
    | some x =>
      rw [hc] at h
      obtain ⟨k, hk⟩ := of_Run hc
      obtain ⟨k', _, hk'⟩ := code_fin hk
      refine Call_of (k := k' + 1) ?_
      rw [callF, hT]
      dsimp only
      rw [if_neg hp', if_pos hn, hk']
      exact h

end Fb
