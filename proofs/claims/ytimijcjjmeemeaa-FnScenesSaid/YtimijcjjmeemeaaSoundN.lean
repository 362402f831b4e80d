/- The operations that look at slots alone: what the model makes of them. -/
import Derived.Test.YtimijcjjmeemeaaRel
import Derived.Laws.Entries
set_option linter.unusedVariables false
set_option linter.unusedSimpArgs false
namespace Fb
open Go

/-- A block of a variable: its cells. -/
def BlkIs (C : Cx) (w : World) (B : Nat) (l : List Value) : Prop :=
  ∃ cs elem, w.heap[B]? = some (.cells cs elem (0, 0)) ∧ Flat l ∧ VRs C l cs.toList
def isVar (h : Hint) (p : Nat) : Bool := h.vars.contains p && h.keep.contains p
/-- What an operation may lean on. -/
structure At (C : Cx) (h : Hint) (l : Look) (e : Env) (a : Act) (w : World) : Prop where
  plain : ∀ s, l.plain h s = true → VR C (e s) (a.tmps.getD s undef)
  var : ∀ p, isVar h p = true → has (e p) = true → ∃ B, a.tmps.getD p undef = .pointer (some ⟨B, 0, none⟩) ∧ BlkIs C w B (cellsOf (e p))
  adr : ∀ s p o, l.var s = some p → offV (e s) = some o → isVar h p = true ∧ has (e p) = true ∧ ∃ B, a.tmps.getD s undef = .pointer (some ⟨B, o, none⟩) ∧ a.tmps.getD p undef = .pointer (some ⟨B, 0, none⟩)
def Inv (inv : FuncId → Option Nat) (h : Hint) (C : Cx) : Prop := (∀ f i, inv f = some i → C.ρ i = f) ∧ ∀ g, h.pin = some g → AR C ⟨0, 0, some 0⟩ ⟨g, 0, none⟩

section
variable {P : Program} {inv : FuncId → Option Nat} {h : Hint} {C : Cx} {l : Look} {e : Env} {a : Act} {w : World}
theorem opd_sound (hi : Inv inv h C) (hA : At C h l e a w) {x : Operand} {y : Opd} (hc : opd inv h l x = some y) : VR C (y.ev e) (a.eval x) := by
  cases x with
  | tmp t =>
    simp only [opd] at hc
    split at hc
    · cases hc; exact hA.plain t ‹_›
    · cases hc
  | const v =>
    simp only [opd] at hc
    split at hc
    · cases hc; exact .okConst ‹_›
    · cases hc
  | global g =>
    simp only [opd] at hc
    split at hc
    · rename_i hg
      cases hc
      exact .ptr (hi.2 g hg)
    · cases hc
  | func f =>
    simp only [opd] at hc
    obtain ⟨i, hi', rfl⟩ := Option.map_eq_some_iff.1 hc
    have := hi.1 f i hi'
    show VR C (.func (.func i) #[] #[]) (.func (.func f) #[] #[])
    rw [← this]
    exact .func rfl (fun i h => by simp at h)
/-- A run that gives a value and leaves the world alone. -/
def Gives (P : Program) (w : World) (s : Sem Next) (C : Cx) (v : Value) : Prop := ∃ v', s.run P w = .ok (.value v') w ∧ VR C v v'

theorem VR.int_inv {k : IntKind} {i : Int} {v : Value} (h : VR C (.int k i) v) : v = .int k i := by cases h; rfl
theorem VR.bool_inv {b : Bool} {v : Value} (h : VR C (.bool b) v) : v = .bool b := by cases h; rfl
theorem VR.string_inv {s : ByteArray} {v : Value} (h : VR C (.string s) v) : v = .string s := by cases h; rfl
theorem VR.tup_inv {cs : Array Value} {v : Value} (h : VR C (.tuple cs) v) : ∃ cs', v = .tuple cs' ∧ VRs C cs.toList cs'.toList := by
  cases h with
  | tup hs h => exact ⟨_, rfl, hs, fun i h1 h2 => h i h1 h2⟩
theorem VR.agg_inv {cs : Array Value} {v : Value} (h : VR C (.agg cs) v) : ∃ cs', v = .agg cs' ∧ VRs C cs.toList cs'.toList ∧ Flat cs.toList := by
  cases h with | agg hf hs h => exact ⟨_, rfl, ⟨hs, fun i h1 h2 => h i h1 h2⟩, hf⟩

theorem gives_move (hi : Inv inv h C) (hA : At C h l e a w) {x : Operand} {y : Opd} (hc : opd inv h l x = some y) {v : Value} (hv : some (y.ev e) = some v) :
    Gives P w (pure (.value (a.eval x))) C v := by
  cases hv; exact ⟨_, rfl, opd_sound hi hA hc⟩

theorem binop_int {op : BinOp} {t : TypeId} {k k' : IntKind} {x y : Int} {r : Value} (hr : binop op (.int k x) (.int k' y) = some r) :
    (binOp op t (.int k x) (.int k' y)).run P w = .ok r w ∧ VR C r r := by
  have hs : ∀ o, (op = .shl ∨ op = .shr) → o = op → shiftOf o k x y = some r → (Op.shift o k x k' y).run P w = .ok r w ∧ VR C r r := by
    intro o ho he hx
    unfold shiftOf at hx
    split at hx
    · cases hx
    · rename_i h0
      subst he
      unfold Op.shift
      rw [if_neg h0]
      rcases ho with rfl | rfl <;> cases hx <;> exact ⟨rfl, .int _ _⟩
  by_cases hsh : op = .shl ∨ op = .shr
  · rcases hsh with rfl | rfl
    · exact hs _ (.inl rfl) rfl (by simpa [binop] using hr)
    · exact hs _ (.inr rfl) rfl (by simpa [binop] using hr)
  · have e1 : (if k = k' then intBin op k x y else none) = some r := by
      cases op <;> first | exact absurd (.inl rfl) hsh | exact absurd (.inr rfl) hsh | simpa [binop] using hr
    split at e1
    · rename_i hk
      subst hk
      cases op <;> first
        | exact absurd (.inl rfl) hsh
        | exact absurd (.inr rfl) hsh
        | (simp only [intBin] at e1
           split at e1
           · cases e1
           · rename_i h0; cases e1; simp [binOp, Op.intDiv, h0, VR.int])
        | (simp only [intBin, Option.some.injEq] at e1
           subst e1
           first
             | (refine ⟨?_, .int _ _⟩; simp [binOp, Op.intArith]; done)
             | (refine ⟨?_, .int _ _⟩; simp only [binOp, ne_eq, not_true_eq_false, if_false]; rfl)
             | (refine ⟨?_, .bool _⟩; simp [binOp, Op.intCmp]; done))
    · cases e1
theorem binop_str {op : BinOp} {t : TypeId} {x y : ByteArray} {r : Value} (hr : binop op (.string x) (.string y) = some r) :
    op = .add ∧ (binOp op t (.string x) (.string y)).run P w = .ok r w ∧ VR C r r := by
  cases op <;> first
    | (simp only [binop] at hr; cases hr; done)
    | (simp only [binop] at hr
       split at hr
       · cases hr
       · rename_i h0
         cases hr
         refine ⟨rfl, ?_, .string _⟩
         simp only [binOp, Op.stringOp]
         rw [if_neg h0]; rfl)
theorem binop_sound {op : BinOp} {t : TypeId} {x y : Operand} {u v r u' v' : Value} (hu : VR C u u') (hv : VR C v v')
    (hr : binop op u v = some r) : ∃ r', Sem.run P (do eqGuard op t x y u' v'; binOp op t u' v') w = .ok r' w ∧ VR C r r' := by
  have hcase : (∃ k i k' j, u = .int k i ∧ v = .int k' j) ∨ (∃ a b, u = .string a ∧ v = .string b) := by
    unfold binop at hr
    split at hr
    · exact .inl ⟨_, _, _, _, rfl, rfl⟩
    · exact .inr ⟨_, _, rfl, rfl⟩
    · cases hr
  rcases hcase with ⟨k, i, k', j, rfl, rfl⟩ | ⟨a, b, rfl, rfl⟩
  · rw [hu.int_inv, hv.int_inv]
    obtain ⟨h1, h2⟩ := binop_int (P := P) (C := C) (t := t) (w := w) hr
    exact ⟨r, by rw [eqGuard_at_int]; exact h1, h2⟩
  · rw [hu.string_inv, hv.string_inv]
    obtain ⟨_, h1, h2⟩ := binop_str (P := P) (C := C) (t := t) (w := w) hr
    exact ⟨r, by rw [eqGuard_at_string]; exact h1, h2⟩
theorem unop_sound {op : UnOp} {u u' r : Value} (hu : VR C u u') (hr : unop op u = some r) : (Op.unary op u').run P w = .ok r w ∧ VR C r r := by
  unfold unop at hr
  split at hr
  · cases hr; rw [hu.int_inv]; exact ⟨rfl, .int _ _⟩
  · cases hr; rw [hu.bool_inv]; exact ⟨rfl, .bool _⟩
  · cases hr
theorem lay_spec {t : TypeId} {q : Nat × Bool} (hq : lay P t = some q) :
    (Go.sizeOf t).run P w = .ok q.1 w ∧ (isAgg t).run P w = .ok q.2 w ∧ P.bytesOf t = ((P.info? t).map (·.bytes)).getD 0 ∧ ∃ i, P.info? t = some i ∧ i.size = q.1 ∧ (typeInfo t).run P w = .ok i w := by
  unfold lay at hq
  split at hq
  · rename_i i fs hi hu
    cases hq
    exact ⟨by simp [Go.sizeOf, typeInfo, hi], by simp [isAgg, underlying, hu], rfl, i, hi, rfl, by simp [typeInfo, hi]⟩
  · rename_i i n e hi hu
    cases hq
    exact ⟨by simp [Go.sizeOf, typeInfo, hi], by simp [isAgg, underlying, hu], rfl, i, hi, rfl, by simp [typeInfo, hi]⟩
  · rename_i i d h1 h2 hi hu
    cases hq
    refine ⟨by simp [Go.sizeOf, typeInfo, hi], ?_, rfl, i, hi, rfl, by simp [typeInfo, hi]⟩
    simp only [isAgg, underlying, Sem.run_bind, run_program, Result.andThen_ok, hu, Sem.run_pure]
  · cases hq
theorem ldv_sound {g : Bool} {cs cs' : List Value} {v : Value} (hs : VRs C cs cs') (hf : Flat cs) (hv : ldv g cs = some v) :
    ∃ v', (if g then some (Value.agg cs'.toArray) else cs'[0]?) = some v' ∧ VR C v v' := by
  unfold ldv at hv
  split at hv
  · rename_i hg; cases hv; rw [if_pos hg]; exact ⟨_, rfl, hs.mk_agg hf⟩
  · rename_i hg
    rw [if_neg hg]
    split at hv
    · rename_i x
      cases hv
      have h1 := hs.1
      obtain ⟨y, rfl⟩ : ∃ y, cs' = [y] := by
        match cs', h1 with
        | [y], _ => exact ⟨y, rfl⟩
      exact ⟨y, rfl, hs.2 0 (by simp) (by simp)⟩
    · cases hv
end
end Fb
