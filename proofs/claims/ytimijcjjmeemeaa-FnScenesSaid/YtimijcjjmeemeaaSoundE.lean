/- '==' on bools, strings, rows of numbers, and with nil. -/
import Derived.Test.YtimijcjjmeemeaaSoundN
import Derived.ChangeKeysEq
import Derived.Laws.Cover3
import Derived.WideLaws
set_option linter.unusedVariables false
set_option linter.unusedSimpArgs false
namespace Fb
open Go

section
variable {P : Program} {w : World}
theorem eqCells_app : ∀ {a b : List (Option IntKind)} {x1 x2 y1 y2 : List Value}, x1.length = a.length → y1.length = a.length → ∀ {r : Bool},
    eqCells (a ++ b) (x1 ++ x2) (y1 ++ y2) = some r → ∃ r1, eqCells a x1 y1 = some r1 ∧ (r1 = true → eqCells b x2 y2 = some r) ∧ (r1 = false → r = false)
  | [], b, x1, x2, y1, y2, hx, hy, r, h => by
    cases x1 with
    | nil => cases y1 with
      | nil => exact ⟨true, rfl, fun _ => h, fun h => by cases h⟩
      | cons y y1 => simp at hy
    | cons x x1 => simp at hx
  | c :: a, b, x1, x2, y1, y2, hx, hy, r, h => by
    cases x1 with
    | nil => simp at hx
    | cons x x1 => cases y1 with
      | nil => simp at hy
      | cons y y1 =>
        simp only [List.length_cons, Nat.add_right_cancel_iff] at hx hy
        simp only [List.cons_append] at h
        cases c with
        | some k =>
          cases x <;> cases y <;> simp only [eqCells] at h ⊢ <;> first
            | (cases h; done)
            | (split at h
               · rename_i hk
                 split at h
                 · rename_i he
                   obtain ⟨r1, h1, h2⟩ := eqCells_app hx hy h
                   exact ⟨r1, by rw [if_pos hk, if_pos he]; exact h1, h2⟩
                 · rename_i he
                   cases h
                   exact ⟨false, by rw [if_pos hk, if_neg he], (fun h => by cases h), fun _ => rfl⟩
               · cases h)
        | none =>
          cases x <;> cases y <;> simp only [eqCells] at h ⊢ <;> first
            | (cases h; done)
            | (split at h
               · rename_i he
                 obtain ⟨r1, h1, h2⟩ := eqCells_app hx hy h
                 exact ⟨r1, by rw [if_pos he]; exact h1, h2⟩
               · rename_i he
                 cases h
                 exact ⟨false, by rw [if_neg he], (fun h => by cases h), fun _ => rfl⟩)
/-- A type's value out of its cells. -/
def mkV (g : Bool) (cs : List Value) : Value := if g then .agg cs.toArray else cs.headD undef
theorem run_part' {t : TypeId} {q : Nat × Bool} (hq : lay P t = some q) {cs : Array Value} {off : Nat} (hl : off + q.1 ≤ cs.size) (h1 : q.2 = false → q.1 = 1) :
    (part t cs off).run P w = .ok (mkV q.2 ((cs.toList.drop off).take q.1)) w := by
  obtain ⟨hs, ha, _⟩ := lay_spec (w := w) hq
  unfold part
  simp only [Sem.run_bind, ha, Result.andThen_ok]
  cases hg : q.2 with
  | true =>
    simp only [if_true, Sem.run_bind, hs, Result.andThen_ok, Sem.run_pure, mkV]
    congr 2
    apply Array.ext'
    simp [Array.toList_extract, List.extract, Nat.add_sub_cancel_left]
  | false =>
    have h2 := h1 hg
    have hlt : off < cs.size := by omega
    simp only [Bool.false_eq_true, if_false, Array.getElem?_eq_getElem hlt, Sem.run_pure, mkV, h2]
    congr 1
    rw [List.drop_eq_getElem_cons (by simpa using hlt)]
    simp
theorem leaves_lay {d : Nat} {t : TypeId} {ls : List (Option IntKind)} {q : Nat × Bool} (hl : leaves P d t = some ls) (hq : lay P t = some q) : q.2 = false → ls.length = 1 := by
  intro hg
  cases d with
  | zero => cases hl
  | succ d =>
    unfold lay at hq
    simp only [leaves] at hl
    split at hq
    · cases hq; cases hg
    · cases hq; cases hg
    · rename_i h1 h2 hi hu
      split at hl
      · cases hl; rfl
      · cases hl; rfl
      · rename_i hu'; exact (h2 _ _ (Option.some.inj (hu.symm.trans hu'))).elim
      · rename_i hu'; exact (h1 _ (Option.some.inj (hu.symm.trans hu'))).elim
      · cases hl
    · cases hq
theorem run_bool_step {x : Sem Bool} {r : Bool} {f : Sem Bool} (h : x.run P w = .ok r w) :
    (x >>= fun r => if (!r) = true then pure false else f).run P w = if r then f.run P w else .ok false w := by
  simp only [Sem.run_bind, h, Result.andThen_ok]
  cases r <;> simp
/-- What '==' says of the cells of a type. -/
def EqAt (P : Program) (w : World) (d : Nat) (t : TypeId) (ls : List (Option IntKind)) : Prop :=
  ∀ D, d ≤ D → ∀ q, lay P t = some q → q.1 = ls.length → ∀ xs ys : List Value, xs.length = ls.length → ys.length = ls.length → ∀ r, eqCells ls xs ys = some r →
    (Op.equalIn D t (mkV q.2 xs) (mkV q.2 ys)).run P w = .ok r w
theorem eqItems_sound {d D c : Nat} {e : TypeId} {a : List (Option IntKind)} {q : Nat × Bool} (h : EqAt P w d e a) (hD : d ≤ D) (hq : lay P e = some q) (hc : q.1 = a.length) (h1 : q.2 = false → q.1 = 1) (hcc : c = a.length)
    {xs ys : Array Value} : ∀ (m o : Nat), o + m * a.length ≤ xs.size → o + m * a.length ≤ ys.size → ∀ k, o = k * a.length → ∀ r,
      eqCells (rows m a) ((xs.toList.drop o).take (m * a.length)) ((ys.toList.drop o).take (m * a.length)) = some r →
      (Op.eqItems D e c xs ys (List.range' k m)).run P w = .ok r w
  | 0, o, _, _, k, _, r, hr => by
    simp only [rows, Nat.zero_mul, List.take_zero, eqCells, Option.some.injEq] at hr
    subst hr
    simp [Op.eqItems]
  | m + 1, o, hx, hy, k, hk, r, hr => by
    have e1 : (m + 1) * a.length = a.length + m * a.length := by rw [Nat.add_mul, Nat.one_mul, Nat.add_comm]
    rw [e1] at hx hy hr
    rw [List.take_add, List.take_add, List.drop_drop, List.drop_drop] at hr
    simp only [rows] at hr
    obtain ⟨r1, hr1, ht, hf⟩ := eqCells_app (by simp; omega) (by simp; omega) hr
    have p1 := run_part' (P := P) (w := w) (cs := xs) (off := o) hq (by omega) h1
    have p2 := run_part' (P := P) (w := w) (cs := ys) (off := o) hq (by omega) h1
    have p3 := h D hD q hq hc _ _ (by simp; omega) (by simp; omega) r1 hr1
    rw [List.range'_succ]
    simp only [Op.eqItems, Sem.run_bind, hcc, ← hk, p1, p2, hc, p3, Result.andThen_ok]
    cases r1 with
    | false => simp [hf rfl]
    | true =>
      simp only [Bool.not_true, Bool.false_eq_true, if_false]
      have ih := eqItems_sound h hD hq hc h1 rfl m (o + a.length) (by omega) (by omega) (k + 1) (by rw [Nat.add_mul, Nat.one_mul]; omega) r (ht rfl)
      exact ih
theorem eqFields_sound {d D : Nat} (hD : d ≤ D) (h : ∀ t ls, leaves P d t = some ls → EqAt P w d t ls) (xs ys : Array Value) : ∀ (fs : List Field) (o : Nat) (ls : List (Option IntKind)),
    leavesF (leaves P d) P.cellsOf o fs = some ls → o + ls.length ≤ xs.size → o + ls.length ≤ ys.size → (∀ f ∈ fs, ∃ q, lay P f.type = some q) → ∀ r,
      eqCells ls ((xs.toList.drop o).take ls.length) ((ys.toList.drop o).take ls.length) = some r →
      (Op.eqFields D xs ys fs).run P w = .ok r w
  | [], o, ls, hl, _, _, _, r, hr => by
    simp only [leavesF, Option.some.injEq] at hl
    subst hl
    simp only [List.length_nil, List.take_zero, eqCells, Option.some.injEq] at hr
    subst hr
    simp [Op.eqFields]
  | f :: fs, o, ls, hl, hx, hy, hf, r, hr => by
    simp only [leavesF, bind, Option.bind_eq_some_iff, pure] at hl
    obtain ⟨a, ha, b, hb, hl⟩ := hl
    split at hl
    · rename_i hc
      cases hl
      simp only [Bool.and_eq_true, bne_iff_ne, ne_eq, beq_iff_eq] at hc
      obtain ⟨⟨hn, ho⟩, hsz⟩ := hc
      obtain ⟨q, hq⟩ := hf f (List.mem_cons_self)
      have hq1 : q.1 = a.length := by
        obtain ⟨_, _, _, i, hi, hs, _⟩ := lay_spec (w := w) hq
        rw [← hs, ← hsz]; simp [Program.cellsOf, hi]
      have hg := leaves_lay ha hq
      rw [List.length_append, List.take_add, List.take_add, List.drop_drop, List.drop_drop] at hr
      rw [List.length_append] at hx hy
      obtain ⟨r1, hr1, ht, hff⟩ := eqCells_app (by simp; omega) (by simp; omega) hr
      have p1 := run_part' (P := P) (w := w) (cs := xs) (off := o) hq (by omega) (fun h => by rw [hq1]; exact hg h)
      have p2 := run_part' (P := P) (w := w) (cs := ys) (off := o) hq (by omega) (fun h => by rw [hq1]; exact hg h)
      have p3 := h _ _ ha D hD q hq hq1 _ _ (by simp; omega) (by simp; omega) r1 hr1
      simp only [Op.eqFields, hn, not_false_eq_true, if_true, Sem.run_bind, ho, p1, p2, hq1, p3, Result.andThen_ok, ne_eq]
      cases r1 with
      | false => simp [hff rfl]
      | true =>
        simp only [Bool.not_true, Bool.false_eq_true, if_false]
        exact eqFields_sound hD h xs ys fs (o + a.length) b hb (by omega) (by omega) (fun f hf' => hf f (List.mem_cons_of_mem _ hf')) r (ht rfl)
    · cases hl
theorem lay_of_under {t : TypeId} {u : TypeDesc} (hu : P.underlying t = some u) : ∃ q, lay P t = some q := by
  have hi : ∃ i, P.info? t = some i := by
    unfold Program.underlying at hu
    split at hu
    · rename_i h; exact ⟨_, h⟩
    · rename_i h; exact ⟨_, h⟩
    · cases hu
  obtain ⟨i, hi⟩ := hi
  unfold lay
  rw [hi, hu]
  cases u <;> exact ⟨_, rfl⟩
theorem leaves_under {d : Nat} {t : TypeId} {ls : List (Option IntKind)} (hl : leaves P d t = some ls) : ∃ u, P.underlying t = some u := by
  cases d with
  | zero => cases hl
  | succ d =>
    simp only [leaves] at hl
    split at hl
    · exact ⟨_, ‹_›⟩
    · exact ⟨_, ‹_›⟩
    · exact ⟨_, ‹_›⟩
    · exact ⟨_, ‹_›⟩
    · cases hl
theorem leavesF_lay {d : Nat} : ∀ {fs : List Field} {o : Nat} {ls}, leavesF (leaves P d) P.cellsOf o fs = some ls → ∀ f ∈ fs, ∃ q, lay P f.type = some q
  | [], _, _, _, f, hf => by cases hf
  | x :: fs, o, ls, hl, f, hf => by
    simp only [leavesF, bind, Option.bind_eq_some_iff, pure] at hl
    obtain ⟨a, ha, b, hb, hl⟩ := hl
    cases hf with
    | head => obtain ⟨u, hu⟩ := leaves_under ha; exact lay_of_under hu
    | tail _ hf => exact leavesF_lay hb f hf
def aggD : TypeDesc → Bool
  | .struct _ | .array _ _ => true
  | _ => false
theorem lay_agg {t : TypeId} {q : Nat × Bool} (hq : lay P t = some q) {u : TypeDesc} (hu : P.underlying t = some u) : q.2 = aggD u := by
  unfold lay at hq
  split at hq
  · rename_i h; rw [hu] at h; cases h; cases hq; rfl
  · rename_i h; rw [hu] at h; cases h; cases hq; rfl
  · rename_i h1 h2 _ h
    rw [hu] at h
    cases h
    cases hq
    cases u <;> first | rfl | exact (h1 _ rfl).elim | exact (h2 _ _ rfl).elim
  · cases hq
theorem list1 {l : List Value} (h : l.length = 1) : ∃ x, l = [x] := by
  match l, h with
  | [x], _ => exact ⟨x, rfl⟩
theorem leaves_eq : ∀ (d : Nat) (t : TypeId) (ls : List (Option IntKind)), leaves P d t = some ls → EqAt P w d t ls
  | 0, _, _, h => by cases h
  | d + 1, t, ls, hl => by
    intro D hD q hq hq1 xs ys hx hy r hr
    obtain ⟨D, rfl⟩ : ∃ m, D = m + 1 := ⟨D - 1, by omega⟩
    have hl0 := hl
    simp only [leaves] at hl
    split at hl
    · rename_i hu
      cases hl
      have hg : q.2 = false := lay_agg hq hu
      rw [hg]
      obtain ⟨x, rfl⟩ := list1 hx
      obtain ⟨y, rfl⟩ := list1 hy
      · cases x <;> cases y <;> simp only [eqCells] at hr <;> first | (cases hr; done) | skip
        rename_i a b
        show (Op.equalIn (D + 1) t (.bool a) (.bool b)).run P w = .ok r w
        rw [run_equalIn_bool w D t a b hu]
        by_cases h : a = b
        · rw [if_pos h] at hr; cases hr; simp [h]
        · rw [if_neg h] at hr; cases hr; simp [h]
    · rename_i k hu
      cases hl
      have hg : q.2 = false := lay_agg hq hu
      rw [hg]
      obtain ⟨x, rfl⟩ := list1 hx
      obtain ⟨y, rfl⟩ := list1 hy
      · cases x <;> cases y <;> simp only [eqCells] at hr <;> first | (cases hr; done) | skip
        rename_i k1 a k2 b
        split at hr
        · rename_i hk
          obtain ⟨rfl, rfl⟩ := hk
          show (Op.equalIn (D + 1) t (.int _ a) (.int _ b)).run P w = .ok r w
          rw [run_equalIn_int w D t _ _ a b hu]
          by_cases h : a = b
          · rw [if_pos h] at hr; cases hr; simp [h]
          · rw [if_neg h] at hr; cases hr; simp [h]
        · cases hr
    · rename_i m e hu
      simp only [bind, Option.bind_eq_some_iff, pure] at hl
      obtain ⟨a, ha, hl⟩ := hl
      split at hl
      · rename_i hc
        cases hl
        have hc : P.cellsOf e = a.length := by simpa using hc
        have hg : q.2 = true := lay_agg hq hu
        rw [hg]
        obtain ⟨u, hue⟩ := leaves_under ha
        obtain ⟨qe, hqe⟩ := lay_of_under hue
        obtain ⟨_, _, _, i, hi, hs, _⟩ := lay_spec (w := w) hqe
        have hqe1 : qe.1 = a.length := by rw [← hs, ← hc]; simp [Program.cellsOf, hi]
        have hlen : ∀ m, (rows m a).length = m * a.length := by
          intro m
          induction m with
          | zero => simp [rows]
          | succ m ih => simp only [rows, List.length_append, ih]; rw [Nat.add_mul, Nat.one_mul, Nat.add_comm]
        rw [hlen] at hx hy
        show (Op.equalIn (D + 1) t (.agg xs.toArray) (.agg ys.toArray)).run P w = .ok r w
        rw [run_equalIn_array w D xs.toArray ys.toArray hu hi, List.range_eq_range']
        have := eqItems_sound (P := P) (w := w) (leaves_eq d e a ha) (show d ≤ D by omega) hqe hqe1 (fun h => by rw [hqe1]; exact leaves_lay ha hqe h) hc
          (xs := xs.toArray) (ys := ys.toArray) m 0 (by simp; omega) (by simp; omega) 0 (by simp) r (by simpa [List.take_of_length_le (Nat.le_of_eq hx), List.take_of_length_le (Nat.le_of_eq hy)] using hr)
        exact this
      · cases hl
    · rename_i fs hu
      split at hl
      · cases hl
      · rename_i hst
        have hg : q.2 = true := lay_agg hq hu
        rw [hg]
        have hfs : P.fieldsOf t = fs := by simp [Program.fieldsOf, hu]
        show (Op.equalIn (D + 1) t (.agg xs.toArray) (.agg ys.toArray)).run P w = .ok r w
        rw [run_equalIn_struct w D t _ _ (by rw [hfs]; exact hu) (by simpa using hst), hfs]
        exact eqFields_sound (P := P) (w := w) (show d ≤ D by omega) (fun t ls h => leaves_eq d t ls h) xs.toArray ys.toArray fs.toList 0 ls hl (by simp; omega) (by simp; omega) (leavesF_lay hl) r
          (by simpa [List.take_of_length_le (Nat.le_of_eq hx), List.take_of_length_le (Nat.le_of_eq hy)] using hr)
    · cases hl
theorem eqCells_rel {C : Cx} : ∀ {ls : List (Option IntKind)} {xs ys xs' ys' : List Value} {r : Bool}, VRs C xs xs' → VRs C ys ys' → eqCells ls xs ys = some r → eqCells ls xs' ys' = some r := by
  intro ls
  induction ls with
  | nil =>
    intro xs ys xs' ys' r hx hy h
    cases xs with
    | cons => simp [eqCells] at h
    | nil => cases ys with
      | cons => simp [eqCells] at h
      | nil =>
        have h1 := hx.1
        have h2 := hy.1
        cases xs' with
        | cons => simp at h1
        | nil => cases ys' with
          | cons => simp at h2
          | nil => exact h
  | cons l ls ih =>
    intro xs ys xs' ys' r hx hy h
    cases xs with
    | nil => simp [eqCells] at h
    | cons x xs => cases ys with
      | nil => cases l <;> cases x <;> simp [eqCells] at h
      | cons y ys =>
        cases xs' with
        | nil => have := hx.1; simp at this
        | cons x' xs' => cases ys' with
          | nil => have := hy.1; simp at this
          | cons y' ys' =>
            have hx0 : VR C x x' := hx.2 0 (by simp) (by simp)
            have hy0 : VR C y y' := hy.2 0 (by simp) (by simp)
            have hx1 : VRs C xs xs' := ⟨by simpa using hx.1, fun i a b => hx.2 (i + 1) (by simpa using a) (by simpa using b)⟩
            have hy1 : VRs C ys ys' := ⟨by simpa using hy.1, fun i a b => hy.2 (i + 1) (by simpa using a) (by simpa using b)⟩
            cases l with
            | some k =>
              cases x <;> cases y <;> simp only [eqCells] at h <;> first | (cases h; done) | skip
              rw [hx0.int_inv, hy0.int_inv]
              simp only [eqCells]
              split at h
              · rename_i hk
                rw [if_pos hk]
                split at h
                · rename_i he; rw [if_pos he]; exact ih hx1 hy1 h
                · rename_i he; rw [if_neg he]; exact h
              · cases h
            | none =>
              cases x <;> cases y <;> simp only [eqCells] at h <;> first | (cases h; done) | skip
              rw [hx0.bool_inv, hy0.bool_inv]
              simp only [eqCells]
              split at h
              · rename_i he; rw [if_pos he]; exact ih hx1 hy1 h
              · rename_i he; rw [if_neg he]; exact h
theorem run_not {s : Sem Bool} {b : Bool} (h : s.run P w = .ok b w) : Sem.run P (do let r ← s; pure (Value.bool r)) w = .ok (.bool b) w ∧ Sem.run P (do let r ← s; pure (Value.bool (!r))) w = .ok (.bool (!b)) w := by
  simp [h]
theorem eq_sound {C : Cx} {op : BinOp} {neg : Bool} (hop : (op = .eql ∧ neg = false) ∨ (op = .neq ∧ neg = true)) {t : TypeId} {x y : Operand} {c : EqK} (hc : eqKind P y t = some c) {u v u' v' : Value}
    (hu : VR C u u') (hv : VR C v v') {b : Bool} (hb : eqV c u v = some b) :
    Sem.run P (do eqGuard op t x y u' v'; binOp op t u' v') w = .ok (.bool (b != neg)) w := by
  unfold eqKind at hc
  unfold eqV at hb
  split at hb
  · -- bools
    rename_i p q
    cases hb
    rw [hu.bool_inv, hv.bool_inv, eqGuard_at_bool]
    have ht : P.underlying t = some .bool := by
      split at hc <;> first | assumption | (cases hc; done) | (split at hc <;> cases hc; done) | skip
      all_goals (split at hc <;> first | (cases hc; done) | (obtain ⟨_, _, h⟩ := Option.bind_eq_some_iff.1 hc; split at h <;> cases h))
    have he := run_equal_bool w t p q ht
    obtain ⟨h1, h2⟩ := run_not he
    rcases hop with ⟨rfl, rfl⟩ | ⟨rfl, rfl⟩
    · simp only [binOp]; simpa using h1
    · simp only [binOp]; simpa using h2
  · rename_i p q
    cases hb
    rw [hu.string_inv, hv.string_inv, eqGuard_at_string]
    rcases hop with ⟨rfl, rfl⟩ | ⟨rfl, rfl⟩
    · simp [binOp, Op.stringOp]
    · simp [binOp, Op.stringOp]
  · rename_i p _ _
    cases hb
    have hv' : v' = .slice none 0 0 := by cases hv; rfl
    subst hv'
    have ht : ∃ e, P.underlying t = some (.slice e) := by
      split at hc <;> first | exact ⟨_, ‹_›⟩ | (cases hc; done) | (split at hc <;> cases hc; done) | skip
      all_goals (split at hc <;> first | (cases hc; done) | (obtain ⟨_, _, h⟩ := Option.bind_eq_some_iff.1 hc; split at h <;> cases h))
    obtain ⟨e, ht⟩ := ht
    have hu' : ∃ p' l' c', u' = .slice p' l' c' ∧ p'.isNone = p.isNone := by
      cases hu with
      | nilslice => exact ⟨_, _, _, rfl, rfl⟩
      | slice h _ _ _ => exact ⟨_, _, _, rfl, rfl⟩
      | empty _ => exact ⟨_, _, _, rfl, rfl⟩
    obtain ⟨p', l', c', rfl, hp⟩ := hu'
    rw [eqGuard_at_slice, ← hp]
    have he := run_equal_slice_nil w t e p' l' c' ht
    obtain ⟨h1, h2⟩ := run_not he
    rcases hop with ⟨rfl, rfl⟩ | ⟨rfl, rfl⟩
    · simp only [binOp]; simpa using h1
    · simp only [binOp]; simpa using h2
  · cases hb
    have e1 : u' = .nilIface := by cases hu; rfl
    have e2 : v' = .nilIface := by cases hv; rfl
    subst e1; subst e2
    have ht : ∃ ms, P.underlying t = some (.interface ms) ∧ isNilConst y = true := by
      split at hc <;> first | (cases hc; done) | (split at hc <;> first | exact ⟨_, ‹_›, ‹_›⟩ | (cases hc; done) | (obtain ⟨_, _, h⟩ := Option.bind_eq_some_iff.1 hc; split at h <;> cases h))
    obtain ⟨ms, ht, hy⟩ := ht
    have hy' : ∃ z, y = .const z := by unfold isNilConst at hy; split at hy <;> first | exact ⟨_, rfl⟩ | cases hy
    obtain ⟨z, rfl⟩ := hy'
    rw [eqGuard_nil_constR]
    have he : (Op.equal t .nilIface .nilIface).run P w = .ok true w := run_equal_nil_nil w t (by rw [ht]; simp [Program.methodsAt, ht])
    obtain ⟨h1, h2⟩ := run_not he
    rcases hop with ⟨rfl, rfl⟩ | ⟨rfl, rfl⟩
    · simp only [binOp]; simpa using h1
    · simp only [binOp]; simpa using h2
  · cases hb
    have e1 : ∃ t' z, u' = .iface t' z := by cases hu; exact ⟨_, _, rfl⟩
    have e2 : v' = .nilIface := by cases hv; rfl
    obtain ⟨t', z, rfl⟩ := e1; subst e2
    have ht : ∃ ms, P.underlying t = some (.interface ms) := by
      split at hc <;> first | (cases hc; done) | (split at hc <;> first | exact ⟨_, ‹_›⟩ | (cases hc; done) | (obtain ⟨_, _, h⟩ := Option.bind_eq_some_iff.1 hc; split at h <;> cases h))
    obtain ⟨ms, ht⟩ := ht
    rw [eqGuard_at_iface]
    have he : (Op.equal t (.iface t' z) .nilIface).run P w = .ok false w := run_equal_held_nil w t t' z (by rw [ht]; simp [Program.methodsAt, ht])
    obtain ⟨h1, h2⟩ := run_not he
    rcases hop with ⟨rfl, rfl⟩ | ⟨rfl, rfl⟩
    · simp only [binOp]; simpa using h1
    · simp only [binOp]; simpa using h2
  · -- rows
    rename_i ls xs ys
    split at hb
    · rename_i hsz
      obtain ⟨xs', rfl, hx, _⟩ := hu.agg_inv
      obtain ⟨ys', rfl, hy, _⟩ := hv.agg_inv
      have hr := eqCells_rel hx hy hb
      have ht : P.eqGuardType P.depth t = false ∧ leaves P 8 t = some ls ∧ ∃ u, P.underlying t = some u ∧ aggD u = true ∧ P.cellsOf t = ls.length := by
        split at hc <;> first
          | (cases hc; done)
          | (split at hc <;> first
              | (cases hc; done)
              | (rename_i hu hg; obtain ⟨ls', hls, h⟩ := Option.bind_eq_some_iff.1 hc; split at h <;> first | (cases h; done) | (rename_i hlen; cases h; exact ⟨by simpa using hg, hls, _, hu, rfl, hlen⟩)))
      obtain ⟨hg, hls, uu, huu, hag, hlen⟩ := ht
      obtain ⟨q, hq⟩ := lay_of_under huu
      have hq2 : q.2 = true := by rw [lay_agg hq huu]; exact hag
      have hq1 : q.1 = ls.length := by
        obtain ⟨_, _, _, i, hi, hs, _⟩ := lay_spec (w := w) hq
        rw [← hs, ← hlen]; simp [Program.cellsOf, hi]
      have he := leaves_eq (P := P) (w := w) 8 t ls hls 10000 (by omega) q hq hq1 xs'.toList ys'.toList (by rw [← hx.1]; exact hsz.1) (by rw [← hy.1]; exact hsz.2) b hr
      rw [hq2] at he
      have he : (Op.equalIn 10000 t (.agg xs') (.agg ys')).run P w = .ok b w := he
      rw [Sem.run_bind, run_eqGuard_agg w op t x y xs' ys' hg, Result.andThen_ok]
      rcases hop with ⟨rfl, rfl⟩ | ⟨rfl, rfl⟩
      · rw [run_eql_struct, he]; simp
      · rw [run_neq_struct, he]; simp
    · cases hb
  · cases hb
end
end Fb
