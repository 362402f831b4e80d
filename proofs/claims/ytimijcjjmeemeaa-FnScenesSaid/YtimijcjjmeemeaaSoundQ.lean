/- One statement of a region. -/
import Derived.Test.YtimijcjjmeemeaaSoundR
set_option linter.unusedVariables false
set_option linter.unusedSimpArgs false
namespace Fb
open Go

section
variable {P : Program} {inv : FuncId → Option Nat} {isPure : Nat → Bool} {h : Hint} {nt : Nat} {ops : Array Oper} {am : List (Nat × Nat)}
variable {cl : Cl} {n0 B0 : Nat} {wb : Bool} {C : Cx} {a : Act} {w : World} {Df : Nat → Prop} {e : Env}
theorem VR.bool_of {v : Value} {b : Bool} (hr : VR C v (.bool b)) : v = .bool b := by cases hr; rfl
theorem guard_ok {o : Oper} {st : Stm} (hok : StmOk P inv isPure h nt ops am o st) (hg : ∀ t b, st.g = some (t, b) → VR C (e t) (a.tmps.getD t undef)) : Region.wanted o (yielded ops a.tmps) = wanted e st.g := by
  have h1 := hok.g
  cases hog : o.guard with
  | none =>
    rw [hog] at h1
    simp only [guardOf, Option.some.injEq] at h1
    rw [← h1]
    simp [Region.wanted, hog, wanted]
  | some jw =>
    obtain ⟨j, b⟩ := jw
    rw [hog] at h1
    simp only [guardOf] at h1
    obtain ⟨t, ht, h1⟩ := Option.bind_eq_some_iff.1 h1
    split at h1
    · have h2 : st.g = some (t, b) := (Option.some.inj h1).symm
      have hv := hg t b h2
      rw [h2]
      have hy : yielded ops a.tmps j = match a.tmps.getD t undef with | .bool b => some b | _ => none := by
        unfold yielded
        have : (ops[j]?).bind (·.dst) = some t := ht
        rw [this]
        simp only [Option.bind_some, Array.getD_eq_getD_getElem?]
        cases a.tmps[t]? with
        | none => rfl
        | some x => cases x <;> rfl
      simp only [Region.wanted, hog, wanted, hy]
      cases het : e t with
      | bool c =>
        rw [het] at hv
        rw [hv.bool_inv]
        cases c <;> cases b <;> rfl
      | _ =>
        rw [het] at hv
        generalize a.tmps.getD t undef = z at hv
        cases z with
        | bool c => have := hv.bool_of; cases this
        | _ => rfl
    · cases h1
theorem no_ev1 {o : Op1} (hm : o.meets = .no) {H : Heap} : ev1 cl n0 wb e H o = (nval e o).map fun v => (v, H) := by
  cases o <;> first | rfl | cases hm
theorem no_state {c : Op1} (hm : c.meets = .no) (h1 : adrVar c = none) (h2 : ∀ p s m x, c ≠ .stV p s m x) : c.state = false := by
  cases c <;> first | rfl | cases hm; done | cases h1; done | exact absurd rfl (h2 _ _ _ _)
theorem stV_isVar {l : Look} (hA : At C h l e a w) {o : Oper} {p m : Nat} {s : Option Nat} {x : Opd} (hc : comp1 P inv isPure h l o = some (.stV p s m x)) {v : Value} (hv : nval e (.stV p s m x) = some v) : isVar h p = true := by
  obtain ⟨dst, op, ty, pos, after, guard⟩ := o
  have hsp := comp1_spec hc
  cases hsp with
  | other hx => cases hx
  | @stV t x0 y0 _ _ _ q hin hy hq hq0 =>
    simp only [nval] at hv
    obtain ⟨off, ho, _⟩ := Option.bind_eq_some_iff.1 hv
    exact (inVar_is hA hin ho).1
theorem stV_vars {l : Look} (ham : ∀ s p, l.var s = some p → h.vars.contains p = true) {o : Oper} {p m : Nat} {s : Option Nat} {x : Opd} (hc : comp1 P inv isPure h l o = some (.stV p s m x)) : h.vars.contains p = true := by
  obtain ⟨dst, op, ty, pos, after, guard⟩ := o
  have hsp := comp1_spec hc
  cases hsp with
  | other hx => cases hx
  | @stV t x0 y0 _ _ _ q hin hy hq hq0 =>
    cases x0 with
    | tmp t =>
      simp only [inVar] at hin
      split at hin
      · rename_i hv
        cases hin
        simp only [Bool.and_eq_true] at hv
        exact hv.1
      · obtain ⟨p', hp, he⟩ := Option.map_eq_some_iff.1 hin
        cases he
        exact ham _ _ hp
    | _ => cases hin
/-- An operation that leaves the blocks alone. -/
theorem no_step (hi : Inv inv h C) {o : Oper} {st : Stm} (hok : StmOk P inv isPure h nt ops am o st) (hc : comp1 P inv isPure h ⟨am, looksAt (slotsOf ops) o⟩ o = some st.o) (hm : st.o.meets = .no)
    (hS : St h am B0 nt Df C e a w) (hA : At C h ⟨am, looksAt (slotsOf ops) o⟩ e a w) (hW : WR C w) {v : Value} (hv : nval e st.o = some v)
    (hno : ∀ d, st.d = some d → h.vars.contains d = true → (∀ p s m x, st.o ≠ .stV p s m x) → ∀ s, amFind am s = some d → offV (e s) = none) (n1 : Nat) (hB : B0 ≤ w.heap.size) :
    Ends P o a w fun v' w' => WR C w' ∧ Ext n1 B0 C w C w' ∧ St h am B0 nt (fun s => Df s ∨ st.d = some s) C (put e st.d v) (a.put o.dst v') w' := by
  have hd := hok.d
  have hok' := hok.ok
  unfold dstOk at hok'
  cases hadr : adrVar st.o with
  | some p =>
    rw [hadr] at hok'
    cases hod : o.dst with
    | none => rw [hod] at hok'; cases hok'
    | some d =>
      rw [hod] at hok'
      simp only [Bool.and_eq_true, Bool.not_eq_true', beq_iff_eq] at hok'
      have hsd : st.d = some d := by
        rw [hd]; unfold dstOf; rw [hod]
        cases hso : st.o <;> first | rfl | (rw [hso] at hadr; cases hadr)
      have haf : amFind am d = some p := hok'.2
      refine (var_adr hi hA hc hadr hv).mono fun v' w' hR => ?_
      obtain ⟨rfl, h1, h2, B, off, h3, rfl, h5⟩ := hR
      refine ⟨hW, .refl hW, ?_⟩
      rw [hsd]
      refine (hS.put_adr (v := v) (v' := .pointer (some ⟨B, off, none⟩)) (hok.lt d hod) haf fun o' ho' => ?_).weak fun s hs => hs.imp id fun h => (Option.some.inj h).symm
      rw [h3] at ho'
      cases ho'
      exact ⟨h1, h2, B, rfl, h5⟩
  | none =>
    rw [hadr] at hok'
    by_cases hst : ∃ p s m x, st.o = .stV p s m x
    · obtain ⟨p, s, m, x, hst⟩ := hst
      rw [hst] at hok' hc hv
      have hod : o.dst = none := by simpa using hok'
      have hsd : st.d = some p := by rw [hd, hst]; rfl
      refine (var_store hi hA hc hv).mono fun v' w' hR => ?_
      obtain ⟨B, cs', h1, h2, rfl, h4, h5, h6⟩ := hR
      have hpv : isVar h p = true := stV_isVar hA hc hv
      obtain ⟨B', g1, g2, g3, g4⟩ := hS.var p hpv h4
      rw [h1] at g1
      cases g1
      refine ⟨hW.setRow g4, ?_, ?_⟩
      · refine ⟨.refl C, Nat.le_refl _, fun b B' δ hs => .inl ⟨hs, (hW.lt hs).1⟩, by simp, fun b _ hs => ⟨hs, rfl⟩, fun B' hlt _ => setRow_other w B B' _ (by omega), ⟨rfl, rfl, rfl⟩, fun a _ => frozen_setRow⟩
      · rw [hsd, hod]
        exact (hS.store hpv h4 h1 h5 h6).weak fun s hs => hs.imp id fun h => (Option.some.inj h).symm
    · have hst' : ∀ p s m x, st.o ≠ .stV p s m x := fun p s m x e => hst ⟨p, s, m, x, e⟩
      have hsd : st.d = o.dst := by
        rw [hd]; unfold dstOf
        split
        · exact absurd ‹_› (hst' _ _ _ _)
        · rfl
      have hok2 : match o.dst with
          | some d => ((Look.var ⟨am, looksAt (slotsOf ops) o⟩ d).isNone && (!h.vars.contains d || (isNew o && h.keep.contains d))) = true
          | none => True := by
        revert hok'
        cases hso : st.o <;> first | exact absurd hso (hst' _ _ _ _) | (cases o.dst <;> intro h <;> first | trivial | exact h)
      by_cases hnew : isNew o = true ∧ ∃ d, o.dst = some d ∧ h.vars.contains d = true
      · obtain ⟨hnew, d, hod, hdv⟩ := hnew
        refine (var_new hi hA hod hdv hnew hc hv).mono fun v' w' hR => ?_
        obtain ⟨rfl, cs, elem, rfl, hcell⟩ := hR
        have hE : Ext n1 w.heap.size C w C (w.alloc (.cells cs elem)) :=
          ⟨.refl C, Nat.le_refl _, fun b B' δ hs => .inl ⟨hs, (hW.lt hs).1⟩, by rw [alloc_size]; exact Nat.le_succ _, fun b _ hs => ⟨hs, rfl⟩, fun B' hlt _ => alloc_old hlt, ⟨rfl, rfl, rfl⟩, fun a _ => frozen_alloc⟩
        have hS' := hS.frame hE
        refine ⟨hW.alloc, hE.weaken (Nat.le_refl _) hB, ?_⟩
        rw [hsd, hod]
        refine (hS'.put_var (hok.lt d hod) hdv (fun s hs => hno d (hsd.trans hod) hdv hst' s hs) fun hh => ?_).weak fun s hs => hs.imp id fun h => (Option.some.inj h).symm
        obtain ⟨g1, g2⟩ := hcell hh
        refine ⟨w.heap.size, rfl, ⟨cs, elem, alloc_new, g1, g2⟩, hB, fun b δ hs => ?_, fun p hp hh' ht => ?_⟩
        · have := (hW.lt hs).2
          simp at this
        · obtain ⟨B, k1, k2, _⟩ := hS.var p hp hh'
          rw [ht] at k1
          cases k1
          have := k2.lt
          omega
      · have hnn : isNew o = false := by
          by_cases hn : isNew o = true
          · exfalso
            have hsp := comp1_spec hc
            obtain ⟨dst, op, ty, pos, after, guard⟩ := o
            cases op with
            | alloc t =>
              simp only [comp1, bind, Option.bind_eq_some_iff] at hc
              obtain ⟨z, hz, q, hq, hc⟩ := hc
              split at hc
              · cases hc
              · split at hc
                · rename_i hany
                  simp only [Option.any_eq_true] at hany
                  obtain ⟨d, h1, h2⟩ := hany
                  exact hnew ⟨rfl, d, h1, h2⟩
                · have := Option.some.inj hc
                  rw [← this] at hm; cases hm
            | box t x =>
              simp only [comp1, bind, Option.bind_eq_some_iff] at hc
              obtain ⟨y, hy, q, hq, hc⟩ := hc
              split at hc
              · cases hc
              · split at hc
                · rename_i hany
                  simp only [Option.any_eq_true] at hany
                  obtain ⟨d, h1, h2⟩ := hany
                  exact hnew ⟨rfl, d, h1, h2⟩
                · have := Option.some.inj hc
                  rw [← this] at hm; cases hm
            | _ => cases hn
          · simpa using hn
        refine ((nval_sound hi hA hnn hc hadr hst' hv).ends).mono fun v' w' hR => ?_
        obtain ⟨rfl, hvr⟩ := hR
        refine ⟨hW, .refl hW, ?_⟩
        rw [hsd]
        cases hod : o.dst with
        | none => exact hS.weak fun s hs => hs.resolve_right (fun h => by cases h)
        | some d =>
          rw [hod] at hok2
          simp only [Bool.and_eq_true, Option.isNone_iff_eq_none, Bool.or_eq_true, Bool.not_eq_true', hnn, Bool.false_eq_true, false_and, or_false] at hok2
          exact (hS.put_plain (hok.lt d hod) hok2.2 hok2.1 hvr).weak fun s hs => hs.imp id fun h => (Option.some.inj h).symm
/-- Another value for a slot that is no variable's. -/
theorem plain_step {o : Oper} {st : Stm} (hok : StmOk P inv isPure h nt ops am o st) (hc : comp1 P inv isPure h ⟨am, looksAt (slotsOf ops) o⟩ o = some st.o) (hm : st.o.meets ≠ .no) {v v' : Value} (hS : St h am B0 nt Df C e a w) (hvr : VR C v v') :
    St h am B0 nt (fun s => Df s ∨ st.d = some s) C (put e st.d v) (a.put o.dst v') w := by
  have hd := hok.d
  have hok' := hok.ok
  have hadr : adrVar st.o = none := by cases hso : st.o <;> first | rfl | (rw [hso] at hm; exact absurd rfl hm)
  have hst' : ∀ p s m x, st.o ≠ .stV p s m x := fun p s m x e => by rw [e] at hm; exact hm rfl
  have hsd : st.d = o.dst := by
    rw [hd]; unfold dstOf
    split
    · exact absurd ‹_› (hst' _ _ _ _)
    · rfl
  unfold dstOk at hok'
  rw [hadr] at hok'
  have hok2 : match o.dst with
      | some d => ((Look.var ⟨am, looksAt (slotsOf ops) o⟩ d).isNone && (!h.vars.contains d || (isNew o && h.keep.contains d))) = true
      | none => True := by
    revert hok'
    cases hso : st.o <;> first | exact absurd hso (hst' _ _ _ _) | (cases o.dst <;> intro h <;> first | trivial | exact h)
  rw [hsd]
  cases hod : o.dst with
  | none => exact hS.weak fun s hs => hs.resolve_right (fun h => by cases h)
  | some d =>
    rw [hod] at hok2
    simp only [Bool.and_eq_true, Option.isNone_iff_eq_none, Bool.or_eq_true, Bool.not_eq_true'] at hok2
    have hdv : h.vars.contains d = false := by
      rcases hok2.2 with h1 | ⟨h1, _⟩
      · exact h1
      · cases hdv : h.vars.contains d with
        | false => rfl
        | true =>
          exfalso
          obtain ⟨dst, op, ty, pos, after, guard⟩ := o
          cases hod
          cases op with
          | alloc t =>
            simp only [comp1, bind, Option.bind_eq_some_iff] at hc
            obtain ⟨z, hz, q, hq, hc⟩ := hc
            split at hc
            · cases hc
            · simp only [Option.any_some, hdv, if_true, pure, Option.some.injEq] at hc
              rw [← hc] at hm; exact hm rfl
          | box t x =>
            simp only [comp1, bind, Option.bind_eq_some_iff] at hc
            obtain ⟨y, hy, q, hq, hc⟩ := hc
            split at hc
            · cases hc
            · simp only [Option.any_some, hdv, if_true, pure, Option.some.injEq] at hc
              rw [← hc] at hm; exact hm rfl
          | _ => cases h1
    exact (hS.put_plain (hok.lt d hod) hdv hok2.1 hvr).weak fun s hs => hs.imp id fun h => (Option.some.inj h).symm
/-- A statement that is passed by. -/
theorem skip_step {o : Oper} {st : Stm} (hok : StmOk P inv isPure h nt ops am o st) (hS : St h am B0 nt Df C e a w)
    (hno : ∀ d, st.d = some d → h.vars.contains d = true → (∀ p s m x, st.o ≠ .stV p s m x) → ∀ s, amFind am s = some d → offV (e s) = none) :
    St h am B0 nt (fun s => Df s ∨ st.d = some s) C (skip st.o e st.d) (a.put o.dst undef) w := by
  have hd := hok.d
  have hok' := hok.ok
  unfold dstOk at hok'
  by_cases hst : ∃ p s m x, st.o = .stV p s m x
  · obtain ⟨p, s, m, x, hst⟩ := hst
    have hsd : st.d = some p := by rw [hd, hst]; rfl
    rw [hst] at hok'
    have hod : o.dst = none := by simpa [adrVar] using hok'
    rw [hst, hod, hsd]
    refine ⟨fun s' h1 h2 h3 => ?_, hS.var, hS.dist, hS.adr, hS.amok, hS.defers, hS.size⟩
    rcases h3 with h3 | h3
    · exact hS.plain s' h1 h2 h3
    · cases h3
      have hc : comp1 P inv isPure h ⟨am, looksAt (slotsOf ops) o⟩ o = some (.stV p s m x) := by
        rcases hok.c with hc | hc
        · rw [hst] at hc; exact hc
        · rw [hst] at hc; cases hc
      have := stV_vars (l := ⟨am, looksAt (slotsOf ops) o⟩) (fun s p hs => (hS.amok s p hs).2.2) hc
      rw [this] at h1; cases h1
  · have hst' : ∀ p s m x, st.o ≠ .stV p s m x := fun p s m x e => hst ⟨p, s, m, x, e⟩
    have hsk : skip st.o e st.d = put e st.d U := by
      unfold skip
      split
      · exact absurd ‹_› (hst' _ _ _ _)
      · rfl
    have hsd : st.d = o.dst := by
      rw [hd]; unfold dstOf
      split
      · exact absurd ‹_› (hst' _ _ _ _)
      · rfl
    rw [hsk, hsd]
    cases hod : o.dst with
    | none => exact hS.weak fun s hs => hs.resolve_right (fun h => by cases h)
    | some d =>
      have fin : ∀ {S : Env → Act → Prop}, S (upd e d U) (a.put (some d) undef) → S (put e (some d) U) (a.put (some d) undef) := fun h => h
      rw [hod] at hok'
      cases hadr : adrVar st.o with
      | some p =>
        rw [hadr] at hok'
        simp only [Bool.and_eq_true, Bool.not_eq_true', beq_iff_eq] at hok'
        have haf : amFind am d = some p := hok'.2
        exact (hS.put_adr (v := U) (v' := undef) (hok.lt d hod) haf fun o' ho' => by cases ho').weak fun s hs => hs.imp id fun h => (Option.some.inj h).symm
      | none =>
        rw [hadr] at hok'
        have hok2 : ((Look.var ⟨am, looksAt (slotsOf ops) o⟩ d).isNone && (!h.vars.contains d || (isNew o && h.keep.contains d))) = true := by
          revert hok'
          cases hso : st.o <;> first | exact absurd hso (hst' _ _ _ _) | exact id
        simp only [Bool.and_eq_true, Option.isNone_iff_eq_none] at hok2
        cases hdv : h.vars.contains d with
        | false => exact (hS.put_plain (hok.lt d hod) hdv hok2.1 VR.u).weak fun s hs => hs.imp id fun h => (Option.some.inj h).symm
        | true => exact (hS.put_var (v := U) (v' := undef) (hok.lt d hod) hdv (fun s hs => hno d (hsd.trans hod) hdv hst' s hs) fun hh => by cases hh).weak fun s hs => hs.imp id fun h => (Option.some.inj h).symm
end
end Fb
