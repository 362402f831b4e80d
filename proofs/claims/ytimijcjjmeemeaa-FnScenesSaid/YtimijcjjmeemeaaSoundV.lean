/- The operations that look at slots alone, one by one. -/
import Derived.Test.YtimijcjjmeemeaaSoundE
import Derived.Laws.Cells
import Derived.Laws.CopyRow
import Derived.Laws.Tables
set_option linter.unusedVariables false
set_option linter.unusedSimpArgs false
namespace Fb
open Go

section
variable {P : Program} {inv : FuncId → Option Nat} {isPure : Nat → Bool} {h : Hint} {C : Cx} {l : Look} {e : Env} {a : Act} {w : World}
theorem mkV_ldv {g : Bool} {cs cs' : List Value} {v : Value} (hs : VRs C cs cs') (hf : Flat cs) (hv : ldv g cs = some v) : VR C v (mkV g cs') := by
  obtain ⟨v', h1, h2⟩ := ldv_sound hs hf hv
  cases g with
  | true => cases h1; exact h2
  | false =>
    cases cs' with
    | nil => cases h1
    | cons y ys => cases h1; exact h2
theorem run_partS {t : TypeId} {q : Nat × Bool} (hq : lay P t = some q) {cs : Array Value} {off : Nat} (hl : off + ldSize q ≤ cs.size) :
    (part t cs off).run P w = .ok (mkV q.2 ((cs.toList.drop off).take (ldSize q))) w := by
  cases hg : q.2 with
  | true =>
    have e1 : ldSize q = q.1 := by simp [ldSize, hg]
    rw [e1] at hl ⊢
    rw [← hg]
    exact run_part' hq hl (fun h => by rw [hg] at h; cases h)
  | false =>
    have e1 : ldSize q = 1 := by simp [ldSize, hg]
    rw [e1] at hl ⊢
    obtain ⟨_, ha, _⟩ := lay_spec (w := w) hq
    have hlt : off < cs.size := by omega
    unfold part
    simp only [Sem.run_bind, ha, Result.andThen_ok, hg, Bool.false_eq_true, if_false, Array.getElem?_eq_getElem hlt, Sem.run_pure, mkV]
    congr 1
    rw [List.drop_eq_getElem_cons (by simpa using hlt)]
    simp
theorem at_spec {m : Nat} {v : Value} {j : Nat} (hv : at' m v = some j) : ∃ k i, v = .int k i ∧ 0 ≤ i ∧ i < (m : Int) ∧ i.toNat = j := by
  unfold at' at hv
  split at hv
  · split at hv
    · rename_i h; cases hv; exact ⟨_, _, rfl, h.1, h.2, rfl⟩
    · cases hv
  · cases hv
theorem bnd_spec {m : Nat} {v : Value} {j : Nat} (hv : bnd m v = some j) : ∃ k i, v = .int k i ∧ 0 ≤ i ∧ i ≤ (m : Int) ∧ i.toNat = j := by
  unfold bnd at hv
  split at hv
  · split at hv
    · rename_i h; cases hv; exact ⟨_, _, rfl, h.1, h.2, rfl⟩
    · cases hv
  · cases hv
theorem run_under {t : TypeId} {u : TypeDesc} (hu : P.underlying t = some u) : (underlying t).run P w = .ok u w := run_underlying hu w
/-- The sum of an address and a number. -/
theorem AR.add {b off v : Nat} {a' : Addr} (hr : AR C ⟨b, off, some v⟩ a') (m : Nat) : AR C ⟨b, off + m, some v⟩ (a'.add m) := by
  cases hr with
  | old hk hv => exact .old hk hv
  | @cur _ _ k B δ hk hs =>
    have e1 : (Addr.mk B (off + δ) none).add m = ⟨B, off + m + δ, none⟩ := by
      unfold Addr.add
      split
      · rename_i h; subst h; rfl
      · simp; omega
    rw [e1]
    exact .cur hk hs
theorem VR.ptr_inv {b off ver : Nat} {v : Value} (hr : VR C (.pointer (some ⟨b, off, some ver⟩)) v) : ∃ a', v = .pointer (some a') ∧ AR C ⟨b, off, some ver⟩ a' := by
  cases hr with | ptr h => exact ⟨_, rfl, h⟩
theorem VR.func_inv {f : Nat} {x y : Array Value} {v : Value} (hr : VR C (.func (.func f) x y) v) : ∃ cs', v = .func (.func (C.ρ f)) #[] cs' := by
  cases hr; exact ⟨_, rfl⟩
theorem VR.slice_inv {a : Addr} {len cap : Nat} {v : Value} (hr : VR C (.slice (some a) len cap) v) :
    (∃ a' cap', v = .slice (some a') len cap' ∧ AR C a a' ∧ len ≤ cap ∧ cap ≤ cap' ∧ Room C a cap') ∨ (len = 0 ∧ cap = 0 ∧ ∃ a' a'', v = .slice (some a') 0 0 ∧ AR C a a'') := by
  cases hr with
  | slice h hl hc hr => exact .inl ⟨_, _, rfl, h, hl, hc, hr⟩
  | empty h => exact .inr ⟨rfl, rfl, _, _, rfl, h⟩
theorem VR.nilslice_inv {len cap : Nat} {v : Value} (hr : VR C (.slice none len cap) v) : len = 0 ∧ cap = 0 ∧ v = .slice none 0 0 := by
  cases hr; exact ⟨rfl, rfl, rfl⟩
theorem run_asInt {k : IntKind} {i : Int} : (asIntOf (.int k i)).run P w = .ok (k, i) w := rfl
theorem foldl_splice {vs : List Value} : ∀ (o : Nat) (cs : Array Value), o + vs.length ≤ cs.size →
    ((vs.zipIdx o).foldl (fun (cs : Array Value) (x : Value × Nat) => cs.setIfInBounds x.2 x.1) cs).toList = splice cs.toList o vs := by
  induction vs with
  | nil => intro o cs hl; simp [splice]
  | cons v vs ih =>
    intro o cs hl
    simp only [List.length_cons] at hl
    rw [List.zipIdx_cons, List.foldl_cons, ih (o + 1) _ (by simp; omega)]
    unfold splice
    simp only [Array.toList_setIfInBounds, List.length_cons]
    rw [List.take_succ_eq_append_getElem (by simp; omega)]
    have h1 : o < cs.toList.length := by simp; omega
    rw [List.take_set_of_le (Nat.le_refl o), List.getElem_set_self, List.append_assoc, List.append_assoc, List.drop_set_of_lt (by omega)]
    simp only [List.cons_append, List.nil_append]
    rw [show o + 1 + vs.length = o + (vs.length + 1) from by omega]
    simp
theorem foldl_shift {vs : List Value} (o : Nat) : ∀ (k : Nat) (cs : Array Value),
    (vs.zipIdx k).foldl (fun (cs : Array Value) (x : Value × Nat) => cs.setIfInBounds (o + x.2) x.1) cs = (vs.zipIdx (o + k)).foldl (fun (cs : Array Value) (x : Value × Nat) => cs.setIfInBounds x.2 x.1) cs := by
  induction vs with
  | nil => intro k cs; rfl
  | cons v vs ih =>
    intro k cs
    rw [List.zipIdx_cons, List.zipIdx_cons, List.foldl_cons, List.foldl_cons, ih]
    rfl
theorem VRs.aggA {l : List Value} {cs' : Array Value} (hr : VRs C l cs'.toList) (hf : Flat l) : VR C (agg l) (.agg cs') := by
  have := hr.mk_agg hf
  simpa using this
/-- Parts that fit each other. -/
def Fits (C : Cx) (place : Nat → Option (Nat × Nat)) : List (Nat × Value) → List (Nat × Nat × Value) → Prop
  | [], [] => True
  | (i, v') :: ps, (o, m, v) :: qs => place i = some (o, m) ∧ m ≠ 0 ∧ VR C v v' ∧ Fits C place ps qs
  | _, _ => False
theorem fill_sound {place : Nat → Option (Nat × Nat)} : ∀ {ps : List (Nat × Value)} {qs : List (Nat × Nat × Value)} {cs : List Value} {cs' : Array Value} {r : List Value},
    Fits C place ps qs → VRs C cs cs'.toList → Flat cs → fill cs qs = some r → ∃ r', Instr.fill place cs' ps = some r' ∧ VRs C r r'.toList ∧ Flat r
  | [], [], cs, cs', r, _, hr, hfl, hf => by cases hf; exact ⟨cs', rfl, hr, hfl⟩
  | [], _ :: _, _, _, _, hp, _, _, _ => hp.elim
  | _ :: _, [], _, _, _, hp, _, _, _ => hp.elim
  | (i, v') :: ps, (o, m, v) :: qs, cs, cs', r, hp, hr, hfl, hf => by
    obtain ⟨h1, h0, h2, h3⟩ := hp
    simp only [fill] at hf
    split at hf
    · rename_i hc
      have hcells := h2.cells (fun h => by have := hc.1; rw [h] at this; exact h0 this.symm)
      have hsz : v'.cells.size = m := by have := hcells.1; simp at this; omega
      have hcs : cs.length = cs'.size := by have := hr.1; simpa using this
      simp only [Instr.fill, h1]
      rw [if_neg (by have := hc.2; simp; omega)]
      have hz : (v'.cells.zipIdx.foldl (fun cs (x : Value × Nat) => cs.setIfInBounds (o + x.2) x.1) cs').toList = splice cs'.toList o v'.cells.toList := by
        rw [← foldl_splice o cs' (by have := hc.2; simp only [Array.length_toList]; omega), ← Array.foldl_toList]
        congr 1
        rw [Array.toList_zipIdx, foldl_shift o 0 cs']
        rfl
      refine fill_sound (cs' := v'.cells.zipIdx.foldl (fun cs (x : Value × Nat) => cs.setIfInBounds (o + x.2) x.1) cs') h3 ?_ ((hfl.take.append h2.flat).append hfl.drop) hf
      rw [hz]
      unfold splice
      refine (hr.take.append hcells).append ?_
      have := hcells.1
      rw [this]
      exact hr.drop
    · cases hf
/-- Operands, in a row. -/
theorem opds_sound (hi : Inv inv h C) (hA : At C h l e a w) : ∀ {xs : List Operand} {ys : List Opd}, opds inv h l xs = some ys → VRs C (ys.map (·.ev e)) (xs.map a.eval)
  | [], ys, hc => by
    have : ys = [] := by simpa [opds] using hc.symm
    subst this; exact .nil
  | x :: xs, ys, hc => by
    simp only [opds, List.mapM_cons, bind, Option.bind_eq_some_iff, pure, Option.some.injEq] at hc
    obtain ⟨y, hy, ys', hys, rfl⟩ := hc
    exact .cons (opd_sound hi hA hy) (opds_sound hi hA hys)
theorem parts_sound (hi : Inv inv h C) (hA : At C h l e a w) {place : Nat → Option (Nat × Nat)} : ∀ {ps : List (Nat × Operand)} {qs : List (Nat × Nat × Opd)}, parts inv h l place ps = some qs →
    Fits C place (ps.map fun q => (q.1, a.eval q.2)) (qs.map fun q => (q.1, q.2.1, q.2.2.ev e))
  | [], qs, hc => by
    simp only [parts, Option.some.injEq] at hc
    subst hc
    trivial
  | (i, x) :: ps, qs, hc => by
    simp only [parts, bind, Option.bind_eq_some_iff, pure, Option.some.injEq] at hc
    obtain ⟨⟨o, m⟩, hp, hc⟩ := hc
    split at hc
    · cases hc
    · rename_i h0
      simp only [Option.bind_eq_some_iff, Option.some.injEq] at hc
      obtain ⟨y, hy, r, hr, rfl⟩ := hc
      exact ⟨hp, h0, opd_sound hi hA hy, parts_sound hi hA hr⟩

theorem run_mapM {α β : Type} {f : α → Sem β} {g : α → β} : ∀ {l : List α}, (∀ x ∈ l, (f x).run P w = .ok (g x) w) → (l.mapM f).run P w = .ok (l.map g) w
  | [], _ => rfl
  | x :: l, hx => by
    rw [List.mapM_cons]
    simp only [Sem.run_bind, hx x (List.mem_cons_self), Result.andThen_ok, run_mapM (fun y hy => hx y (List.mem_cons_of_mem _ hy)), Sem.run_pure, List.map_cons]
theorem run_mapM_array {α β : Type} {f : α → Sem β} {g : α → β} {xs : Array α} (hx : ∀ x ∈ xs.toList, (f x).run P w = .ok (g x) w) : (xs.mapM f).run P w = .ok (xs.map g) w := by
  rw [Array.mapM_eq_mapM_toList]
  simp only [Sem.run_map, run_mapM hx, Result.andThen_ok]
  congr 1
  apply Array.ext'
  simp
theorem zero_spec {t : TypeId} {z : List Value} (hz : zeroOf P t = some z) : ∃ v, (zeroValue t).run P w = .ok v w ∧ v.cells.toList = z := by
  unfold zeroOf at hz
  obtain ⟨v, hv, rfl⟩ := Option.map_eq_some_iff.1 hz
  obtain ⟨i, hi, hz⟩ := Option.bind_eq_some_iff.1 hv
  exact ⟨v, by simp [zeroValue, typeInfo, hi, hz], rfl⟩
theorem build_sound (hi : Inv inv h C) (hA : At C h l e a w) {t : TypeId} {ps : Array (Nat × Operand)} {z : List Value} {qs : List (Nat × Nat × Opd)} (hz : zeroOf P t = some z) (hok : okZero z = true)
    (hp : (∃ fs, P.underlying t = some (.struct fs) ∧ fs.all (fun f => (lay P f.type).isSome) = true ∧ parts inv h l (fun i => (fs[i]?).bind fun f => (lay P f.type).map fun q => (f.offset, q.1)) ps.toList = some qs) ∨
      (∃ m x q, P.underlying t = some (.array m x) ∧ lay P x = some q ∧ parts inv h l (fun i => some (i * q.1, q.1)) ps.toList = some qs))
    {r : List Value} (hf : fill z (qs.map fun q => (q.1, q.2.1, q.2.2.ev e)) = some r) :
    ∃ v', (Instr.build t (ps.map fun q => (q.1, a.eval q.2))).run P w = .ok v' w ∧ VR C (agg r) v' := by
  obtain ⟨zv, hzv, hzz⟩ := zero_spec (w := w) hz
  have hzr : VRs C z zv.cells.toList := by rw [hzz]; exact .okZero hok
  rcases hp with ⟨fs, hu, hall, hp⟩ | ⟨m, x, q, hu, hq, hp⟩
  · have hfit := parts_sound hi hA hp
    obtain ⟨r', hr', hrr, hrf⟩ := fill_sound (cs' := zv.cells) hfit hzr (.okZero hok) hf
    refine ⟨.agg r', ?_, hrr.aggA hrf⟩
    unfold Instr.build
    simp only [Sem.run_bind, hzv, Result.andThen_ok, run_under hu]
    have hm : (fs.mapM fun f => do pure (f.offset, ← Go.sizeOf f.type) : Sem (Array (Nat × Nat))).run P w = .ok (fs.map fun f => (f.offset, (((lay P f.type).map (·.1)).getD 0))) w := by
      refine run_mapM_array fun f hf => ?_
      have : (lay P f.type).isSome = true := (Array.all_eq_true_iff_forall_mem.1 hall) f (by simpa using hf)
      obtain ⟨q, hq⟩ := Option.isSome_iff_exists.1 this
      simp [(lay_spec (w := w) hq).1, hq]
    simp only [hm, Result.andThen_ok]
    have hpl : ((fs.map fun f => (f.offset, (((lay P f.type).map (·.1)).getD 0)))[·]?) = fun (i : Nat) => (fs[i]?).bind fun (f : Field) => (lay P f.type).map fun q => (f.offset, q.1) := by
      funext i
      simp only [Array.getElem?_map]
      cases hfi : fs[i]? with
      | none => rfl
      | some f =>
        have : (lay P f.type).isSome = true := (Array.all_eq_true_iff_forall_mem.1 hall) f (Array.mem_of_getElem? hfi)
        obtain ⟨q, hq⟩ := Option.isSome_iff_exists.1 this
        simp [hq]
    rw [hpl]
    have : (ps.map fun q => (q.1, a.eval q.2)).toList = ps.toList.map fun q => (q.1, a.eval q.2) := by simp
    rw [this, hr']
    rfl
  · have hfit := parts_sound hi hA hp
    obtain ⟨r', hr', hrr, hrf⟩ := fill_sound (cs' := zv.cells) hfit hzr (.okZero hok) hf
    refine ⟨.agg r', ?_, hrr.aggA hrf⟩
    unfold Instr.build
    simp only [Sem.run_bind, hzv, Result.andThen_ok, run_under hu, (lay_spec (w := w) hq).1]
    have : (ps.map fun q => (q.1, a.eval q.2)).toList = ps.toList.map fun q => (q.1, a.eval q.2) := by simp
    rw [this, hr']
    rfl

theorem run_indexAt_slice' {t e0 : TypeId} {q : Nat × Bool} (hu : P.underlying t = some (.slice e0)) (hq : lay P e0 = some q) {p : Addr} {len cap : Nat} {k : IntKind} {i : Int} (h0 : 0 ≤ i) (h1 : i < (len : Int)) :
    (Instr.indexAt t (.slice (some p) len cap) (.int k i)).run P w = .ok (.pointer (some (p.add (i.toNat * q.1)))) w := by
  simp only [Instr.indexAt, Sem.run_bind, run_asInt, Result.andThen_ok, run_under hu, Sem.run_pure]
  simp [h0, h1, (lay_spec (w := w) hq).1]
theorem run_indexAt_array' {t e0 : TypeId} {m : Nat} {q : Nat × Bool} (hu : P.underlying t = some (.array m e0)) (hq : lay P e0 = some q) {p : Addr} {k : IntKind} {i : Int} (h0 : 0 ≤ i) (h1 : i < (m : Int)) :
    (Instr.indexAt t (.pointer (some p)) (.int k i)).run P w = .ok (.pointer (some (p.add (i.toNat * q.1)))) w := by
  simp only [Instr.indexAt, Sem.run_bind, run_asInt, Result.andThen_ok, run_under hu, Sem.run_pure, Instr.sureAddr]
  simp [h0, h1, (lay_spec (w := w) hq).1]
theorem run_fieldAt' {t : TypeId} {fs : Array Field} {f : Nat} {fd : Field} {q : Nat × Bool} (hu : P.underlying t = some (.struct fs)) (hf : fs[f]? = some fd) (hq : lay P fd.type = some q) (h0 : q.1 ≠ 0) {p : Addr} :
    (Instr.fieldAt t (.pointer (some p)) f).run P w = .ok (.pointer (some (p.add fd.offset))) w := by
  simp only [Instr.fieldAt, Sem.run_bind, Result.andThen_ok, run_under hu, hf, Instr.sureAddr, Sem.run_pure, fieldPlace, (lay_spec (w := w) hq).1, h0, if_false]
theorem run_sliceBound {y j : Nat} {v v' : Value} {code : BoundsCode} (hb : bnd y v = some j) (hr : VR C v v') : (Instr.sliceBound v' y code).run P w = .ok j w := by
  obtain ⟨k, i, rfl, h0, h1, rfl⟩ := bnd_spec hb
  rw [hr.int_inv]
  simp only [Instr.sliceBound, Sem.run_bind, run_asInt, Result.andThen_ok]
  rw [if_pos ⟨h0, h1⟩]; rfl
def VRo (C : Cx) : Option Value → Option Value → Prop
  | none, none => True
  | some x, some y => VR C x y
  | _, _ => False
theorem bounds_sound {isSlice : Bool} {len cap m : Nat} {lo hi mx lo' hi' mx' : Option Value} (e1 : VRo C lo lo') (e2 : VRo C hi hi') (e3 : VRo C mx mx')
    (hmh : mx.isSome = true → hi.isSome = true) (hm : mxOf cap mx = some m) {q : Nat × Nat} (hb : bnds len m lo hi = some q) :
    (Instr.sliceBounds isSlice len cap lo' hi' mx').run P w = .ok (q.1, q.2, m) w := by
  unfold Instr.sliceBounds
  cases mx with
  | none =>
    cases mx' with
    | some _ => exact e3.elim
    | none =>
      cases hm
      simp only [Sem.run_bind, Sem.run_pure, Result.andThen_ok]
      cases hi with
      | none =>
        cases hi' with
        | some _ => exact e2.elim
        | none =>
          simp only [Sem.run_pure, Result.andThen_ok]
          cases lo with
          | none =>
            cases lo' with
            | some _ => exact e1.elim
            | none => cases hb; rfl
          | some l =>
            cases lo' with
            | none => exact e1.elim
            | some l' =>
              simp only [bnds] at hb
              obtain ⟨p, hp, rfl⟩ := Option.map_eq_some_iff.1 hb
              simp only [Sem.run_bind, Sem.run_pure, run_sliceBound hp e1, Result.andThen_ok]
      | some h =>
        cases hi' with
        | none => exact e2.elim
        | some h' =>
          cases lo with
          | none =>
            cases lo' with
            | some _ => exact e1.elim
            | none =>
              simp only [bnds] at hb
              obtain ⟨p, hp, rfl⟩ := Option.map_eq_some_iff.1 hb
              simp only [Sem.run_bind, Sem.run_pure, run_sliceBound hp e2, Result.andThen_ok]
          | some l =>
            cases lo' with
            | none => exact e1.elim
            | some l' =>
              simp only [bnds] at hb
              obtain ⟨p, hp, hb⟩ := Option.bind_eq_some_iff.1 hb
              obtain ⟨r, hr, rfl⟩ := Option.map_eq_some_iff.1 hb
              simp only [Sem.run_bind, Sem.run_pure, run_sliceBound hp e2, Result.andThen_ok, run_sliceBound hr e1]
  | some x =>
    cases mx' with
    | none => exact e3.elim
    | some x' =>
      simp only [mxOf] at hm
      simp only [Sem.run_bind, run_sliceBound hm e3, Result.andThen_ok]
      cases hi with
      | none => cases hmh rfl
      | some h =>
        cases hi' with
        | none => exact e2.elim
        | some h' =>
          cases lo with
          | none =>
            cases lo' with
            | some _ => exact e1.elim
            | none =>
              simp only [bnds] at hb
              obtain ⟨p, hp, rfl⟩ := Option.map_eq_some_iff.1 hb
              simp only [Sem.run_bind, Sem.run_pure, run_sliceBound hp e2, Result.andThen_ok]
          | some l =>
            cases lo' with
            | none => exact e1.elim
            | some l' =>
              simp only [bnds] at hb
              obtain ⟨p, hp, hb⟩ := Option.bind_eq_some_iff.1 hb
              obtain ⟨r, hr, rfl⟩ := Option.map_eq_some_iff.1 hb
              simp only [Sem.run_bind, Sem.run_pure, run_sliceBound hp e2, Result.andThen_ok, run_sliceBound hr e1]
theorem bnds_le {len m : Nat} {lo hi : Option Value} {q : Nat × Nat} (hb : bnds len m lo hi = some q) (hlm : len ≤ m) : q.1 ≤ q.2 ∧ q.2 ≤ m := by
  have hbd : ∀ {m j : Nat} {v : Value}, bnd m v = some j → j ≤ m := by
    intro m j v h
    obtain ⟨_, _, _, _, _, _⟩ := bnd_spec h
    omega
  cases hi with
  | none => cases lo with
    | none => cases hb; exact ⟨Nat.zero_le _, hlm⟩
    | some l =>
      simp only [bnds] at hb
      obtain ⟨p, hp, rfl⟩ := Option.map_eq_some_iff.1 hb
      exact ⟨hbd hp, hlm⟩
  | some h => cases lo with
    | none =>
      simp only [bnds] at hb
      obtain ⟨p, hp, rfl⟩ := Option.map_eq_some_iff.1 hb
      exact ⟨Nat.zero_le _, hbd hp⟩
    | some l =>
      simp only [bnds] at hb
      obtain ⟨p, hp, hb⟩ := Option.bind_eq_some_iff.1 hb
      obtain ⟨r, hr, rfl⟩ := Option.map_eq_some_iff.1 hb
      exact ⟨hbd hr, hbd hp⟩
theorem optOpd_sound (hi : Inv inv h C) (hA : At C h l e a w) {x : Option Operand} {y : Option Opd} (hc : optOpd inv h l x = some y) : VRo C (y.map (·.ev e)) (x.map a.eval) ∧ y.isSome = x.isSome := by
  cases x with
  | none => cases hc; exact ⟨trivial, rfl⟩
  | some x =>
    simp only [optOpd] at hc
    obtain ⟨z, hz, rfl⟩ := Option.map_eq_some_iff.1 hc
    exact ⟨opd_sound hi hA hz, rfl⟩
theorem run_builtin1 {b : Builtin} {args : Array Operand} {ts : Array TypeId} {dst : Option Nat} {ty : TypeId} {pos : String} {after : Array Edge} {guard : Option (Nat × Bool)} {ρ : Operand → Value} :
    (execOp ρ ⟨dst, .call ⟨.builtin b, args, ts⟩, ty, pos, after, guard⟩).run P w = (builtin b ts ty (args.map fun | .const _ => true | _ => false) (args.map ρ)).run P w := by
  simp only [execOp, resolve, Sem.run_bind, Sem.run_pure, Result.andThen_ok, invoke]
  rfl
theorem add_none (B o j : Nat) : (⟨B, o, none⟩ : Addr).add j = ⟨B, o + j, none⟩ := by unfold Addr.add; split <;> simp_all
/-- An address in a variable. -/
theorem inVar_sound (hA : At C h l e a w) {x : Operand} {p : Nat} {s : Option Nat} {o : Nat} (hc : inVar h l x = some (p, s)) (ho : offOf e p s = some o) :
    ∃ B, a.eval x = .pointer (some ⟨B, o, none⟩) ∧ BlkIs C w B (cellsOf (e p)) := by
  cases x with
  | tmp t =>
    simp only [inVar] at hc
    split at hc
    · rename_i hv
      cases hc
      simp only [offOf] at ho
      split at ho
      · rename_i hh
        cases ho
        obtain ⟨B, h1, h2⟩ := hA.var _ hv hh
        exact ⟨B, h1, h2⟩
      · cases ho
    · obtain ⟨p', hp, he⟩ := Option.map_eq_some_iff.1 hc
      cases he
      obtain ⟨h1, h2, B, h3, h4⟩ := hA.adr t p o hp ho
      obtain ⟨B', h5, h6⟩ := hA.var p h1 h2
      rw [h4] at h5
      cases h5
      exact ⟨B, h3, h6⟩
  | _ => cases hc
theorem inVar_base (hA : At C h l e a w) {x : Operand} {p : Nat} {s : Option Nat} {o : Nat} (hc : inVar h l x = some (p, s)) (ho : offOf e p s = some o) :
    ∃ B, a.eval x = .pointer (some ⟨B, o, none⟩) ∧ a.tmps.getD p undef = .pointer (some ⟨B, 0, none⟩) := by
  cases x with
  | tmp t =>
    simp only [inVar] at hc
    split at hc
    · rename_i hv
      cases hc
      simp only [offOf] at ho
      split at ho
      · rename_i hh
        cases ho
        obtain ⟨B, h1, h2⟩ := hA.var _ hv hh
        exact ⟨B, h1, h1⟩
      · cases ho
    · obtain ⟨p', hp, he⟩ := Option.map_eq_some_iff.1 hc
      cases he
      obtain ⟨h1, h2, B, h3, h4⟩ := hA.adr t p o hp ho
      exact ⟨B, h3, h4⟩
  | _ => cases hc
theorem inVar_is (hA : At C h l e a w) {x : Operand} {p : Nat} {s : Option Nat} {o : Nat} (hc : inVar h l x = some (p, s)) (ho : offOf e p s = some o) :
    isVar h p = true ∧ has (e p) = true := by
  cases x with
  | tmp t =>
    simp only [inVar] at hc
    split at hc
    · rename_i hv
      cases hc
      simp only [offOf] at ho
      split at ho
      · rename_i hh
        exact ⟨hv, hh⟩
      · cases ho
    · obtain ⟨p', hp, he⟩ := Option.map_eq_some_iff.1 hc
      cases he
      obtain ⟨h1, h2, _⟩ := hA.adr t p o hp ho
      exact ⟨h1, h2⟩
  | _ => cases hc
theorem cell_of {w : World} {B o : Nat} {cs : Array Value} {elem : TypeId} {fz : Nat × Nat} (hB : w.heap[B]? = some (.cells cs elem fz)) : w.cell? ⟨B, o, none⟩ = cs[o]? := by
  simp [World.cell?, hB]
theorem run_loadCells_of {w : World} {B o m : Nat} {cs : Array Value} {elem : TypeId} {fz : Nat × Nat} (hB : w.heap[B]? = some (.cells cs elem fz)) (hl : o + m ≤ cs.size) :
    (loadCells ⟨B, o, none⟩ m).run P w = .ok ((cs.toList.drop o).take m).toArray w := by
  have := run_loadCells_list (P := P) w ⟨B, o, none⟩ ((cs.toList.drop o).take m) (fun j v hv => by
    rw [add_none, cell_of hB]
    rw [List.getElem?_take] at hv
    split at hv
    · rw [List.getElem?_drop] at hv; simpa using hv
    · cases hv)
  rw [List.length_take, List.length_drop, Array.length_toList, Nat.min_eq_left (by omega)] at this
  exact this
theorem run_loadVar_cells {w : World} {B o : Nat} {cs : Array Value} {elem : TypeId} {fz : Nat × Nat} {t : TypeId} {q : Nat × Bool} (hq : lay P t = some q) (hB : w.heap[B]? = some (.cells cs elem fz)) (hl : o + ldSize q ≤ cs.size) :
    (loadVar t ⟨B, o, none⟩).run P w = .ok (mkV q.2 ((cs.toList.drop o).take (ldSize q))) w := by
  obtain ⟨hs, ha, _⟩ := lay_spec (w := w) hq
  unfold loadVar
  simp only [Sem.run_bind, ha, Result.andThen_ok]
  cases hg : q.2 with
  | true =>
    have e1 : ldSize q = q.1 := by simp [ldSize, hg]
    rw [e1] at hl ⊢
    simp only [if_true, Sem.run_bind, hs, Result.andThen_ok, run_loadCells_of hB hl, Sem.run_pure, mkV]
  | false =>
    have e1 : ldSize q = 1 := by simp [ldSize, hg]
    rw [e1] at hl ⊢
    have hlt : o < cs.size := by omega
    simp only [Bool.false_eq_true, if_false, run_load, cell_of hB, Array.getElem?_eq_getElem hlt, mkV]
    congr 1
    rw [List.drop_eq_getElem_cons (by simpa using hlt)]
    simp
theorem run_loadVar_at {w : World} {B o : Nat} {l0 : List Value} {t : TypeId} {q : Nat × Bool} {v : Value} (hq : lay P t = some q) (hb : BlkIs C w B l0) (hl : o + ldSize q ≤ l0.length)
    (hv : ldv q.2 ((l0.drop o).take (ldSize q)) = some v) : ∃ v', (loadVar t ⟨B, o, none⟩).run P w = .ok v' w ∧ VR C v v' := by
  obtain ⟨cs, elem, hB, hf, hr⟩ := hb
  refine ⟨_, run_loadVar_cells hq hB (by have := hr.1; simp at this; omega), mkV_ldv hr.drop.take hf.drop.take hv⟩
/-- An operation that looks at slots alone gives what the model's gives. -/
theorem nval_sound (hi : Inv inv h C) (hA : At C h l e a w) {o : Oper} {c : Op1} (hnew : isNew o = false) (hc : comp1 P inv isPure h l o = some c) (hadr : adrVar c = none) (hst : ∀ p s m x, c ≠ .stV p s m x)
    {v : Value} (hv : nval e c = some v) : Gives P w (execOp a.eval o) C v := by
  obtain ⟨dst, op, ty, pos, after, guard⟩ := o
  cases op with
  | move x =>
    obtain ⟨y, hy, rfl⟩ := Option.map_eq_some_iff.1 hc
    exact gives_move hi hA hy hv
  | assign x =>
    obtain ⟨y, hy, rfl⟩ := Option.map_eq_some_iff.1 hc
    exact gives_move hi hA hy hv
  | pick x y z =>
    simp only [comp1, bind, Option.bind_eq_some_iff, pure, Option.some.injEq] at hc
    obtain ⟨x', hx, y', hy, z', hz, rfl⟩ := hc
    have h1 := opd_sound hi hA hx
    have h2 := opd_sound hi hA hy
    have h3 := opd_sound hi hA hz
    simp only [nval] at hv
    split at hv
    · rename_i hb
      cases hv
      rw [hb] at h1
      refine ⟨_, ?_, h2⟩
      simp only [execOp, h1.bool_inv, asBool]; rfl
    · rename_i hb
      cases hv
      rw [hb] at h1
      refine ⟨_, ?_, h3⟩
      simp only [execOp, h1.bool_inv, asBool]; rfl
    · cases hv
  | alloc t => cases hnew
  | box t x => cases hnew
  | build t ps =>
    simp only [comp1, bind, Option.bind_eq_some_iff] at hc
    obtain ⟨z, hz, hc⟩ := hc
    split at hc
    · cases hc
    · rename_i hok
      have hok : okZero z = true := by simpa using hok
      have key : ∀ qs, c = .agg z qs → ((∃ fs, P.underlying t = some (.struct fs) ∧ fs.all (fun f => (lay P f.type).isSome) = true ∧ parts inv h l (fun i => (fs[i]?).bind fun f => (lay P f.type).map fun q => (f.offset, q.1)) ps.toList = some qs) ∨
          (∃ m x q, P.underlying t = some (.array m x) ∧ lay P x = some q ∧ parts inv h l (fun i => some (i * q.1, q.1)) ps.toList = some qs)) → Gives P w (execOp a.eval ⟨dst, .build t ps, ty, pos, after, guard⟩) C v := by
        rintro qs rfl hp
        simp only [nval] at hv
        obtain ⟨r, hr, rfl⟩ := Option.map_eq_some_iff.1 hv
        obtain ⟨v', h1, h2⟩ := build_sound hi hA hz hok hp hr
        refine ⟨v', ?_, h2⟩
        simp only [execOp, Sem.run_bind]
        rw [show (ps.map fun x => match x with | (i, x) => (i, a.eval x)) = ps.map fun q => (q.1, a.eval q.2) from rfl, h1]
        rfl
      split at hc
      · rename_i fs hu
        split at hc
        · cases hc
        · rename_i hall
          obtain ⟨qs, hqs, rfl⟩ := Option.map_eq_some_iff.1 hc
          exact key qs rfl (.inl ⟨fs, hu, (by revert hall; cases fs.all fun f => (lay P f.type).isSome <;> simp), hqs⟩)
      · rename_i m x hu
        obtain ⟨q, hq, hc⟩ := Option.bind_eq_some_iff.1 hc
        obtain ⟨qs, hqs, rfl⟩ := Option.map_eq_some_iff.1 hc
        exact key qs rfl (.inr ⟨m, x, q, hu, hq, hqs⟩)
      · cases hc
  | nilCheck x =>
    obtain ⟨y, hy, rfl⟩ := Option.map_eq_some_iff.1 hc
    have h1 := opd_sound hi hA hy
    simp only [nval] at hv
    split at hv
    · rename_i p hp
      cases hv
      rw [hp] at h1
      obtain ⟨p', hp', hr⟩ : ∃ p', a.eval x = .pointer (some p') ∧ AR C p p' := by
        generalize a.eval x = z at h1
        cases h1 with | ptr h => exact ⟨_, rfl, h⟩
      refine ⟨.pointer (some p'), ?_, .ptr hr⟩
      simp only [execOp, hp']; rfl
    · rename_i f a0 c0 hp
      cases hv
      rw [hp] at h1
      obtain ⟨cs', hcs⟩ := h1.func_inv
      refine ⟨_, ?_, h1⟩
      simp only [execOp, hcs]
      rfl
    · cases hv
  | binOp op t x y u =>
    simp only [comp1, bind, Option.bind_eq_some_iff] at hc
    obtain ⟨x', hx, y', hy, hc⟩ := hc
    have h1 := opd_sound hi hA hx
    have h2 := opd_sound hi hA hy
    have hbin : c = .bin op x' y' → Gives P w (execOp a.eval ⟨dst, .binOp op t x y u, ty, pos, after, guard⟩) C v := by
      rintro rfl
      simp only [nval] at hv
      obtain ⟨r', hr, hrr⟩ := binop_sound (P := P) (w := w) (t := t) (x := x) (y := y) h1 h2 hv
      refine ⟨r', ?_, hrr⟩
      simp only [execOp]
      rw [Sem.run_bind, hr]; rfl
    have heq : ∀ k neg, eqKind P y t = some k → ((op = .eql ∧ neg = false) ∨ (op = .neq ∧ neg = true)) → c = .eq k neg x' y' → Gives P w (execOp a.eval ⟨dst, .binOp op t x y u, ty, pos, after, guard⟩) C v := by
      rintro k neg hk hop rfl
      simp only [nval] at hv
      obtain ⟨b, hb, rfl⟩ := Option.map_eq_some_iff.1 hv
      have hr := eq_sound (P := P) (w := w) hop hk (x := x) h1 h2 hb
      refine ⟨_, ?_, .bool _⟩
      simp only [execOp]
      rw [Sem.run_bind, hr]; rfl
    split at hc
    · cases hc; exact hbin rfl
    · cases hc; exact hbin rfl
    · obtain ⟨k, hk, rfl⟩ := Option.map_eq_some_iff.1 hc; exact heq k false hk (.inl ⟨rfl, rfl⟩) rfl
    · obtain ⟨k, hk, rfl⟩ := Option.map_eq_some_iff.1 hc; exact heq k true hk (.inr ⟨rfl, rfl⟩) rfl
    · cases hc
  | unOp op t x =>
    obtain ⟨y, hy, rfl⟩ := Option.map_eq_some_iff.1 hc
    have h1 := opd_sound hi hA hy
    obtain ⟨h2, h3⟩ := unop_sound (P := P) (w := w) h1 (by simpa [nval] using hv)
    refine ⟨v, ?_, h3⟩
    simp only [execOp]
    rw [Sem.run_bind, h2]; rfl
  | convert s d x =>
    simp only [comp1, bind, Option.bind_eq_some_iff] at hc
    obtain ⟨y, hy, hc⟩ := hc
    have h1 := opd_sound hi hA hy
    split at hc
    · rename_i k0 k hs hd
      cases hc
      simp only [nval] at hv
      split at hv
      · rename_i k1 m hm
        cases hv
        rw [hm] at h1
        refine ⟨_, ?_, .int _ _⟩
        simp only [execOp, h1.int_inv]
        simp [convert, run_underlying hs, run_underlying hd, Conv.intToInt]
      · cases hv
    · split at hc
      · cases hc; simp [nval] at hv
      · cases hc
    · cases hc
  | extract x i =>
    obtain ⟨y, hy, rfl⟩ := Option.map_eq_some_iff.1 hc
    have h1 := opd_sound hi hA hy
    simp only [nval] at hv
    split at hv
    · rename_i vs hvs
      rw [hvs] at h1
      obtain ⟨cs', hcs, hr⟩ := h1.tup_inv
      obtain ⟨v', hv', hrr⟩ := hr.get hv
      refine ⟨v', ?_, hrr⟩
      simp only [execOp, hcs, Instr.extract]
      rw [← Array.getElem?_toList, hv']
      rfl
    · cases hv
  | index t x i =>
    simp only [comp1, bind, Option.bind_eq_some_iff] at hc
    obtain ⟨x', hx, i', hi', hc⟩ := hc
    have h1 := opd_sound hi hA hx
    have h2 := opd_sound hi hA hi'
    split at hc
    · rename_i m x0 hu
      obtain ⟨q, hq, hc⟩ := Option.bind_eq_some_iff.1 hc
      split at hc
      · cases hc
      · rename_i hq1
        cases hc
        simp only [nval] at hv
        split at hv
        · rename_i cs hcs
          obtain ⟨j, hj, hv⟩ := Option.bind_eq_some_iff.1 hv
          split at hv
          · rename_i hlt
            obtain ⟨k, i0, hi0, hge, hltm, rfl⟩ := at_spec hj
            rw [hcs] at h1
            rw [hi0] at h2
            obtain ⟨cs', hcs', hr, hfl⟩ := h1.agg_inv
            have hsz : cs.size = cs'.size := by simpa using hr.1
            have hls : ldSize q = q.1 := by
              unfold ldSize
              cases hg : q.2 with
              | true => rfl
              | false => simp only [hg, Bool.not_false, Bool.true_and, bne_iff_ne, ne_eq, Decidable.not_not] at hq1; simp [hq1]
            have hp := run_partS (w := w) hq (cs := cs') (off := i0.toNat * q.1) (by rw [hls, ← hsz]; exact hlt)
            rw [hls] at hp
            refine ⟨_, ?_, mkV_ldv (hr.drop.take) (hfl.drop.take) hv⟩
            simp only [execOp, Instr.index, hcs', h2.int_inv, Sem.run_bind, run_asInt, Result.andThen_ok, run_under hu, Sem.run_ite]
            rw [if_pos ⟨hge, hltm⟩]
            simp only [(lay_spec (w := w) hq).1, Result.andThen_ok, hp]
            rfl
          · cases hv
        · cases hv
    · rename_i hu
      cases hc
      simp only [nval] at hv
      split at hv
      · rename_i s hs
        obtain ⟨j, hj, rfl⟩ := Option.map_eq_some_iff.1 hv
        obtain ⟨k, i0, hi0, hge, hltm, rfl⟩ := at_spec hj
        rw [hs] at h1
        rw [hi0] at h2
        refine ⟨_, ?_, .int _ _⟩
        have hlt : i0.toNat < s.size := by omega
        simp only [execOp, Instr.index, h1.string_inv, h2.int_inv, Sem.run_bind, run_asInt, Result.andThen_ok, run_under hu]
        rw [if_pos hge]
        have : s[i0.toNat]? = some (s[i0.toNat]'hlt) := getElem?_pos s i0.toNat hlt
        rw [this]
        simp only [Sem.run_pure, Result.andThen_ok]
        congr 3
        have hd : s.data.toList.getD i0.toNat 0 = s[i0.toNat]'hlt := by
          rw [List.getD_eq_getElem?_getD, List.getElem?_eq_getElem (by simpa using hlt)]
          simp [ByteArray.getElem_eq_getElem_data]
        rw [hd]
      · cases hv
    · cases hc
  | field t x f =>
    simp only [comp1, bind, Option.bind_eq_some_iff] at hc
    obtain ⟨x', hx, hc⟩ := hc
    have h1 := opd_sound hi hA hx
    split at hc
    · rename_i fs hu
      split at hc
      · rename_i fd hfd
        obtain ⟨q, hq, hc⟩ := Option.bind_eq_some_iff.1 hc
        cases hc
        simp only [nval] at hv
        split at hv
        · rename_i cs hcs
          split at hv
          · rename_i hlt
            rw [hcs] at h1
            obtain ⟨cs', hcs', hr, hfl⟩ := h1.agg_inv
            have hsz : cs.size = cs'.size := by simpa using hr.1
            have hp := run_partS (w := w) hq (cs := cs') (off := fd.offset) (by rw [← hsz]; exact hlt)
            refine ⟨_, ?_, mkV_ldv (hr.drop.take) (hfl.drop.take) hv⟩
            simp only [execOp, Instr.field, hcs', Sem.run_bind, Result.andThen_ok, run_under hu, hfd, asAgg, Sem.run_pure, hp]
          · cases hv
        · cases hv
      · cases hc
    · cases hc
  | indexAddr t x i =>
    simp only [comp1, bind, Option.bind_eq_some_iff] at hc
    obtain ⟨i', hi', hc⟩ := hc
    have h2 := opd_sound hi hA hi'
    split at hc
    · rename_i m x0 hu
      obtain ⟨q, hq, hc⟩ := Option.bind_eq_some_iff.1 hc
      split at hc
      · cases hc; cases hadr
      · obtain ⟨y, hy, rfl⟩ := Option.map_eq_some_iff.1 hc
        have h1 := opd_sound hi hA hy
        simp only [nval] at hv
        split at hv
        · rename_i b off ver hp
          obtain ⟨j, hj, rfl⟩ := Option.map_eq_some_iff.1 hv
          obtain ⟨k, i0, hi0, hge, hltm, rfl⟩ := at_spec hj
          rw [hp] at h1
          rw [hi0] at h2
          obtain ⟨a', ha', hr⟩ := h1.ptr_inv
          refine ⟨_, ?_, .ptr (hr.add (i0.toNat * q.1))⟩
          simp only [execOp, ha', h2.int_inv]
          rw [Sem.run_bind, run_indexAt_array' hu hq hge hltm]; rfl
        · cases hv
    · rename_i x0 hu
      obtain ⟨q, hq, hc⟩ := Option.bind_eq_some_iff.1 hc
      obtain ⟨y, hy, rfl⟩ := Option.map_eq_some_iff.1 hc
      have h1 := opd_sound hi hA hy
      simp only [nval] at hv
      split at hv
      · rename_i b off ver len cap hp
        obtain ⟨j, hj, rfl⟩ := Option.map_eq_some_iff.1 hv
        obtain ⟨k, i0, hi0, hge, hltm, rfl⟩ := at_spec hj
        rw [hp] at h1
        rw [hi0] at h2
        obtain ⟨a', cap', ha', hr, _⟩ := h1.slice_inv.resolve_right (fun hh => by obtain ⟨h3, _⟩ := hh; omega)
        refine ⟨_, ?_, .ptr (hr.add (i0.toNat * q.1))⟩
        simp only [execOp, ha', h2.int_inv]
        rw [Sem.run_bind, run_indexAt_slice' hu hq hge hltm]; rfl
      · cases hv
    · cases hc
  | fieldAddr t x f =>
    simp only [comp1] at hc
    split at hc
    · rename_i fs hu
      split at hc
      · rename_i fd hfd
        obtain ⟨q, hq, hc⟩ := Option.bind_eq_some_iff.1 hc
        split at hc
        · cases hc
        · rename_i hq0
          split at hc
          · cases hc; cases hadr
          · obtain ⟨y, hy, rfl⟩ := Option.map_eq_some_iff.1 hc
            have h1 := opd_sound hi hA hy
            simp only [nval] at hv
            split at hv
            · rename_i b off ver hp
              cases hv
              rw [hp] at h1
              obtain ⟨a', ha', hr⟩ := h1.ptr_inv
              refine ⟨_, ?_, .ptr (hr.add fd.offset)⟩
              simp only [execOp, ha']
              rw [Sem.run_bind, run_fieldAt' hu hfd hq hq0]; rfl
            · cases hv
      · cases hc
    · cases hc
  | makeFunc fn xs cs =>
    cases fn with
    | func f =>
      simp only [comp1] at hc
      split at hc
      · cases hc
      · rename_i hem
        simp only [bind, Option.bind_eq_some_iff, pure, Option.some.injEq] at hc
        obtain ⟨i, hi', ys, hys, rfl⟩ := hc
        simp only [nval, Option.some.injEq] at hv
        subst hv
        have hr := opds_sound hi hA hys
        have hem : xs = #[] := by simpa using hem
        subst hem
        refine ⟨_, rfl, ?_⟩
        have hρ := hi.1 _ _ hi'
        show VR C (.func (.func i) #[] (ys.map (·.ev e)).toArray) (.func (.func f) (#[].map a.eval) (cs.map a.eval))
        rw [← hρ, show (#[].map a.eval : Array Value) = #[] from by simp]
        have ecs : cs.map a.eval = (cs.toList.map a.eval).toArray := by apply Array.ext'; rw [Array.toList_map]
        rw [ecs]
        exact .func (by simpa using hr.1) (fun j h1 h2 => hr.2 j (by simpa using h1) (by simpa using h2))
    | _ => cases hc
  | slice t x lo hi mx =>
    simp only [comp1, bind, Option.bind_eq_some_iff] at hc
    obtain ⟨x', hx, lo', hlo, hi', hhi, mx', hmx, hc⟩ := hc
    have h1 := opd_sound ‹Inv inv h C› hA hx
    obtain ⟨h2, _⟩ := optOpd_sound ‹Inv inv h C› hA hlo
    obtain ⟨h3, _⟩ := optOpd_sound ‹Inv inv h C› hA hhi
    split at hc
    · rename_i hu
      split at hc
      · rename_i hno
        cases hc
        have hno : mx = none := by simpa using hno
        subst hno
        simp only [nval] at hv
        split at hv
        · rename_i s hs
          obtain ⟨q, hq, rfl⟩ := Option.map_eq_some_iff.1 hv
          rw [hs] at h1
          have hb := bounds_sound (P := P) (w := w) (isSlice := false) (cap := s.size) (mx := none) (mx' := none) h2 h3 trivial (fun h => by cases h) rfl hq
          refine ⟨_, ?_, .string _⟩
          simp only [execOp, h1.string_inv, Instr.sliceAt, Sem.run_bind, run_under hu, Result.andThen_ok, Instr.slice, Option.map_none]
          rw [if_neg (by simp)]
          simp only [Sem.run_bind, hb, Result.andThen_ok, Sem.run_pure]
        · cases hv
      · cases hc
    · obtain ⟨q, hq, hc⟩ := Option.bind_eq_some_iff.1 hc
      split at hc
      · cases hc
      · cases hc; cases hv
    · obtain ⟨q, hq, hc⟩ := Option.bind_eq_some_iff.1 hc
      split at hc
      · cases hc; cases hv
      · cases hc
    · cases hc
  | load t x =>
    simp only [comp1, bind, Option.bind_eq_some_iff] at hc
    obtain ⟨q, hq, hc⟩ := hc
    split at hc
    · rename_i p s hin
      cases hc
      simp only [nval] at hv
      obtain ⟨o, ho, hv⟩ := Option.bind_eq_some_iff.1 hv
      split at hv
      · rename_i hlt
        obtain ⟨B, hB, hbl⟩ := inVar_sound hA hin ho
        obtain ⟨v', h1, h2⟩ := run_loadVar_at (P := P) hq hbl hlt hv
        refine ⟨v', ?_, h2⟩
        simp only [execOp, hB, Instr.loadAt, Instr.sureAddr]
        rw [Sem.run_bind, Sem.run_bind, Sem.run_pure, Result.andThen_ok, h1]; rfl
      · cases hv
    · obtain ⟨y, hy, rfl⟩ := Option.map_eq_some_iff.1 hc; cases hv
  | store t x y =>
    simp only [comp1, bind, Option.bind_eq_some_iff] at hc
    obtain ⟨y', hy, q, hq, hc⟩ := hc
    split at hc
    · cases hc
    split at hc
    · cases hc; exact absurd rfl (hst _ _ _ _)
    · obtain ⟨y, hy, rfl⟩ := Option.map_eq_some_iff.1 hc; cases hv
  | buildSlice t m ps =>
    simp only [comp1] at hc
    split at hc
    · simp only [bind, Option.bind_eq_some_iff] at hc
      obtain ⟨z, hz, q, hq, hc⟩ := hc
      split at hc
      · cases hc
      · obtain ⟨y, hy, rfl⟩ := Option.map_eq_some_iff.1 hc; cases hv
    · cases hc
  | makeSlice t x y =>
    simp only [comp1] at hc
    split at hc
    · simp only [bind, Option.bind_eq_some_iff] at hc
      obtain ⟨z, hz, q, hq, hc⟩ := hc
      split at hc
      · cases hc
      · simp only [Option.bind_eq_some_iff, pure, Option.some.injEq] at hc
        obtain ⟨_, _, _, _, rfl⟩ := hc; cases hv
    · cases hc
  | call cc =>
    obtain ⟨callee, args, ts⟩ := cc
    simp only [comp1] at hc
    split at hc
    · simp only [bind, Option.bind_eq_some_iff, pure, Option.some.injEq] at hc
      obtain ⟨_, _, _, _, rfl⟩ := hc; cases hv
    · simp only [bind, Option.bind_eq_some_iff, pure, Option.some.injEq] at hc
      obtain ⟨_, _, _, _, rfl⟩ := hc; cases hv
    · rename_i b _
      split at hc
      · rename_i x t hargs hts
        have ha : args = #[x] := Array.toList_inj.1 (by simpa using hargs)
        have ht : ts = #[t] := Array.toList_inj.1 (by simpa using hts)
        subst ha; subst ht
        unfold Gives
        rw [run_builtin1]
        split at hc
        · rename_i x0 hu
          obtain ⟨y, hy, rfl⟩ := Option.map_eq_some_iff.1 hc
          have h1 := opd_sound hi hA hy
          simp only [nval] at hv
          have hsl : ∀ u m c, VR C (.slice u m c) (a.eval x) → ∃ u' c', a.eval x = .slice u' m c' := by
            intro u m c hh
            generalize a.eval x = z at hh
            cases hh with
            | nilslice => exact ⟨_, _, rfl⟩
            | slice _ _ _ _ => exact ⟨_, _, rfl⟩
            | empty _ => exact ⟨_, _, rfl⟩
          split at hv
          · rename_i u m c hm
            cases hv
            rw [hm] at h1
            obtain ⟨u', c', he⟩ := hsl _ _ _ h1
            refine ⟨_, ?_, .int _ _⟩
            simp [builtin, Builtin.len_, he, run_under hu, goInt]
          · cases hv
        · rename_i hu
          obtain ⟨y, hy, rfl⟩ := Option.map_eq_some_iff.1 hc
          have h1 := opd_sound hi hA hy
          simp only [nval] at hv
          split at hv
          · rename_i s hm
            cases hv
            rw [hm] at h1
            refine ⟨_, ?_, .int _ _⟩
            simp [builtin, Builtin.len_, h1.string_inv, run_under hu, goInt]
          · cases hv
        · cases hc
      · rename_i x y hargs
        have ha : args = #[x, y] := Array.toList_inj.1 (by simpa using hargs)
        subst ha
        simp only [bind, Option.bind_eq_some_iff, pure, Option.some.injEq] at hc
        obtain ⟨x', hx, y', hy, rfl⟩ := hc
        have h1 := opd_sound hi hA hx
        have h2 := opd_sound hi hA hy
        simp only [nval] at hv
        split at hv
        · rename_i k p k' q hp hq
          cases hv
          rw [hp] at h1
          rw [hq] at h2
          refine ⟨_, ?_, .int _ _⟩
          rw [run_builtin1]
          simp [builtin, Builtin.min_, Builtin.min2, h1.int_inv, h2.int_inv]
        · cases hv
      · rename_i x y hargs
        have ha : args = #[x, y] := Array.toList_inj.1 (by simpa using hargs)
        subst ha
        simp only [bind, Option.bind_eq_some_iff, pure, Option.some.injEq] at hc
        obtain ⟨x', hx, y', hy, rfl⟩ := hc
        have h1 := opd_sound hi hA hx
        have h2 := opd_sound hi hA hy
        simp only [nval] at hv
        split at hv
        · rename_i k p k' q hp hq
          cases hv
          rw [hp] at h1
          rw [hq] at h2
          refine ⟨_, ?_, .int _ _⟩
          rw [run_builtin1]
          simp [builtin, Builtin.max_, Builtin.max2, h1.int_inv, h2.int_inv]
        · cases hv
      · split at hc
        · simp only [bind, Option.bind_eq_some_iff] at hc
          obtain ⟨z, hz, q, hq, hc⟩ := hc
          split at hc
          · cases hc
          · simp only [Option.bind_eq_some_iff, pure, Option.some.injEq] at hc
            obtain ⟨_, _, _, _, rfl⟩ := hc; cases hv
        · simp only [bind, Option.bind_eq_some_iff] at hc
          obtain ⟨z, hz, q, hq, hc⟩ := hc
          split at hc
          · cases hc
          · simp only [Option.bind_eq_some_iff, pure, Option.some.injEq] at hc
            obtain ⟨_, _, _, _, rfl⟩ := hc; cases hv
        · cases hc
      · split at hc
        · simp only [bind, Option.bind_eq_some_iff, pure, Option.some.injEq] at hc
          obtain ⟨_, _, _, _, _, _, rfl⟩ := hc; cases hv
        · cases hc
      · rename_i x t hargs hts
        have ha : args = #[x] := Array.toList_inj.1 (by simpa using hargs)
        have ht : ts = #[t] := Array.toList_inj.1 (by simpa using hts)
        subst ha; subst ht
        unfold Gives
        rw [run_builtin1]
        split at hc
        · rename_i x0 hu
          obtain ⟨y, hy, rfl⟩ := Option.map_eq_some_iff.1 hc
          have h1 := opd_sound hi hA hy
          simp only [nval] at hv
          split at hv
          · rename_i hm
            cases hv
            rw [hm] at h1
            obtain ⟨_, _, he⟩ := h1.nilslice_inv
            refine ⟨_, ?_, .int _ _⟩
            simp [builtin, Builtin.cap_, he, run_under hu, goInt]
          · cases hv
        · cases hc
      · split at hc
        · simp only [bind, Option.bind_eq_some_iff] at hc
          obtain ⟨z, hz, q, hq, hc⟩ := hc
          split at hc
          · cases hc
          · simp only [Option.bind_eq_some_iff, pure, Option.some.injEq] at hc
            obtain ⟨_, _, rfl⟩ := hc; cases hv
        · cases hc
      · cases hc
    · cases hc
  | _ => cases hc
end
end Fb
