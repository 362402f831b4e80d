/- Entries of the table for whole functions of the program that are walked in the model. -/
import Derived.Test.YtimijcjjmeemeaaGreatDoorSoundY
import Derived.Test.YtimijcjjmeemeaaGreatDoorRun
set_option linter.unusedVariables false
set_option linter.unusedSimpArgs false
namespace Fb
open Go Go.RowKit
section
variable {P : Program} {inv : FuncId → Option Nat} {isPure : Nat → Bool} {ρ : Nat → FuncId} {Gl : Glb}
/-- A call without memory, as the given program makes it. -/
theorem calls_pure {T : Tab} (hmix : P.follows .mixedOrders = true) (hi : ∀ f i, inv f = some i → ρ i = f) (hT : ∀ f D, T f = some D → DefOk P inv isPure ρ Glb.none f D) {pu : Bool} {f : Nat} {xs args : List Value} {v : Value}
    (hc : Call T pu f xs [] = some (v, [])) {w : World} (hx : ∀ C : Cx, VRs C xs args) : Calls P (ρ f) args.toArray w fun e w' => (∃ C' v', e = .returned v' ∧ VR C' v v') ∧ Below w.heap.size w w' := by
  let C0 : Cx := ⟨ρ, [], fun _ => none, fun _ => 0⟩
  have hW0 : WR C0 w := ⟨fun b B δ h => by simp [C0] at h, fun b b' B δ δ' h => by simp [C0] at h⟩
  obtain ⟨k, hk⟩ := of_Call hc
  obtain ⟨_, h2⟩ := (callF_ok hmix hi hT k).1 pu f xs [] v [] hk
  refine (h2 C0 w args rfl rfl hW0 .none (hx C0)).mono fun e w' ⟨v', he, C', _, _, hX, hv⟩ => ?_
  exact ⟨⟨C', v', he, hv⟩, hX.os.1, hX.os.2.2, hX.os.2.1, hX.hsz, fun B hB => hX.keep B hB fun b k δ hk => by simp [C0] at hk⟩
theorem VR.ivs {C : Cx} {k : IntKind} {f : List Int} : VR C (.agg (f.map (Value.int k)).toArray) (.agg (f.map (Value.int k)).toArray) := by
  refine .agg (fun v hv => ?_) rfl fun i h1 h2 => ?_
  · obtain ⟨n, _, rfl⟩ := List.mem_map.1 (by simpa using hv)
    rfl
  · simp
    exact .int _ _
theorem u16s_some : ∀ {cs : List Value} {l : List Int}, u16s cs = some l → cs = l.map (Value.int .u16)
  | [], l, h => by cases h; rfl
  | .int .u16 n :: r, l, h => by
    obtain ⟨l', h1, rfl⟩ := Option.map_eq_some_iff.1 h
    rw [u16s_some h1]; rfl
theorem ext439_ok (hf : Callable P (ρ 439)) (hc : ∀ w (f : List Int), okU f = true → Calls P (ρ 439) #[.agg (f.map (Value.int .u16)).toArray] w fun e w' => e = .returned (.string ⟨(txF (fdot f) 12).toArray⟩) ∧ Below w.heap.size w w') :
    DefOk P inv isPure ρ Gl 439 (.ext .pure ext439) := by
  refine ⟨hf, fun xs H v H' h => ?_⟩
  unfold ext439 at h
  split at h
  · rename_i cs
    split at h
    · rename_i f hu
      split at h
      · rename_i hok
        cases h
        refine ⟨.refl, fun C w args hH _ hW hG hx => ?_⟩
        subst hH
        have hcs : cs = (f.map (Value.int .u16)).toArray := by rw [← u16s_some hu]
        subst hcs
        match args, hx.1 with
        | [a], _ =>
          have h0 : VR C (.agg (f.map (Value.int .u16)).toArray) a := hx.2 0 (by simp) (by simp)
          obtain ⟨cs', rfl, h1, _⟩ := h0.agg_inv
          have h2 : cs'.toList = f.map (Value.int .u16) := VRs.ints (by simpa using h1)
          have h3 : cs' = (f.map (Value.int .u16)).toArray := by rw [← h2]
          subst h3
          exact (hc w f hok).mono fun e w' ⟨he, hb⟩ => ⟨_, he, .below hW hb (.string _)⟩
      · cases h
    · cases h
  · cases h
end
/-- From a later context with the same memory back to the earlier one. -/
theorem AR.back {C C' : Cx} (hl : Later C C') (hH : C'.H = C.H) {a a1 a2 : Addr} (h : AR C a a1) (h' : AR C' a a2) : AR C a a2 := by
  cases h' with
  | old hk hv => exact .old (by rw [← hH]; exact hk) hv
  | @cur b off k B δ hk hs =>
    rw [hH] at hk
    obtain ⟨B1, δ1, hs1, _⟩ := h.now hk rfl
    obtain ⟨k', hk', _, _, _, hs'⟩ := hl.blk b k hk
    rw [hH, hk] at hk'
    cases hk'
    have := (hs' rfl _ hs1).1
    rw [hs] at this
    cases this
    exact .cur hk hs1
theorem Room.back {C C' : Cx} (hl : Later C C') (hH : C'.H = C.H) {a : Addr} {n : Nat} (h : Room C' a n) : Room C a n := fun k B δ hk hsp hs hro => by
  obtain ⟨k', hk', _, _, _, hs'⟩ := hl.blk a.block k hk
  have hk2 := hk'
  rw [hH, hk] at hk2
  cases hk2
  obtain ⟨h1, h2⟩ := hs' rfl _ hs
  rw [← h2]
  exact h k B δ hk' hsp h1 hro
theorem VR.back {C C' : Cx} (hl : Later C C') (hH : C'.H = C.H) {v u' : Value} (h' : VR C' v u') : ∀ {u : Value}, VR C v u → VR C v u' := by
  induction h' with
  | bool b => intro u h; exact .bool b
  | int k i => intro u h; exact .int k i
  | string s => intro u h; exact .string s
  | nilptr => intro u h; exact .nilptr
  | nilFunc => intro u h; exact .nilFunc
  | nilIface => intro u h; exact .nilIface
  | iface => intro u h; exact .iface
  | ptr ha => intro u h; cases h with | ptr hb => exact .ptr (hb.back hl hH ha)
  | nilslice => intro u h; exact .nilslice
  | slice ha h1 h2 hr =>
    intro u h
    cases h with
    | slice hb _ _ _ => exact .slice (hb.back hl hH ha) h1 h2 (hr.back hl hH)
    | empty hb => exact .slice (hb.back hl hH ha) h1 h2 (hr.back hl hH)
  | empty ha =>
    intro u h
    cases h with
    | slice hb _ _ _ => exact .empty (hb.back hl hH ha)
    | empty hb => exact .empty (hb.back hl hH ha)
  | func hs hc ih =>
    intro u h
    cases h with
    | func hs1 hc1 =>
      rw [hl.ρ]
      exact .func hs fun i h1 h2 => ih i h1 h2 (hc1 i h1 (by omega))
  | agg hf hs hc ih =>
    intro u h
    cases h with | agg hf1 hs1 hc1 => exact .agg hf hs fun i h1 h2 => ih i h1 h2 (hc1 i h1 (by omega))
  | tup hs hc ih =>
    intro u h
    cases h with | tup hs1 hc1 => exact .tup hs fun i h1 h2 => ih i h1 h2 (hc1 i h1 (by omega))
theorem VRs.back {C C' : Cx} (hl : Later C C') (hH : C'.H = C.H) {l m m' : List Value} (h : VRs C l m) (h' : VRs C' l m') : VRs C l m' :=
  ⟨h'.1, fun i h1 h2 => (h'.2 i h1 h2).back hl hH (h.2 i h1 (by have := h.1; omega))⟩
theorem WR.back {C C' : Cx} {w w' : World} (hl : Later C C') (hH : C'.H = C.H) (hW : WR C w) (hW' : WR C' w') : WR C w' := by
  refine ⟨fun b B δ hs => ?_, hW.one⟩
  obtain ⟨k, hk, cs, elem, fz, hB, h1, h2, hf, hv, hr⟩ := hW.blk b B δ hs
  obtain ⟨k', hk', _, _, _, hs'⟩ := hl.blk b k hk
  rw [hH, hk] at hk'
  cases hk'
  obtain ⟨h3, h4⟩ := hs' rfl _ hs
  obtain ⟨k2, hk2, cs2, elem2, fz2, hB2, i1, i2, _, iv, ir⟩ := hW'.blk b B δ h3
  rw [hH, hk] at hk2
  cases hk2
  exact ⟨k, hk, cs2, elem2, fz2, hB2, by rw [i1, h4], i2, hf, hv.back hl hH iv, ir⟩
/-- A call that leaves the small language's memory as it was. -/
theorem Acts.back {C : Cx} {n0 B0 : Nat} {w w' : World} {v v' : Value} (hW : WR C w) (h : Acts n0 B0 C w C.H v v' w') : WR C w' ∧ Ext n0 B0 C w C w' ∧ ∃ C', VR C' v v' := by
  obtain ⟨C', hH, hW', hX, hv⟩ := h
  exact ⟨hW.back hX.toLater hH hW', ⟨.refl C, Nat.le_refl _, fun b B δ hs => .inl ⟨hs, (hW.lt hs).1⟩, hX.hsz, fun b _ hs => ⟨hs, rfl⟩, hX.keep, hX.os, hX.fz⟩, C', hv⟩
theorem WR.keptB {C : Cx} {w w' : World} {B0 : Nat} (hW : WR C w) (hi : ∀ b B δ, C.σ b = some (B, δ) → B < B0) (hb : Below B0 w w') : WR C w' := by
  refine ⟨fun b B δ hs => ?_, hW.one⟩
  obtain ⟨k, hk, cs, elem, fz, hB, r⟩ := hW.blk b B δ hs
  exact ⟨k, hk, cs, elem, fz, (hb.block B (hi b B δ hs)).trans hB, r⟩
theorem cell_row {w : World} {B o n j : Nat} {c : Array Value} {elem : TypeId} {fz : Nat × Nat} {v : Value} (hB : w.heap[B]? = some (.cells c elem fz)) (h : ((c.toList.drop o).take n)[j]? = some v) : w.cell? ⟨B, o + j, none⟩ = some v := by
  rw [List.getElem?_take] at h
  split at h
  · rw [List.getElem?_drop] at h
    unfold World.cell?
    rw [hB]
    simpa using h
  · cases h
/-- All from B on is kept. -/
structure Up (B : Nat) (w w' : World) : Prop where
  size : w.heap.size ≤ w'.heap.size
  blk : ∀ k, B ≤ k → k < w.heap.size → w'.heap[k]? = w.heap[k]?
section
variable {P : Program} {inv : FuncId → Option Nat} {isPure : Nat → Bool} {ρ : Nat → FuncId} {Gl : Glb}
/-- A call that leaves the small language's memory as it was, from the same context. -/
theorem calls_back {T : Tab} (hmix : P.follows .mixedOrders = true) (hi : ∀ f i, inv f = some i → ρ i = f) (hT : ∀ f D, T f = some D → DefOk P inv isPure ρ Gl f D) {C : Cx} {w : World} {pu : Bool} {f : Nat} {xs args : List Value} {v : Value}
    (hc : Call T pu f xs C.H = some (v, C.H)) (hρ : C.ρ = ρ) (hW : WR C w) (hG : Prot Gl C w) (hx : VRs C xs args) :
    Calls P (ρ f) args.toArray w fun e w' => ∃ v', e = .returned v' ∧ (∃ C', VR C' v v') ∧ WR C w' ∧ Prot Gl C w' ∧ Ext C.H.length w.heap.size C w C w' := by
  obtain ⟨k, hk⟩ := of_Call hc
  obtain ⟨_, h2⟩ := (callF_ok hmix hi hT k).1 pu f xs C.H v C.H hk
  refine (h2 C w args rfl hρ hW hG hx).mono fun e w' ⟨v', he, hA⟩ => ?_
  obtain ⟨h3, h4, h5⟩ := hA.back hW
  exact ⟨v', he, h5, h3, hG.ext (fun B o hB => hG.lt hB) h4, h4⟩
theorem Ext.step {C : Cx} {n0 : Nat} {w0 w w' : World} (h : Ext n0 w0.heap.size C w0 C w) (hb : Below w0.heap.size w w') : Ext n0 w0.heap.size C w0 C w' :=
  ⟨.refl C, Nat.le_refl _, h.fresh, Nat.le_trans h.hsz hb.size, fun b _ hs => ⟨hs, rfl⟩, fun B hB hro => (hb.block B hB).trans (h.keep B hB hro),
    ⟨hb.os.trans h.os.1, hb.output.trans h.os.2.1, hb.tape.trans h.os.2.2⟩, fun a ha => (hb.frozen ha).trans (h.fz a ha)⟩
/-- What is so all along a call that keeps the small language's memory. -/
structure Stay (Gl : Glb) (C : Cx) (w0 w : World) : Prop where
  wr : WR C w
  pr : Prot Gl C w
  ex : Ext C.H.length w0.heap.size C w0 C w
theorem Stay.step {C : Cx} {w0 w w' : World} (h0 : WR C w0) (hG : Prot Gl C w0) (h : Stay Gl C w0 w) (hb : Below w0.heap.size w w') : Stay Gl C w0 w' :=
  ⟨h.wr.keptB (fun b B δ hs => (h0.lt hs).2) hb, ⟨fun B o hB => ⟨(hb.block B (hG.lt hB)).trans (h.pr.is B o hB).1, (h.pr.is B o hB).2⟩, h.pr.pin⟩, h.ex.step hb⟩
/-- A call within. -/
theorem Stay.call {T : Tab} (hmix : P.follows .mixedOrders = true) (hi : ∀ f i, inv f = some i → ρ i = f) (hT : ∀ f D, T f = some D → DefOk P inv isPure ρ Gl f D) {C : Cx} {w0 w : World} (h0 : WR C w0) (h : Stay Gl C w0 w) {pu : Bool} {f : Nat}
    {xs args : List Value} {v : Value} (hc : Call T pu f xs C.H = some (v, C.H)) (hρ : C.ρ = ρ) (hx : VRs C xs args) :
    Calls P (ρ f) args.toArray w fun e w' => ∃ v', e = .returned v' ∧ (∃ C', VR C' v v') ∧ Stay Gl C w0 w' ∧ Up w0.heap.size w w' := by
  refine (calls_back hmix hi hT hc hρ h.wr h.pr hx).mono fun e w' ⟨v', he, hv, h1, h2, h3⟩ => ?_
  refine ⟨v', he, hv, ⟨h1, h2, h.ex.trans (h3.weaken (Nat.le_refl _) h.ex.hsz) (Nat.le_refl _)⟩, h3.hsz, fun k hk hlt => h3.keep k hlt fun b kk δ _ hs => ?_⟩
  have := (h0.lt hs).2
  dsimp only at this
  omega
theorem ext271_ok {T : Tab} (hmix : P.follows .mixedOrders = true) (hi : ∀ f i, inv f = some i → ρ i = f) (hT : ∀ f D, T f = some D → DefOk P inv isPure ρ Gl f D) (hf : Callable P (ρ 271))
    (hno : ∀ (x : Value) (w0 : World) (S : World → Prop), (Calls P (ρ 163) #[x] w0 fun e w' => e = .returned (.bool false) ∧ S w') → Calls P (ρ 271) #[x] w0 fun e w' => e = .returned (.string ⟨#[]⟩) ∧ S w')
    (hyes : ∀ (p : Option Addr) (n cap : Nat) (t : Nat → List UInt8) (w0 : World) (S : World → Prop), n ≤ 1000000 → (∀ i, (t i).length ≤ 1000000) →
      (Calls P (ρ 163) #[.slice p n cap] w0 fun e w' => e = .returned (.bool true) ∧ S w' ∧ w0.heap.size ≤ w'.heap.size) →
      (∀ w w', S w → Below w0.heap.size w w' → S w') →
      (∀ w, S w → ∀ i, i < n → ∃ Bk o a0 a1 a2 a3 q m mc, p = some ⟨Bk, o, none⟩ ∧ w.cell? ⟨Bk, o + i * 5, none⟩ = some (.int .i8 a0) ∧ w.cell? ⟨Bk, o + i * 5 + 1, none⟩ = some (.int .i8 a1) ∧ w.cell? ⟨Bk, o + i * 5 + 2, none⟩ = some (.int .i8 a2) ∧
        w.cell? ⟨Bk, o + i * 5 + 3, none⟩ = some (.int .i8 a3) ∧ w.cell? ⟨Bk, o + i * 5 + 4, none⟩ = some (.slice q m mc) ∧
        ∀ w2, Below w.heap.size w w2 → Calls P (ρ 465) #[.agg #[.int .i8 a0, .int .i8 a1, .int .i8 a2, .int .i8 a3, .slice q m mc]] w2 fun e w' => e = .returned (.string ⟨(t i).toArray⟩) ∧ S w' ∧ Up w0.heap.size w2 w') →
      Calls P (ρ 271) #[.slice p n cap] w0 fun e w' => e = .returned (.string ⟨(catT t n).toArray⟩) ∧ S w') :
    DefOk P inv isPure ρ Gl 271 (.ext .pure (ext271 T)) := by
  refine ⟨hf, fun xs H v H' h => ?_⟩
  unfold ext271 at h
  split at h
  · rename_i x
    split at h
    · rename_i hc
      cases h
      refine ⟨.refl, fun C w args hH hρ hW hG hx => ?_⟩
      subst hH
      match args, hx.1 with
      | [a], _ =>
        have h1 := Stay.call hmix hi hT hW ⟨hW, hG, ⟨.refl C, Nat.le_refl _, fun b B δ hs => .inl ⟨hs, (hW.lt hs).1⟩, Nat.le_refl _, fun b _ hs => ⟨hs, rfl⟩, fun _ _ _ => rfl, ⟨rfl, rfl, rfl⟩, fun _ _ => rfl⟩⟩ hc hρ hx
        refine (hno a w (fun w' => Stay Gl C w w') (h1.mono fun e w' ⟨v', he, ⟨C', hv⟩, hs, _⟩ => ⟨by rw [he, hv.bool_inv], hs⟩)).mono fun e w' ⟨he, hs⟩ => ?_
        exact ⟨_, he, C, rfl, hs.wr, hs.ex, .string _⟩
    · split at h
      · rename_i hex
        cases h
        obtain ⟨n, t, hst, hs⟩ := hex.choose_spec
        rw [hs]
        refine ⟨.refl, fun C w args hH hρ hW hG hx => ?_⟩
        subst hH
        match args, hx.1 with
        | [a], _ =>
          have hxa : VR C x a := hx.2 0 (by simp) (by simp)
          have h0 : Stay Gl C w w := ⟨hW, hG, ⟨.refl C, Nat.le_refl _, fun b B δ hs => .inl ⟨hs, (hW.lt hs).1⟩, Nat.le_refl _, fun b _ hs => ⟨hs, rfl⟩, fun _ _ _ => rfl, ⟨rfl, rfl, rfl⟩, fun _ _ => rfl⟩⟩
          have h1 := Stay.call hmix hi hT hW h0 hst.ok hρ hx
          obtain ⟨p, cap, rfl, hat⟩ := hst.is
          obtain ⟨p', cap', rfl⟩ : ∃ p' cap', a = .slice p' n cap' := by cases hxa <;> exact ⟨_, _, rfl⟩
          refine (hyes p' n cap' t w (fun w' => Stay Gl C w w') hst.le hst.len (h1.mono fun e w' ⟨v', he, ⟨C', hv⟩, hs, hu⟩ => ⟨by rw [he, hv.bool_inv], hs, hu.size⟩) (fun w1 w2 hs hb => hs.step hW hG hb) fun w1 hs1 i hin => ?_).mono fun e w' ⟨he, hs⟩ => ⟨_, he, C, rfl, hs.wr, hs.ex, .string _⟩
          obtain ⟨b, off, ver, a0, a1, a2, a3, q, m, mc, rfl, hrd, hcall⟩ := hat i hin
          cases hxa with
          | empty _ => omega
          | @slice a0' a' len cap0 cap0' har hl1 hl2 hr =>
            obtain ⟨k, hk, hver, _, _⟩ := rd_inv hrd
            obtain ⟨B, δ, hs, rfl⟩ := har.now hk hver
            have har2 : AR C ⟨b, off + i * 5, some ver⟩ ⟨B, off + δ + i * 5, none⟩ := by
              rw [hver, show off + δ + i * 5 = (off + i * 5) + δ by omega]
              exact .cur hk hs
            obtain ⟨B2, o2, c, elem, fz, e1, hB, hle, hvr, hfl⟩ := rd_sound hs1.wr hrd har2
            cases e1
            obtain ⟨y0, g0, v0⟩ := hvr.get (i := 0) (v := .int .i8 a0) rfl
            obtain ⟨y1, g1, v1⟩ := hvr.get (i := 1) (v := .int .i8 a1) rfl
            obtain ⟨y2, g2, v2⟩ := hvr.get (i := 2) (v := .int .i8 a2) rfl
            obtain ⟨y3, g3, v3⟩ := hvr.get (i := 3) (v := .int .i8 a3) rfl
            obtain ⟨y4, g4, v4⟩ := hvr.get (i := 4) (v := .slice q m mc) rfl
            have v4' := v4
            obtain rfl := v0.int_inv
            obtain rfl := v1.int_inv
            obtain rfl := v2.int_inv
            obtain rfl := v3.int_inv
            obtain ⟨q', m', mc', rfl⟩ : ∃ q' m' mc', y4 = .slice q' m' mc' := by cases v4 <;> exact ⟨_, _, _, rfl⟩
            refine ⟨B, off + δ, a0, a1, a2, a3, q', m', mc', rfl, cell_row (j := 0) (o := off + δ + i * 5) hB g0, cell_row (j := 1) (o := off + δ + i * 5) hB g1, cell_row (j := 2) (o := off + δ + i * 5) hB g2, cell_row (j := 3) (o := off + δ + i * 5) hB g3, cell_row (j := 4) (o := off + δ + i * 5) hB g4, fun w2 hb2 => ?_⟩
            have hs2 := hs1.step hW hG (hb2.mono hs1.ex.hsz)
            have hxs : VRs C [.agg #[.int .i8 a0, .int .i8 a1, .int .i8 a2, .int .i8 a3, .slice q m mc]] [.agg #[.int .i8 a0, .int .i8 a1, .int .i8 a2, .int .i8 a3, .slice q' m' mc']] := by
              refine .cons ?_ .nil
              have h5 : VRs C [.int .i8 a0, .int .i8 a1, .int .i8 a2, .int .i8 a3, .slice q m mc] [.int .i8 a0, .int .i8 a1, .int .i8 a2, .int .i8 a3, .slice q' m' mc'] := .cons (.int _ _) (.cons (.int _ _) (.cons (.int _ _) (.cons (.int _ _) (.cons v4' .nil))))
              exact h5.mk_agg hfl
            exact (Stay.call hmix hi hT hW hs2 hcall hρ hxs).mono fun e w' ⟨v', he, ⟨C', hv⟩, hs3, hu⟩ => ⟨by rw [he, hv.string_inv], hs3, hu⟩
      · cases h
  · cases h
end
end Fb
