/- One statement of a region, wherever it stands. -/
import Derived.Test.YtimijcjjmeemeaaSoundQ
set_option linter.unusedVariables false
set_option linter.unusedSimpArgs false
namespace Fb
open Go

section
variable {P : Program} {inv : FuncId → Option Nat} {isPure : Nat → Bool} {h : Hint} {nt : Nat} {ops : Array Oper} {am : List (Nat × Nat)} {xs : List (Nat × Stm)} {dep : Nat → Nat → Prop}
variable {cl : Cl} {n0 B0 : Nat} {wb : Bool} {E : Nat → Env} {Hs : Nat → Heap} {C0 : Cx} {w0 : World}
theorem getx {p : Nat} (hp : p < xs.length) : ∃ i b, xs[p]? = some (i, b) := ⟨xs[p].1, xs[p].2, List.getElem?_eq_getElem hp⟩
theorem heap_len (hel : ClEld cl) (hT : Trace cl n0 wb xs E Hs) (h0 : n0 ≤ (Hs 0).length) : ∀ {p : Nat}, p ≤ xs.length → n0 ≤ (Hs p).length
  | 0, _ => h0
  | p + 1, hp => by
    have ih := heap_len hel hT h0 (p := p) (by omega)
    obtain ⟨i, b, hb⟩ := getx (xs := xs) (show p < xs.length by omega)
    rcases hT p i b hb with ⟨_, _, v, hv, _⟩ | ⟨_, he, _⟩
    · exact Nat.le_trans ih (ev1_eld hel ih hv).1
    · rw [he]; exact ih
theorem heap_mono (hel : ClEld cl) (hT : Trace cl n0 wb xs E Hs) (h0 : n0 ≤ (Hs 0).length) {p : Nat} : ∀ {r : Nat}, p ≤ r → r ≤ xs.length → (Hs p).length ≤ (Hs r).length
  | 0, h1, _ => by obtain rfl : p = 0 := by omega
                   exact Nat.le_refl _
  | r + 1, h1, h2 => by
    rcases Nat.eq_or_lt_of_le h1 with h3 | h3
    · rw [h3]; exact Nat.le_refl _
    · have ih := heap_mono hel hT h0 (p := p) (r := r) (by omega) (by omega)
      obtain ⟨i, b, hb⟩ := getx (xs := xs) (show r < xs.length by omega)
      rcases hT r i b hb with ⟨_, _, v, hv, _⟩ | ⟨_, he, _⟩
      · exact Nat.le_trans ih (ev1_eld hel (heap_len hel hT h0 (by omega)) hv).1
      · rw [he]; exact ih
theorem nonact_heap {o : Op1} (hm : o.meets ≠ .acts) {e : Env} {H H' : Heap} {v : Value} (hv : ev1 cl n0 wb e H o = some (v, H')) : (o.meets ≠ .adds → H' = H) ∧ (o.meets = .adds → ∃ b, H' = H ++ [b]) := by
  cases hmo : o.meets with
  | no =>
    rw [no_ev1 hmo] at hv
    obtain ⟨_, _, hv⟩ := Option.map_eq_some_iff.1 hv
    cases hv
    exact ⟨fun _ => rfl, fun h => by cases h⟩
  | reads =>
    have := (read_frame (H' := H) hmo (fun _ _ _ _ _ => rfl) hv).1
    exact ⟨fun _ => this, fun h => by cases h⟩
  | acts => exact absurd hmo hm
  | adds =>
    refine ⟨fun h => absurd rfl h, fun _ => ?_⟩
    cases o with
    | new => cases hv; exact ⟨_, rfl⟩
    | box n x =>
      simp only [ev1] at hv
      split at hv
      · cases hv; exact ⟨_, rfl⟩
      · cases hv
    | bldS =>
      simp only [ev1] at hv
      obtain ⟨_, _, hv⟩ := Option.map_eq_some_iff.1 hv
      cases hv; exact ⟨_, rfl⟩
    | mkS =>
      simp only [ev1] at hv
      split at hv
      · split at hv
        · cases hv; exact ⟨_, rfl⟩
        · cases hv
      · cases hv
    | _ => cases hmo
/-- Between acts the heap only grows. -/
theorem heap_grow (hT : Trace cl n0 wb xs E Hs) {p : Nat} : ∀ {r : Nat}, p ≤ r → r ≤ xs.length → (∀ q, p ≤ q → q < r → ¬ IsAct xs q) → ∃ L, Hs r = Hs p ++ L
  | 0, h1, _, _ => by obtain rfl : p = 0 := by omega
                      exact ⟨[], by simp⟩
  | r + 1, h1, h2, h3 => by
    rcases Nat.eq_or_lt_of_le h1 with h4 | h4
    · rw [h4]; exact ⟨[], by simp⟩
    · obtain ⟨L, hL⟩ := heap_grow hT (p := p) (r := r) (by omega) (by omega) fun q h5 h6 => h3 q h5 (by omega)
      obtain ⟨i, b, hb⟩ := getx (xs := xs) (show r < xs.length by omega)
      rcases hT r i b hb with ⟨_, _, v, hv, _⟩ | ⟨_, he, _⟩
      · have hna : b.o.meets ≠ .acts := fun e => h3 r (by omega) (by omega) ⟨i, b, hb, e⟩
        obtain ⟨g1, g2⟩ := nonact_heap hna hv
        by_cases hadd : b.o.meets = .adds
        · obtain ⟨k, hk⟩ := g2 hadd
          exact ⟨L ++ [k], by rw [hk, hL, List.append_assoc]⟩
        · exact ⟨L, by rw [g1 hadd, hL]⟩
      · exact ⟨L, by rw [he, hL]⟩
theorem guard_plain {l : Look} {slots : Nat → Option Nat} {og : Option (Nat × Bool)} {t : Nat} {b : Bool} (hg : guardOf h l slots og = some (some (t, b))) : l.plain h t = true ∧ ∃ j, og = some (j, b) ∧ slots j = some t := by
  cases og with
  | none => cases hg
  | some jw =>
    obtain ⟨j, b'⟩ := jw
    simp only [guardOf] at hg
    obtain ⟨t', ht, hg⟩ := Option.bind_eq_some_iff.1 hg
    split at hg
    · cases hg; exact ⟨‹_›, j, rfl, ht⟩
    · cases hg
/-- Address slots are written by address operations alone. -/
theorem adr_writer (hR : Rg P inv isPure h nt ops am xs dep) {q j s d : Nat} {b : Stm} (hb : xs[q]? = some (j, b)) (hbd : b.d = some s) (ha : amFind am s = some d) : adrVar b.o = some d := by
  obtain ⟨o, ho, hok, _⟩ := hR.stm q j b hb
  have hd := hok.d
  have h1 := hok.ok
  obtain ⟨g1, g2, g3⟩ := hR.amok s d ha
  unfold dstOk at h1
  cases hadr : adrVar b.o with
  | some p =>
    rw [hadr] at h1
    have hsd : b.d = o.dst := by
      rw [hd]; unfold dstOf
      split
      · rename_i h2; rw [h2] at hadr; cases hadr
      · rfl
    rw [hbd] at hsd
    rw [← hsd] at h1
    simp only [Bool.and_eq_true, beq_iff_eq] at h1
    have : amFind am s = some p := h1.2
    rw [ha] at this
    exact this.symm
  | none =>
    rw [hadr] at h1
    exfalso
    by_cases hst : ∃ p s m x, b.o = .stV p s m x
    · obtain ⟨p, s', m, x, hst⟩ := hst
      have hsp : b.d = some p := by rw [hd, hst]; rfl
      rw [hbd] at hsp
      cases hsp
      have hc : comp1 P inv isPure h ⟨am, looksAt (slotsOf ops) o⟩ o = some (.stV s s' m x) := by
        rcases hok.c with hc | hc
        · rw [hst] at hc; exact hc
        · rw [hst] at hc; cases hc
      have := stV_vars (l := ⟨am, looksAt (slotsOf ops) o⟩) (fun s p hs => (hR.amok s p hs).2.2) hc
      rw [this] at g1; cases g1
    · have hst' : ∀ p s m x, b.o ≠ .stV p s m x := fun p s m x e => hst ⟨p, s, m, x, e⟩
      have hsd : b.d = o.dst := by
        rw [hd]; unfold dstOf
        split
        · exact absurd ‹_› (hst' _ _ _ _)
        · rfl
      rw [hbd] at hsd
      rw [← hsd] at h1
      have hok2 : ((Look.var ⟨am, looksAt (slotsOf ops) o⟩ s).isNone && (!h.vars.contains s || (isNew o && h.keep.contains s))) = true := by
        revert h1
        cases hso : b.o <;> first | exact absurd hso (hst' _ _ _ _) | exact id
      simp only [Bool.and_eq_true, Option.isNone_iff_eq_none] at hok2
      have : amFind am s = none := hok2.1
      rw [ha] at this; cases this
theorem adr_reads {b : Op1} {d : Nat} (h : adrVar b = some d) : d ∈ b.reads := by
  cases b <;> first | cases h; done | (cases h; simp [Op1.reads])
/-- No address of a variable that is to be made anew is at hand. -/
theorem no_adr (hR : Rg P inv isPure h nt ops am xs dep) (hT : Trace cl n0 wb xs E Hs) (h0 : ∀ s, h.keep.contains s = false → E 0 s = U) {D : Nat → Prop} (hclosed : ∀ p q, p < q → q < xs.length → dep p q → D q → D p) {p i : Nat} {st : Stm} (hp : xs[p]? = some (i, st)) (hnd : ¬ D p)
    {eD : Env} (hE : ∀ s, ∃ r, r ≤ xs.length ∧ (∀ p, p < r → Wr xs p s → D p) ∧ (r < xs.length → Wr xs r s ∧ ¬ D r) ∧ eD s = E r s) :
    ∀ d, st.d = some d → h.vars.contains d = true → (∀ p s m x, st.o ≠ .stV p s m x) → ∀ s, amFind am s = some d → offV (eD s) = none := by
  intro d hd hdv hst s hs
  obtain ⟨r, h1, h2, h3, h4⟩ := hE s
  obtain ⟨g1, g2, g3⟩ := hR.amok s d hs
  rw [h4, slot_keep hT (Nat.zero_le r) h1 (fun q _ hq hw => ?_), h0 s g2]
  · rfl
  · have hdq := h2 q hq hw
    obtain ⟨j, b, hb, hbd⟩ := hw
    have hadr := adr_writer hR hb hbd hs
    rcases Nat.lt_trichotomy q p with h5 | h5 | h5
    · have := hR.rem q p j b i st h5 hb hp
      unfold remade at this
      rw [hadr] at this
      revert this
      cases hso : st.o <;> first | exact absurd hso (hst _ _ _ _) | (simp only [hd, beq_self_eq_true, Bool.and_true, hdv]; exact fun h => by cases h)
    · subst h5; exact hnd hdq
    · have hdr : d ∈ b.rds := List.mem_append_left _ (adr_reads hadr)
      rcases hR.slot p q i st j b h5 hp hb with h8 | h8
      · exact hnd (hclosed p q h5 (by omega) h8 hdq)
      · rw [clash_rd hd hdr] at h8; cases h8
theorem from_reads {o : Op1} {x : Opd} (hx : o.from = some x) : ∀ t ∈ x.rs, t ∈ o.reads := by
  intro t ht
  cases o <;> first | cases hx; done | (cases hx; first | exact ht | (simp only [Op1.reads, rsOf, List.mem_flatMap]; exact ⟨_, by simp, ht⟩))
/-- What a read sees is there, though acts behind it are done. -/
theorem read_keep (hel : ClEld cl) (hR : Rg P inv isPure h nt ops am xs dep) (hT : Trace cl n0 wb xs E Hs) (hn0 : n0 ≤ (Hs 0).length) {D : Nat → Prop} (hclosed : ∀ p q, p < q → q < xs.length → dep p q → D q → D p) {p i : Nat} {st : Stm} (hp : xs[p]? = some (i, st)) (hnd : ¬ D p)
    (hm : st.o.meets = .reads) (hHp : Hs (p + 1) = Hs p) {x : Opd} {b : Nat} (hx : st.o.from = some x) (hb : blkOf (x.ev (E p)) = some b) (hlt : b < (Hs p).length) :
    ∀ {r : Nat}, p < r → r ≤ xs.length → (∀ q, q < r → IsAct xs q → D q) → (Hs r)[b]? = (Hs p)[b]?
  | 0, h1, _, _ => by omega
  | r + 1, h1, h2, h3 => by
    rcases Nat.eq_or_lt_of_le h1 with h4 | h4
    · obtain rfl : p = r := by omega
      rw [hHp]
    · have hpr : p < r := by omega
      have ih := read_keep hel hR hT hn0 hclosed hp hnd hm hHp hx hb hlt hpr (by omega) fun q h5 h6 => h3 q (by omega) h6
      rw [← ih]
      have hlr : b < (Hs r).length := Nat.lt_of_lt_of_le hlt (heap_mono hel hT hn0 (by omega) (by omega))
      obtain ⟨j, s, hs⟩ := getx (xs := xs) (show r < xs.length by omega)
      rcases hT r j s hs with ⟨_, ⟨hap, hlf⟩, v, hv, _⟩ | ⟨_, he, _⟩
      · by_cases hact : s.o.meets = .acts
        · have hdr : D r := h3 r (by omega) ⟨j, s, hs, hact⟩
          have hnodep : ¬ dep p r := fun hd => hnd (hclosed p r hpr (by omega) hd hdr)
          rcases hR.reads p r i st j s hpr hp hs hm hact with h5 | h5 | ⟨n, y, h6, h7, rfl⟩
          · exact absurd h5 hnodep
          · exact act_frame hel hact hv hlr (.inl h5)
          · rw [hx] at h6
            cases h6
            have hfrm : ∀ q, p ≤ q → q < r → ¬ Wr xs q n := by
              intro q h8 h9 hw
              rcases hR.frm with h10 | h10
              · exact hnodep (h10 p r hpr)
              · obtain ⟨j', b', hb', hbd⟩ := hw
                rcases Nat.eq_or_lt_of_le h8 with h11 | h11
                · subst h11
                  rw [hp] at hb'
                  cases hb'
                  exact h10 p r i st j s hpr hp hs _ hx n (.inl hbd) (by simp [Opd.rs])
                · exact h10 p q i st j' b' h11 hp hb' _ hx n (.inr hbd) (by simp [Opd.rs])
            have hsame : E r n = E p n := slot_keep hT (Nat.le_of_lt hpr) (by omega) hfrm
            simp only [apart, List.all_eq_true] at hap
            have h12 := hap _ h7
            have hb' : blkOf ((Opd.t n).ev (E r)) = some b := by
              show blkOf (E r n) = some b
              rw [hsame]; exact hb
            rw [hb'] at h12
            cases hcl : s.o.calls with
            | false => exact act_frame hel hact hv hlr (.inr ⟨hcl, by simpa [List.contains_iff_mem] using h12⟩)
            | true =>
              simp only [stays, hcl, Bool.not_true, Bool.false_or, List.all_eq_true] at hlf
              have h13 := hlf _ h7
              rw [hb'] at h13
              simpa using h13
        · obtain ⟨g1, g2⟩ := nonact_heap hact hv
          by_cases hadd : s.o.meets = .adds
          · obtain ⟨k, hk⟩ := g2 hadd
            rw [hk, List.getElem?_append_left hlr]
          · rw [g1 hadd]
      · rw [he]
theorem sim_step {Gl : Glb} (hcl : ClOk P C0.ρ Gl cl) (hG : Prot Gl C0 w0) (hGB : ∀ B o, Gl B = some o → B < B0) (hel : ClEld cl) (hi : (∀ f i, inv f = some i → C0.ρ i = f) ∧ ∀ g, h.pin = some g → Gl.pin = some g) (hR : Rg P inv isPure h nt ops am xs dep) (hT : Trace cl n0 wb xs E Hs) (h0 : ∀ s, h.keep.contains s = false → E 0 s = U) (hn0 : n0 ≤ (Hs 0).length)
    (hB : B0 ≤ w0.heap.size) (hnC : n0 ≤ C0.H.length) {D : Nat → Prop} {C : Cx} {a : Act} {w : World} (hS : Sim h nt am xs dep E Hs n0 B0 C0 w0 D C a w) {p i : Nat} {st : Stm} (hp : xs[p]? = some (i, st)) (hnd : ¬ D p) (hdep : ∀ q, q < p → dep q p → D q)
    {Q : Exit → Act → World → Prop} {K : Act → World → Prop} (hK : ∀ C' a' w', Sim h nt am xs dep E Hs n0 B0 C0 w0 (fun q => D q ∨ q = p) C' a' w' → K a' w') : wpOp P ops Q i K a w := by
  obtain ⟨hclosed, ⟨j, hj1, hj2, hj3, hH, hadd⟩, ⟨eD, hSt, hE⟩, hW, hX, hρ⟩ := hS
  have hpl : p < xs.length := (List.getElem?_eq_some_iff.1 hp).1
  have hrd : ∀ t ∈ st.rds, eD t = E p t := fun t ht => reads_now hR hT hclosed hp hnd hdep hE ht
  obtain ⟨o, ho, hok, hlook⟩ := hR.stm p i st hp
  have hA : At C h ⟨am, looksAt (slotsOf ops) o⟩ eD a w := by
    refine hSt.at fun t h1 h2 h3 => ?_
    rcases h3 with h3 | h3
    · exact .inl h3
    · obtain ⟨g1, g2⟩ := hlook t h3
      rcases g2 with g2 | g2 | g2 | ⟨q, j', b, hq, hb, hbd⟩
      · rw [h1] at g2; cases g2
      · exact .inl g2
      · rw [h2] at g2; cases g2
      · refine .inr ⟨q, hdep q hq ?_, j', b, hb, hbd⟩
        rcases hR.slot q p j' b i st hq hb hp with h8 | h8
        · exact h8
        · rw [clash_rd hbd g1] at h8; cases h8
  have hgv : ∀ t b, st.g = some (t, b) → VR C (eD t) (a.tmps.getD t undef) := fun t b hg => by
    have h1 := hok.g
    rw [hg] at h1
    exact hA.plain t (guard_plain h1).1
  have hwant : Region.wanted o (yielded ops a.tmps) = wanted (E p) st.g := by
    rw [guard_ok hok hgv]
    cases hg : st.g with
    | none => rfl
    | some tb =>
      obtain ⟨t, b⟩ := tb
      have : eD t = E p t := hrd t (by simp [Stm.rds, hg])
      simp only [wanted, this]
  have hno := no_adr hR hT h0 hclosed hp hnd hE
  have hclosed' : ∀ q r, q < r → r < xs.length → dep q r → (D r ∨ r = p) → (D q ∨ q = p) := fun q r h1 h2 h3 h4 => by
    rcases h4 with h4 | h4
    · exact .inl (hclosed q r h1 h2 h3 h4)
    · subst h4; exact .inl (hdep q h1 h3)
  have hDf : ∀ s, (h.keep.contains s = true ∨ ∃ q, (D q ∨ q = p) ∧ Wr xs q s) → ((h.keep.contains s = true ∨ ∃ q, D q ∧ Wr xs q s) ∨ st.d = some s) := by
    rintro s (h1 | ⟨q, h1 | h1, h2⟩)
    · exact .inl (.inl h1)
    · exact .inl (.inr ⟨q, h1, h2⟩)
    · subst h1
      obtain ⟨j', b, hb, hbd⟩ := h2
      rw [hp] at hb
      cases hb
      exact .inr hbd
  have hBw : B0 ≤ w.heap.size := Nat.le_trans hB hX.hsz
  have hnw : n0 ≤ C.H.length := Nat.le_trans hnC hX.len
  have hiC : Inv inv h C := ⟨fun f i hf => by rw [hρ]; exact hi.1 f i hf, fun g hg => (hG.pin g (hi.2 g hg)).later hX.toLater⟩
  have hlenp := heap_len hel hT hn0 (Nat.le_of_lt hpl)
  -- acts behind: where p stands
  have hbefore : st.o.meets ≠ .no → st.o.meets ≠ .acts → p < j := fun h1 h2 => by
    rcases Nat.lt_or_ge j xs.length with h3 | h3
    · obtain ⟨⟨i', b, hb, hba⟩, h5⟩ := hj3 h3
      rcases Nat.lt_trichotomy p j with h4 | h4 | h4
      · exact h4
      · subst h4; rw [hp] at hb; cases hb; exact absurd hba h2
      · exact absurd (hdep j h4 (hR.acts j p i' b i st h4 hb hp hba h1)) h5
    · omega
  have hat : st.o.meets = .acts → p = j := fun h1 => by
    rcases Nat.lt_trichotomy p j with h4 | h4 | h4
    · exact absurd (hj2 p h4 ⟨i, st, hp, h1⟩) hnd
    · exact h4
    · obtain ⟨⟨i', b, hb, hba⟩, h5⟩ := hj3 (by omega)
      exact absurd (hdep j h4 (hR.acts j p i' b i st h4 hb hp hba (by rw [h1]; exact fun h => by cases h))) h5
  -- the same heap behind it
  have keepH : st.o.meets ≠ .acts → ∀ {C' : Cx}, C'.H = C.H → (∀ q, q < j → Added xs E q → ¬ (D q ∨ q = p) → C'.σ (Hs q).length = none) →
      ∃ j, j ≤ xs.length ∧ (∀ q, q < j → IsAct xs q → (D q ∨ q = p)) ∧ (j < xs.length → IsAct xs j ∧ ¬ (D j ∨ j = p)) ∧ C'.H = Hs j ∧
        ∀ q, q < j → Added xs E q → ¬ (D q ∨ q = p) → C'.σ (Hs q).length = none ∧ C'.H[(Hs q).length]? = (Hs (q + 1))[(Hs q).length]? := by
    intro hna C' hC' hσ
    refine ⟨j, hj1, fun q h1 h2 => .inl (hj2 q h1 h2), fun h1 => ⟨(hj3 h1).1, ?_⟩, hC'.trans hH, fun q h1 h2 h3 => ⟨hσ q h1 h2 h3, ?_⟩⟩
    · rintro (h2 | h2)
      · exact (hj3 h1).2 h2
      · subst h2
        obtain ⟨⟨i', b, hb, hba⟩, _⟩ := hj3 h1
        rw [hp] at hb; cases hb; exact hna hba
    · rw [hC']; exact (hadd q h1 h2 fun h => h3 (.inl h)).2
  -- the next act's heap
  have nextH : st.o.meets = .acts → ∀ {C1 : Cx} {w1 : World}, C1.H = Hs (p + 1) → WR C1 w1 → Ext C.H.length w.heap.size C w C1 w1 →
      ∃ L, (∃ j, j ≤ xs.length ∧ (∀ q, q < j → IsAct xs q → (D q ∨ q = p)) ∧ (j < xs.length → IsAct xs j ∧ ¬ (D j ∨ j = p)) ∧ (C1.more L).H = Hs j ∧
        ∀ q, q < j → Added xs E q → ¬ (D q ∨ q = p) → (C1.more L).σ (Hs q).length = none ∧ (C1.more L).H[(Hs q).length]? = (Hs (q + 1))[(Hs q).length]?) := by
    intro hact C1 w1 hC1 hW1 hX1
    obtain rfl := hat hact
    obtain ⟨r, g1, g2, g3, g4⟩ := first_of (IsAct xs) xs.length _ (p + 1) rfl (by omega)
    obtain ⟨L, hL⟩ := heap_grow hT g1 g2 g3
    have hHr : (C1.more L).H = Hs r := by show C1.H ++ L = _; rw [hC1, hL]
    refine ⟨L, r, g2, fun q h1 h2 => ?_, fun h1 => ⟨g4 h1, ?_⟩, hHr, fun q h1 h2 h3 => ?_⟩
    · rcases Nat.lt_trichotomy q p with h5 | h5 | h5
      · exact .inl (hj2 q h5 h2)
      · exact .inr h5
      · exact absurd h2 (g3 q h5 h1)
    · rintro (h5 | h5)
      · obtain ⟨i', b, hb, hba⟩ := g4 h1
        exact hnd (hclosed p r (by omega) h1 (hR.acts p r i st i' b (by omega) hp hb hact (by rw [hba]; exact fun h => by cases h)) h5)
      · omega
    · obtain ⟨i', b, hb, hbm, hbw⟩ := h2
      have hbk : ∃ k, Hs (q + 1) = Hs q ++ [k] := by
        rcases hT q i' b hb with ⟨_, _, v, hv, _⟩ | ⟨h6, _⟩
        · exact (nonact_heap (by rw [hbm]; exact fun h => by cases h) hv).2 hbm
        · rw [hbw] at h6; cases h6
      obtain ⟨k, hk⟩ := hbk
      have hql : q < xs.length := (List.getElem?_eq_some_iff.1 hb).1
      rcases Nat.lt_or_ge q p with h5 | h5
      · obtain ⟨g5, g6⟩ := hadd q h5 ⟨i', b, hb, hbm, hbw⟩ fun h => h3 (.inl h)
        have hlt : (Hs q).length < C.H.length := by
          have : C.H[(Hs q).length]? = some k := by rw [g6, hk]; simp
          exact (List.getElem?_eq_some_iff.1 this).1
        obtain ⟨g7, g8⟩ := hX1.un _ hlt g5
        refine ⟨g7, ?_⟩
        show (C1.H ++ L)[_]? = _
        rw [List.getElem?_append_left (Nat.lt_of_lt_of_le hlt hX1.len), g8, g6]
      · have hqp : q ≠ p := fun e => h3 (.inr e)
        have hge : C1.H.length ≤ (Hs q).length := by rw [hC1]; exact heap_mono hel hT hn0 (by omega) (by omega)
        refine ⟨unlaid hW1 hge, ?_⟩
        rw [hHr]
        obtain ⟨L2, hL2⟩ := heap_grow hT (p := q + 1) (r := r) (by omega) g2 fun q' h6 h7 => g3 q' (by omega) h7
        rw [hL2, List.getElem?_append_left (by rw [hk]; simp)]
  unfold wpOp
  simp only [ho, hwant]
  rcases hT p i st hp with ⟨hw, hap, v, hv, hE1⟩ | ⟨hw, hHp, hE1⟩
  · rw [hw, if_pos rfl]
    refine .inl ?_
    have hc : comp1 P inv isPure h ⟨am, looksAt (slotsOf ops) o⟩ o = some st.o := by
      rcases hok.c with hc | hc
      · exact hc
      · rw [hc] at hv; cases hv
    have hvD : ev1 cl n0 wb eD (Hs p) st.o = some (v, Hs (p + 1)) := by
      rw [ev1_congr (e' := E p) fun t ht => hrd t (List.mem_append_left _ ht)]; exact hv
    have hEn : ∀ s, ∃ r, r ≤ xs.length ∧ (∀ q, q < r → Wr xs q s → (D q ∨ q = p)) ∧ (r < xs.length → Wr xs r s ∧ ¬ (D r ∨ r = p)) ∧ put eD st.d v s = E r s :=
      env_next hR hT hclosed hp hnd hdep hE (fun s hs => put_other hs) fun d hd => by rw [hE1, hd]; simp [put, upd]
    cases hm : st.o.meets with
    | no =>
      rw [no_ev1 hm] at hvD
      obtain ⟨v0, hv0, hvD⟩ := Option.map_eq_some_iff.1 hvD
      obtain ⟨rfl, _⟩ := Prod.mk.inj hvD
      refine no_step hiC hok hc hm hSt hA hW hv0 hno n0 hBw K Q fun v' w' hR' => hK C _ _ ?_
      obtain ⟨g1, g2, g3⟩ := hR'
      exact ⟨hclosed', keepH (by rw [hm]; exact fun h => by cases h) rfl fun q h1 h2 h3 => (hadd q h1 h2 fun h => h3 (.inl h)).1, ⟨_, g3.weak hDf, hEn⟩, g1, hX.trans g2 hB, hρ⟩
    | reads =>
      have hpj := hbefore (by rw [hm]; exact fun h => by cases h) (by rw [hm]; exact fun h => by cases h)
      have hHp := (read_frame (H' := Hs p) hm (fun _ _ _ _ _ => rfl) hvD).1
      obtain ⟨_, hvC⟩ := read_frame (H' := C.H) hm (fun x b hx hb hlt => by
        have hbE : blkOf (x.ev (E p)) = some b := by
          rw [← ev_congr (e := eD) (fun t ht => hrd t (List.mem_append_left _ (from_reads hx t ht)))]; exact hb
        rw [hH]
        exact read_keep hel hR hT hn0 hclosed hp hnd hm hHp hx hbE hlt hpj hj1 hj2) hvD
      obtain ⟨_, hg⟩ := read_sound hiC hA hW hc hm hvC
      refine hg.ends K Q fun v' w' hR' => hK C _ _ ?_
      obtain ⟨rfl, hvr⟩ := hR'
      exact ⟨hclosed', keepH (by rw [hm]; exact fun h => by cases h) rfl fun q h1 h2 h3 => (hadd q h1 h2 fun h => h3 (.inl h)).1,
        ⟨_, (plain_step hok hc (by rw [hm]; exact fun h => by cases h) hSt hvr).weak hDf, hEn⟩, hW, hX, hρ⟩
    | adds =>
      have hpj := hbefore (by rw [hm]; exact fun h => by cases h) (by rw [hm]; exact fun h => by cases h)
      obtain ⟨blk, hblk, hver, hro, hfl, hends⟩ := add_sound hiC hA hc hm hvD
      obtain ⟨hun, hget⟩ := hadd p hpj ⟨i, st, hp, hm, hw⟩ hnd
      have hget : C.H[(Hs p).length]? = some blk := by rw [hget, hblk]; simp
      refine hends K Q fun v' w' hR' => ?_
      obtain ⟨cs, elem, rfl, hlen, hvr, hcase⟩ := hR'
      have hW' := hW.lay (cs := cs) (elem := elem) hget hun hfl (by omega) (by rw [List.take_of_length_le (by simp; omega)]; exact hvr)
      have hXs : Ext n0 B0 C w (C.lay (Hs p).length w.heap.size cs.size) (w.alloc (.cells cs elem)) := .lay hW hun hlenp hBw
      have hXw : Ext 0 w.heap.size C w (C.lay (Hs p).length w.heap.size cs.size) (w.alloc (.cells cs elem)) := .lay hW hun (Nat.zero_le _) (Nat.le_refl _)
      have hAR : AR (C.lay (Hs p).length w.heap.size cs.size) ⟨(Hs p).length, 0, some 0⟩ ⟨w.heap.size, 0, none⟩ := by
        have := AR.cur (C := C.lay (Hs p).length w.heap.size cs.size) (off := 0) (δ := 0) (B := w.heap.size) (k := blk) hget (by simp [Cx.lay])
        rw [hver] at this
        exact this
      have hvr' : VR (C.lay (Hs p).length w.heap.size cs.size) v v' := by
        rcases hcase with ⟨rfl, rfl⟩ | ⟨n, m, rfl, h1, h2, rfl⟩
        · exact .ptr hAR
        · refine .slice hAR h1 (Nat.le_refl _) ?_
          intro k' B δ hk' _ hs' _
          have hk' : C.H[(Hs p).length]? = some k' := hk'
          rw [hget] at hk'
          cases hk'
          simp only [Cx.lay, if_true, Option.some.injEq, Prod.mk.injEq] at hs'
          obtain ⟨_, rfl⟩ := hs'
          simp only [Cx.lay, if_true]
          omega
      refine hK (C.lay (Hs p).length w.heap.size cs.size) _ _ ⟨hclosed', keepH (by rw [hm]; exact fun h => by cases h) rfl fun q h1 h2 h3 => ?_, ⟨_, (plain_step hok hc (by rw [hm]; exact fun h => by cases h) (hSt.frame hXw) hvr').weak hDf, hEn⟩, hW', hX.trans hXs hB, hρ⟩
      have hq := (hadd q h1 h2 fun h => h3 (.inl h)).1
      have hne : (Hs q).length ≠ (Hs p).length := by
        obtain ⟨i', b, hb, hbm, hbw⟩ := h2
        have hql : q < xs.length := (List.getElem?_eq_some_iff.1 hb).1
        have hqp : q ≠ p := fun e => h3 (.inr e)
        rcases Nat.lt_or_ge q p with h5 | h5
        · have hbk : ∃ k, Hs (q + 1) = Hs q ++ [k] := by
            rcases hT q i' b hb with ⟨_, _, v, hv, _⟩ | ⟨h6, _⟩
            · exact (nonact_heap (by rw [hbm]; exact fun h => by cases h) hv).2 hbm
            · rw [hbw] at h6; cases h6
          obtain ⟨k, hk⟩ := hbk
          have := heap_mono hel hT hn0 (p := q + 1) (r := p) (by omega) (by omega)
          rw [hk] at this
          simp at this
          omega
        · have := heap_mono hel hT hn0 (p := p + 1) (r := q) (by omega) (by omega)
          rw [hblk] at this
          simp at this
          omega
      show (if (Hs q).length = (Hs p).length then _ else C.σ (Hs q).length) = none
      rw [if_neg hne]; exact hq
    | acts =>
      obtain rfl := hat hm
      have hvC : ev1 cl n0 wb eD C.H st.o = some (v, Hs (p + 1)) := by rw [hH]; exact hvD
      refine act_sound hcl (hG.ext hGB hX) hρ hiC hA hW hc hm hvC (n1 := C.H.length) (B0 := w.heap.size) (Nat.le_refl _) (Nat.le_refl _) K Q fun v' w' hR' => ?_
      obtain ⟨C1, e1, hW1, hX1, hvr⟩ := hR'
      obtain ⟨L, hnext⟩ := nextH hm e1 hW1 hX1
      have hX1' : Ext n0 B0 C w C1 w' := hX1.weaken hnw hBw
      have hX2 : Ext n0 B0 C1 w' (C1.more L) w' := .more hW1 (Nat.le_trans hnw hX1.len)
      have hX3 : Ext C.H.length w'.heap.size C1 w' (C1.more L) w' := .more hW1 hX1.len
      have hSt1 := (hSt.frame hX1).frame hX3
      exact hK _ _ _ ⟨hclosed', hnext, ⟨_, (plain_step hok hc (by rw [hm]; exact fun h => by cases h) hSt1 (hvr.later .more)).weak hDf, hEn⟩, hW1.more, (hX.trans hX1' hB).trans hX2 hB, (hX2.ρ.trans hX1'.ρ).trans hρ⟩
  · rw [hw]
    simp only [Bool.false_eq_true, if_false]
    have hEn : ∀ s, ∃ r, r ≤ xs.length ∧ (∀ q, q < r → Wr xs q s → (D q ∨ q = p)) ∧ (r < xs.length → Wr xs r s ∧ ¬ (D r ∨ r = p)) ∧ skip st.o eD st.d s = E r s :=
      env_next hR hT hclosed hp hnd hdep hE (fun s hs => skip_other hs) fun d hd => by
        rw [hE1]
        by_cases hst : ∃ p s m x, st.o = .stV p s m x
        · obtain ⟨p', s', m, x, hst⟩ := hst
          have : d ∈ st.rds := by
            have h1 := hok.d
            rw [hst, hd] at h1
            have : d = p' := by simpa [dstOf] using h1
            subst this
            exact List.mem_append_left _ (by rw [hst]; simp [Op1.reads])
          rw [hst]
          exact hrd d this
        · have hsk : ∀ f : Env, skip st.o f st.d = put f st.d U := fun f => by
            unfold skip
            split
            · exact absurd ⟨_, _, _, _, ‹_›⟩ hst
            · rfl
          rw [hsk, hsk, hd]; simp [put, upd]
    have hSk := (skip_step hok hSt hno).weak hDf
    by_cases hact : st.o.meets = .acts
    · obtain rfl := hat hact
      obtain ⟨L, hnext⟩ := nextH hact (C1 := C) (w1 := w) (by rw [hHp]; exact hH) hW (.refl hW)
      have hX2 : Ext n0 B0 C w (C.more L) w := .more hW hnw
      have hX3 : Ext C.H.length w.heap.size C w (C.more L) w := .more hW (Nat.le_refl _)
      exact hK _ _ _ ⟨hclosed', hnext, ⟨_, hSk.frame hX3, hEn⟩, hW.more, hX.trans hX2 hB, hρ⟩
    · exact hK _ _ _ ⟨hclosed', keepH hact rfl fun q h1 h2 h3 => (hadd q h1 h2 fun h => h3 (.inl h)).1, ⟨_, hSk, hEn⟩, hW, hX, hρ⟩
end
end Fb
