/- Regions: the walk through them. -/
import Derived.Test.YtimijcjjmeemeaaSoundH
set_option linter.unusedVariables false
set_option linter.unusedSimpArgs false
namespace Fb
open Go

/-- What holds between regions. -/
structure Bd (h : Hint) (nt n0 B0 : Nat) (C0 : Cx) (w0 : World) (C : Cx) (e : Env) (a : Act) (w : World) : Prop where
  st : St h [] B0 nt (fun s => h.keep.contains s = true) C e a w
  un : ∀ s, h.keep.contains s = false → e s = U
  wr : WR C w
  ext : Ext n0 B0 C0 w0 C w
  rho : C.ρ = C0.ρ

section
variable {P : Program} {inv : FuncId → Option Nat} {isPure : Nat → Bool} {h : Hint} {nt : Nat} {ops : Array Oper} {am : List (Nat × Nat)} {xs : List (Nat × Stm)} {dep : Nat → Nat → Prop}
variable {cl : Cl} {n0 B0 : Nat} {wb : Bool} {E : Nat → Env} {Hs : Nat → Heap} {C0 : Cx} {w0 : World}
theorem sim_start (hel : ClEld cl) (hR : Rg P inv isPure h nt ops am xs dep) (hT : Trace cl n0 wb xs E Hs) (hn0 : n0 ≤ (Hs 0).length) (hnC : n0 ≤ C0.H.length) (hB : B0 ≤ w0.heap.size) {C : Cx} {a : Act} {w : World} (hb : Bd h nt n0 B0 C0 w0 C (E 0) a w) (hH : C.H = Hs 0) :
    ∃ C', Sim h nt am xs dep E Hs n0 B0 C0 w0 (fun _ => False) C' a w := by
  obtain ⟨hst, hun, hW, hX, hρ⟩ := hb
  obtain ⟨j, _, g2, g3, g4⟩ := first_of (IsAct xs) xs.length _ 0 rfl (Nat.zero_le _)
  obtain ⟨L, hL⟩ := heap_grow hT (Nat.zero_le j) g2 g3
  have hHj : (C.more L).H = Hs j := by show C.H ++ L = _; rw [hH, hL]
  have hnw : n0 ≤ C.H.length := Nat.le_trans hnC hX.len
  have hst0 : St h am B0 nt (fun s => h.keep.contains s = true ∨ ∃ p, False ∧ Wr xs p s) C (E 0) a w := by
    refine ⟨fun s h1 h2 h3 => hst.plain s h1 rfl (h3.resolve_right fun ⟨_, h, _⟩ => h), hst.var, hst.dist, fun s p o hs ho => ?_, hR.amok, hst.defers, hst.size⟩
    rw [hun s (hR.amok s p hs).2.1] at ho
    cases ho
  refine ⟨C.more L, fun p q _ _ _ h => h.elim, ⟨j, g2, fun p h1 h2 => absurd h2 (g3 p (Nat.zero_le _) h1), fun h1 => ⟨g4 h1, id⟩, hHj, fun p h1 h2 _ => ?_⟩, ⟨E 0, hst0.frame (n1 := C.H.length) (.more hW (Nat.le_refl _)), fun s => ?_⟩, hW.more, hX.trans (.more hW hnw) hB, hρ⟩
  · obtain ⟨i', b, hb, hbm, hbw⟩ := h2
    have hbk : ∃ k, Hs (p + 1) = Hs p ++ [k] := by
      rcases hT p i' b hb with ⟨_, _, v, hv, _⟩ | ⟨h6, _⟩
      · exact (nonact_heap (by rw [hbm]; exact fun h => by cases h) hv).2 hbm
      · rw [hbw] at h6; cases h6
    obtain ⟨k, hk⟩ := hbk
    have hpl : p < xs.length := (List.getElem?_eq_some_iff.1 hb).1
    refine ⟨unlaid hW (by rw [hH]; exact heap_mono hel hT hn0 (Nat.zero_le _) (by omega)), ?_⟩
    rw [hHj]
    obtain ⟨L2, hL2⟩ := heap_grow hT (p := p + 1) (r := j) (by omega) g2 fun q' h6 h7 => g3 q' (Nat.zero_le _) h7
    rw [hL2, List.getElem?_append_left (by rw [hk]; simp)]
  · obtain ⟨r, _, k2, k3, k4⟩ := first_of (fun q => Wr xs q s) xs.length _ 0 rfl (Nat.zero_le _)
    exact ⟨r, k2, fun q h1 h2 => absurd h2 (k3 q (Nat.zero_le _) h1), fun h1 => ⟨k4 h1, id⟩, (slot_keep hT (Nat.zero_le r) k2 k3).symm⟩
theorem mask_get {e e1 : Env} {s : Nat} : ∀ {outs : List Nat}, mask e e1 outs s = if outs.contains s then e1 s else e s
  | [] => rfl
  | o :: os => by
    simp only [mask, upd, mask_get (outs := os), List.contains_cons]
    by_cases hs : s = o
    · simp [hs]
    · simp [hs]
theorem outs_spec {ss : List Stm} {s : Nat} : (outsOf h ss).contains s = true ↔ h.keep.contains s = true ∧ ∃ x ∈ ss, x.d = some s := by
  simp only [outsOf, List.contains_iff_mem, List.mem_eraseDups, List.mem_filter, List.mem_filterMap]
  constructor
  · rintro ⟨⟨x, hx, hd⟩, hk⟩; exact ⟨hk, x, hx, hd⟩
  · rintro ⟨hk, x, hx, hd⟩; exact ⟨⟨x, hx, hd⟩, hk⟩
theorem sim_end (hR : Rg P inv isPure h nt ops am xs dep) (hT : Trace cl n0 wb xs E Hs) (h0 : ∀ s, h.keep.contains s = false → E 0 s = U) {ss : List Stm} (hss : ∀ s ∈ xs.map (·.2), ∃ s0 ∈ ss, s0.d = s.d) {D : Nat → Prop} (hD : ∀ p, p < xs.length → D p) {C : Cx} {a : Act} {w : World}
    (hS : Sim h nt am xs dep E Hs n0 B0 C0 w0 D C a w) : C.H = Hs xs.length ∧ Bd h nt n0 B0 C0 w0 C (mask (E 0) (E xs.length) (outsOf h ss)) a w := by
  obtain ⟨_, ⟨j, hj1, _, hj3, hH, _⟩, ⟨eD, hst, hE⟩, hW, hX, hρ⟩ := hS
  have hjm : j = xs.length := by
    rcases Nat.lt_or_ge j xs.length with h1 | h1
    · exact absurd (hD j h1) (hj3 h1).2
    · omega
  have heD : ∀ s, eD s = E xs.length s := fun s => by
    obtain ⟨r, g1, _, g3, g4⟩ := hE s
    rcases Nat.lt_or_ge r xs.length with h1 | h1
    · exact absurd (hD r h1) (g3 h1).2
    · obtain rfl : r = xs.length := by omega
      exact g4
  have hfin : ∀ s, h.keep.contains s = true → mask (E 0) (E xs.length) (outsOf h ss) s = eD s := fun s hk => by
    rw [mask_get, heD]
    split
    · rfl
    · rename_i ho
      refine (slot_keep hT (Nat.zero_le _) (Nat.le_refl _) fun q _ hq hw => ho ?_).symm
      obtain ⟨i, b, hb, hbd⟩ := hw
      obtain ⟨s0, h1, h2⟩ := hss b (List.mem_map.2 ⟨(i, b), List.mem_of_getElem? hb, rfl⟩)
      exact outs_spec.2 ⟨hk, s0, h1, h2.trans hbd⟩
  have hkv : ∀ p, isVar h p = true → h.keep.contains p = true := fun p hp => by
    simp only [isVar, Bool.and_eq_true] at hp; exact hp.2
  refine ⟨by rw [hH, hjm], ⟨⟨fun s h1 _ h3 => ?_, fun p hp hh => ?_, fun p p' B hp hp' hh hh' => ?_, fun s p o hs => by simp [amFind] at hs, fun s p hs => by simp [amFind] at hs, hst.defers, hst.size⟩, fun s hk => ?_, hW, hX, hρ⟩⟩
  · rw [hfin s h3]
    refine hst.plain s h1 ?_ (.inl h3)
    cases ha : amFind am s with
    | none => rfl
    | some p => have := (hR.amok s p ha).2.1; rw [h3] at this; cases this
  · rw [hfin p (hkv p hp)] at hh ⊢; exact hst.var p hp hh
  · rw [hfin p (hkv p hp)] at hh
    rw [hfin p' (hkv p' hp')] at hh'
    exact hst.dist p p' B hp hp' hh hh'
  · rw [mask_get]
    have : (outsOf h ss).contains s = false := by
      cases hc : (outsOf h ss).contains s with
      | false => rfl
      | true => have := (outs_spec.1 hc).1; rw [hk] at this; cases this
    rw [this]
    exact h0 s hk
theorem sim_congr {D D' : Nat → Prop} {C : Cx} {a : Act} {w : World} (hS : Sim h nt am xs dep E Hs n0 B0 C0 w0 D C a w) (hD : ∀ p, p < xs.length → (D p ↔ D' p)) : Sim h nt am xs dep E Hs n0 B0 C0 w0 D' C a w := by
  have hwr : ∀ p s, Wr xs p s → p < xs.length := fun p s ⟨i, b, hb, _⟩ => (List.getElem?_eq_some_iff.1 hb).1
  have hact : ∀ p, IsAct xs p → p < xs.length := fun p ⟨i, b, hb, _⟩ => (List.getElem?_eq_some_iff.1 hb).1
  have hadd : ∀ p, Added xs E p → p < xs.length := fun p ⟨i, b, hb, _⟩ => (List.getElem?_eq_some_iff.1 hb).1
  obtain ⟨h1, ⟨j, h2, h3, h4, h5, h6⟩, ⟨eD, h7, h8⟩, h9, h10, h11⟩ := hS
  refine ⟨fun p q hpq hq hd hDq => (hD p (by omega)).1 (h1 p q hpq hq hd ((hD q hq).2 hDq)), ⟨j, h2, fun p hp ha => (hD p (hact p ha)).1 (h3 p hp ha), fun hj => ⟨(h4 hj).1, fun hd => (h4 hj).2 ((hD j hj).2 hd)⟩, h5,
    fun p hp ha hn => h6 p hp ha fun hd => hn ((hD p (hadd p ha)).1 hd)⟩, ⟨eD, h7.weak fun s hs => hs.imp id fun ⟨p, hp, hw⟩ => ⟨p, (hD p (hwr p s hw)).2 hp, hw⟩, fun s => ?_⟩, h9, h10, h11⟩
  obtain ⟨r, g1, g2, g3, g4⟩ := h8 s
  exact ⟨r, g1, fun p hp hw => (hD p (hwr p s hw)).1 (g2 p hp hw), fun hr => ⟨(g3 hr).1, fun hd => (g3 hr).2 ((hD r hr).2 hd)⟩, g4⟩
end
/-- Which operations are listed. -/
def Lst (xs : List (Nat × Stm)) (listed : Array Bool) (p : Nat) : Prop := ∃ i s, xs[p]? = some (i, s) ∧ listed.getD i false = true
section
variable {P : Program} {inv : FuncId → Option Nat} {isPure : Nat → Bool} {h : Hint} {nt : Nat} {ops : Array Oper} {am : List (Nat × Nat)} {xs : List (Nat × Stm)} {dep : Nat → Nat → Prop}
variable {cl : Cl} {n0 B0 : Nat} {wb : Bool} {E : Nat → Env} {Hs : Nat → Heap} {C0 : Cx} {w0 : World}
/-- How many are not listed. -/
def left (listed : Array Bool) : Nat := listed.toList.countP (! ·)
theorem left_set {listed : Array Bool} {i : Nat} (hi : listed.getD i true = false) : left (listed.setIfInBounds i true) < left listed := by
  have hlt : i < listed.size := by
    rcases Nat.lt_or_ge i listed.size with h | h
    · exact h
    · simp [Array.getD_eq_getD_getElem?, Array.getElem?_eq_none h] at hi
  have hi' : listed.toList[i]'(by simpa using hlt) = false := by
    simpa [Array.getD_eq_getD_getElem?, Array.getElem?_eq_getElem hlt] using hi
  unfold left
  rw [Array.toList_setIfInBounds, List.countP_set (by simpa using hlt)]
  simp only [hi', Bool.not_false, if_true, Bool.not_true, Bool.false_eq_true, if_false]
  have : 0 < listed.toList.countP (! ·) := List.countP_pos_iff.2 ⟨false, by rw [← hi']; exact List.getElem_mem _, rfl⟩
  omega
theorem walk_any {Gl : Glb} (hcl : ClOk P C0.ρ Gl cl) (hG : Prot Gl C0 w0) (hGB : ∀ B o, Gl B = some o → B < B0) (hel : ClEld cl) (hi : (∀ f i, inv f = some i → C0.ρ i = f) ∧ ∀ g, h.pin = some g → Gl.pin = some g) (hR : Rg P inv isPure h nt ops am xs dep) (hT : Trace cl n0 wb xs E Hs) (h0 : ∀ s, h.keep.contains s = false → E 0 s = U) (hn0 : n0 ≤ (Hs 0).length)
    (hB : B0 ≤ w0.heap.size) (hnC : n0 ≤ C0.H.length) (hback : backward ops.toList = true) (hcov : ∀ i, i < ops.size → ∃ (p : Nat) (s : Stm), xs[p]? = some (i, s)) (hdis : ∀ (p q i : Nat) (a b : Stm), p < q → xs[p]? = some (i, a) → xs[q]? = some (i, b) → False)
    (hbit : ∀ L : Nat → Prop, Closed ops.toList L → ∀ (p q i : Nat) (a : Stm) (j : Nat) (b : Stm), xs[p]? = some (i, a) → xs[q]? = some (j, b) → dep p q → L j → L i)
    {Q : Exit → Act → World → Prop} (hQ : ∀ D C a w, (∀ p, p < xs.length → D p) → Sim h nt am xs dep E Hs n0 B0 C0 w0 D C a w → Q .normal a w) :
    ∀ (fuel : Nat) (listed : Array Bool) (C : Cx) (a : Act) (w : World), listed.size = ops.size → left listed ≤ fuel → Closed ops.toList (fun i => listed.getD i false = true) → Sim h nt am xs dep E Hs n0 B0 C0 w0 (Lst xs listed) C a w → wpAny P .any ops Q fuel listed a w := by
  have hall : ∀ (listed : Array Bool), listed.size = ops.size → Region.ready .any ops listed = [] → ∀ i, i < ops.size → listed.getD i false = true := by
    intro listed hsz hr i
    induction i using Nat.strongRecOn with
    | _ i ih =>
      intro hi
      cases hl : listed.getD i false with
      | true => rfl
      | false =>
        exfalso
        have hmem : i ∈ Region.ready .any ops listed := by
          rw [mem_ready]
          refine ⟨?_, ops[i], Array.getElem?_eq_getElem hi, fun e he hb => ?_⟩
          · have hi' : i < listed.size := by omega
            simpa [Array.getD_eq_getD_getElem?, Array.getElem?_eq_getElem hi'] using hl
          · have hlt := backward_spec hback (j := i) (o := ops[i]) (by rw [Array.getElem?_toList]; exact Array.getElem?_eq_getElem hi) e (by simpa using he) hb
            exact ih e.on hlt (by omega)
        rw [hr] at hmem
        cases hmem
  have hdone : ∀ (listed : Array Bool) (C : Cx) (a : Act) (w : World), listed.size = ops.size → Sim h nt am xs dep E Hs n0 B0 C0 w0 (Lst xs listed) C a w → Region.ready .any ops listed = [] → Q .normal a w := by
    intro listed C a w hsz hS hr
    refine hQ _ C a w (fun p hp => ?_) hS
    obtain ⟨i, s, hps⟩ := getx hp
    obtain ⟨o, ho, _⟩ := hR.stm p i s hps
    exact ⟨i, s, hps, hall listed hsz hr i (Array.getElem?_eq_some_iff.1 ho).1⟩
  intro fuel
  induction fuel with
  | zero =>
    intro listed C a w hsz hlf hclo hS
    have hr : Region.ready .any ops listed = [] := by
      rw [List.eq_nil_iff_forall_not_mem]
      intro i hmem
      have := left_set (mem_ready.1 hmem).1
      omega
    exact ⟨hr, hdone listed C a w hsz hS hr⟩
  | succ fuel ih =>
    intro listed C a w hsz hlf hclo hS
    refine ⟨fun hr => hdone listed C a w hsz hS hr, fun i hmem => ?_⟩
    obtain ⟨hil, o, ho, hedge⟩ := mem_ready.1 hmem
    have hio : i < ops.size := (Array.getElem?_eq_some_iff.1 ho).1
    obtain ⟨p, s, hp⟩ := hcov i hio
    have hilt : i < listed.size := by omega
    have hget : ∀ k, (listed.setIfInBounds i true).getD k false = if k = i then true else listed.getD k false := by
      intro k
      by_cases hk : k = i
      · subst hk; simp [hilt]
      · rw [getD_set_ne false (fun e => hk e.symm), if_neg hk]
    have hilf : listed.getD i false = false := by
      simpa [Array.getD_eq_getD_getElem?, Array.getElem?_eq_getElem hilt] using hil
    have huniq : ∀ q b, xs[q]? = some (i, b) → q = p := fun q b hq => by
      rcases Nat.lt_trichotomy q p with h1 | h1 | h1
      · exact (hdis q p i b s h1 hq hp).elim
      · exact h1
      · exact (hdis p q i s b h1 hp hq).elim
    have hclo' : Closed ops.toList (fun k => (listed.setIfInBounds i true).getD k false = true) := by
      intro j o' ho' hj e he hb
      simp only [hget] at hj ⊢
      split
      · rfl
      · split at hj
        · rename_i hji
          subst hji
          rw [Array.getElem?_toList, ho] at ho'
          cases ho'
          exact hedge e (by simpa using he) hb
        · exact hclo j o' ho' hj e he hb
    refine sim_step hcl hG hGB hel hi hR hT h0 hn0 hB hnC hS hp ?_ ?_ fun C' a' w' hS' => ?_
    · rintro ⟨i', s', h1, h2⟩
      rw [hp] at h1
      cases h1
      rw [hilf] at h2; cases h2
    · intro q hq hd
      obtain ⟨j, b, hb⟩ := getx (xs := xs) (show q < xs.length by have := (List.getElem?_eq_some_iff.1 hp).1; omega)
      refine ⟨j, b, hb, ?_⟩
      have h1 := hbit _ hclo' q p j b i s hb hp hd (by simp [hget])
      simp only [hget] at h1
      split at h1
      · rename_i hji
        subst hji
        have := huniq q b hb
        omega
      · exact h1
    · refine ih (listed.setIfInBounds i true) C' a' w' (by simp [hsz]) (by have := left_set hil; omega) hclo' (sim_congr hS' fun q hq => ?_)
      constructor
      · rintro (⟨i', s', h1, h2⟩ | rfl)
        · exact ⟨i', s', h1, by rw [hget]; split; rfl; exact h2⟩
        · exact ⟨i, s, hp, by rw [hget, if_pos rfl]⟩
      · rintro ⟨i', s', h1, h2⟩
        rw [hget] at h2
        split at h2
        · rename_i hii
          subst hii
          exact .inr (huniq q s' h1)
        · exact .inl ⟨i', s', h1, h2⟩
theorem walk_seq {Gl : Glb} (hcl : ClOk P C0.ρ Gl cl) (hG : Prot Gl C0 w0) (hGB : ∀ B o, Gl B = some o → B < B0) (hel : ClEld cl) (hi : (∀ f i, inv f = some i → C0.ρ i = f) ∧ ∀ g, h.pin = some g → Gl.pin = some g) (hR : Rg P inv isPure h nt ops am xs dep) (hT : Trace cl n0 wb xs E Hs) (h0 : ∀ s, h.keep.contains s = false → E 0 s = U) (hn0 : n0 ≤ (Hs 0).length)
    (hB : B0 ≤ w0.heap.size) (hnC : n0 ≤ C0.H.length) (hlen : xs.length = ops.size) (hid : ∀ (p i : Nat) (s : Stm), xs[p]? = some (i, s) → i = p)
    {Q : Exit → Act → World → Prop} (hQ : ∀ D C a w, (∀ p, p < xs.length → D p) → Sim h nt am xs dep E Hs n0 B0 C0 w0 D C a w → Q .normal a w) :
    ∀ (n k : Nat) (C : Cx) (a : Act) (w : World), k + n = xs.length → Sim h nt am xs dep E Hs n0 B0 C0 w0 (fun q => q < k) C a w → wpOps P ops Q (List.range' k n) a w
  | 0, k, C, a, w, hk, hS => hQ _ C a w (fun p hp => by omega) hS
  | n + 1, k, C, a, w, hk, hS => by
    rw [List.range'_succ, wpOps_cons]
    obtain ⟨i, s, hp⟩ := getx (xs := xs) (show k < xs.length by omega)
    have := hid k i s hp
    subst this
    refine sim_step hcl hG hGB hel hi hR hT h0 hn0 hB hnC hS hp (Nat.lt_irrefl _) (fun q hq _ => hq) fun C' a' w' hS' => ?_
    refine walk_seq hcl hG hGB hel hi hR hT h0 hn0 hB hnC hlen hid hQ n (i + 1) C' a' w' (by omega) (sim_congr hS' fun q hq => ?_)
    constructor
    · rintro (h1 | h1) <;> omega
    · intro h1; omega
end
end Fb
