/- A region, run by the model. -/
import Derived.Test.YtimijcjjmeemeaaSoundG
set_option linter.unusedVariables false
set_option linter.unusedSimpArgs false
namespace Fb
open Go

section
variable {P : Program} {inv : FuncId → Option Nat} {isPure : Nat → Bool} {h : Hint} {nt : Nat} {ops : Array Oper}
theorem pairOk_slot {bit : Bool} {a b : Stm} (hp : pairOk bit a b = true) : bit = true ∨ slotClash a b = false := by
  simp only [pairOk, Bool.and_eq_true, Bool.or_eq_true, Bool.not_eq_true'] at hp
  exact hp.1.1
theorem pairOk_acts {bit : Bool} {a b : Stm} (hp : pairOk bit a b = true) (ha : a.o.meets = .acts) (hb : b.o.meets ≠ .no) : bit = true := by
  simp only [pairOk, Bool.and_eq_true, ha] at hp
  have h1 := hp.1.2
  cases hbm : b.o.meets <;> rw [hbm] at h1 hb <;> first | exact h1 | exact absurd rfl hb
theorem pairOk_reads {bit : Bool} {a b : Stm} (hp : pairOk bit a b = true) (ha : a.o.meets = .reads) (hb : b.o.meets = .acts) :
    bit = true ∨ b.o.quiet = true ∨ (∃ n y, a.o.from = some (.t n) ∧ y ∈ b.fl ∧ y = .t n) := by
  simp only [pairOk, Bool.and_eq_true, ha, hb, Bool.or_eq_true] at hp
  rcases hp.1.2 with (h1 | h1) | h1
  · exact .inl h1
  · exact .inr (.inl h1)
  · have h3 := h1
    refine .inr (.inr ?_)
    split at h3
    · rename_i x hx
      obtain ⟨y, hy, hs⟩ := List.any_eq_true.1 h3
      unfold sameOpd at hs
      split at hs
      · rename_i n m
        have : n = m := by simpa using hs
        subst this
        exact ⟨n, _, hx, hy, rfl⟩
      · cases hs
    · cases h3
theorem pairOk_frm {bit : Bool} {a b : Stm} (hp : pairOk bit a b = true) : ∀ x, a.o.from = some x → ∀ d, a.d = some d ∨ b.d = some d → d ∉ x.rs := by
  intro x hx d hd
  simp only [pairOk, Bool.and_eq_true, hx] at hp
  have h1 := List.all_eq_true.1 hp.2 d (by rcases hd with h | h <;> simp [h])
  simpa [List.contains_iff_mem] using h1
theorem stmOf_ok {am : List (Nat × Nat)} {o : Oper} {s s' : Stm} (hs : stmOf P inv isPure h nt (slotsOf ops) am o = some s) (he : s' = { s with fl := s'.fl }) : StmOk P inv isPure h nt ops am o s' := by
  unfold stmOf at hs
  obtain ⟨g, hg, hs⟩ := Option.bind_eq_some_iff.1 hs
  split at hs
  · rename_i hc
    simp only [Bool.and_eq_true] at hc
    cases hs
    rw [he]
    refine ⟨hg, rfl, ?_, fun d hd => ?_, hc.2⟩
    · show comp1 P inv isPure h _ o = some ((comp1 P inv isPure h _ o).getD .bad) ∨ (comp1 P inv isPure h _ o).getD .bad = .bad
      cases comp1 P inv isPure h ⟨am, looksAt (slotsOf ops) o⟩ o with
      | none => exact .inr rfl
      | some c => exact .inl rfl
    · have := hc.1
      rw [hd] at this
      simpa using this
  · cases hs
/-- What the checker found of a region. -/
theorem compReg_spec {draw : Bool} {outs : List Nat} {ss' : List Stm} (hc : compReg P inv isPure h nt ops draw = .reg outs ss') : (∃ s ∈ ss', s.o = .bad ∧ s.g = none) ∨
    ∃ (am : List (Nat × Nat)) (xs : List (Nat × Stm)) (dep : Nat → Nat → Prop) (ss : List Stm), ss' = xs.map (·.2) ∧ Rg P inv isPure h nt ops am xs dep ∧ outs = outsOf h ss ∧ ss.length = ops.size ∧ (∀ s ∈ ss', ∃ s0 ∈ ss, s0.d = s.d) ∧
      (draw = false → xs.length = ops.size ∧ ∀ (p i : Nat) (s : Stm), xs[p]? = some (i, s) → i = p) ∧
      (draw = true → backward ops.toList = true ∧ (∀ i, i < ops.size → ∃ (p : Nat) (s : Stm), xs[p]? = some (i, s)) ∧ (∀ (p q i : Nat) (a b : Stm), p < q → xs[p]? = some (i, a) → xs[q]? = some (i, b) → False) ∧
        ∀ L : Nat → Prop, Closed ops.toList L → ∀ (p q i : Nat) (a : Stm) (j : Nat) (b : Stm), xs[p]? = some (i, a) → xs[q]? = some (j, b) → dep p q → L j → L i) := by
  have hbad : badReg = .reg outs ss' → ∃ s ∈ ss', s.o = .bad ∧ s.g = none := fun hb => by cases hb; exact ⟨⟨none, none, .bad, []⟩, by simp, rfl, rfl⟩
  unfold compReg at hc
  simp only at hc
  split at hc
  · exact .inl (hbad hc)
  · rename_i ss hss
    generalize hxs : (if draw = true then arrange (behind [] ops.toList) ss else ss.zipIdx.map fun x => (x.2, x.1)) = xs at hc
    split at hc
    · rename_i hchk
      refine .inr ?_
      simp only [Bool.and_eq_true] at hchk
      obtain ⟨⟨⟨hord, hrem⟩, hdef⟩, ham⟩ := hchk
      obtain ⟨hlen, hstm⟩ := compOps_spec hss
      have hlen' : ss.length = ops.size := by simpa using hlen
      cases hc
      -- each statement has its operation
      have hmem : ∀ (p i : Nat) (s : Stm), xs[p]? = some (i, s) → ∃ s0, ss[i]? = some s0 ∧ s = { s0 with fl := s.fl } := by
        intro p i s hp
        have hm := List.mem_of_getElem? hp
        rw [← hxs] at hm
        split at hm
        · obtain ⟨s0, h1, h2⟩ := arrange_spec _ hm
          exact ⟨s0, h1, h2⟩
        · obtain ⟨⟨s0, k⟩, h1, h2⟩ := List.mem_map.1 hm
          cases h2
          rw [List.mem_zipIdx_iff_getElem?] at h1
          exact ⟨s0, h1, rfl⟩
      let dep : Nat → Nat → Prop := fun p q => p < q ∧ (draw = true → ∃ (i : Nat) (a : Stm) (j : Nat) (b : Stm) (m : Nat), xs[p]? = some (i, a) ∧ xs[q]? = some (j, b) ∧ (behind [] ops.toList)[j]? = some m ∧ m.testBit i = true)
      have hpair : ∀ (p q i : Nat) (a : Stm) (j : Nat) (b : Stm), p < q → xs[p]? = some (i, a) → xs[q]? = some (j, b) → ∃ bit, (bit = true → dep p q) ∧ (draw = true → pairOk bit a b = true) ∧ (draw = false → bit = true) := by
        intro p q i a j b hpq hp hq
        cases hdr : draw with
        | false => exact ⟨true, fun _ => ⟨hpq, fun hh => by rw [hdr] at hh; exact Bool.noConfusion hh⟩, fun hh => Bool.noConfusion hh, fun _ => rfl⟩
        | true =>
          rw [hdr] at hord
          simp only [Bool.not_true, Bool.false_or, Bool.and_eq_true] at hord
          obtain ⟨m, h1, h2, h3⟩ := orderOk_spec hord.2 p q i a j b hpq hp hq
          exact ⟨m.testBit i, fun hbit => ⟨hpq, fun _ => ⟨i, a, j, b, m, hp, hq, h1, hbit⟩⟩, fun _ => h3, fun hh => Bool.noConfusion hh⟩
      refine ⟨lookOf h ⟨[], []⟩ ops.toList, xs, dep, ss, rfl, ⟨fun p i s hp => ?_, fun p q i a j b hpq hp hq => ?_, fun p q i a j b hpq hp hq ha hb => ?_, fun p q i a j b hpq hp hq ha hb => ?_, ?_, fun p q i a j b hpq hp hq => ?_, fun s p hs => ?_⟩, rfl, hlen', fun s hs => ?_, fun hdr => ?_, fun hdr => ?_⟩
      · obtain ⟨s0, h1, h2⟩ := hmem p i s hp
        have hi : i < ops.toList.length := by rw [← hlen]; exact (List.getElem?_eq_some_iff.1 h1).1
        obtain ⟨s1, h3, h4⟩ := hstm i ops.toList[i] (List.getElem?_eq_getElem hi)
        rw [h1] at h3
        cases h3
        have ho : ops[i]? = some ops.toList[i] := by rw [← Array.getElem?_toList]; exact List.getElem?_eq_getElem hi
        refine ⟨_, ho, stmOf_ok h4 h2, fun t ht => ?_⟩
        have := defOk_spec hdef p i s hp t (by simp only [ho, Option.map_some, Option.getD_some]; exact ht)
        refine ⟨this.1, ?_⟩
        rcases this.2 with h5 | h5 | h5 | h5 | h5
        · exact .inl h5
        · exact .inr (.inl h5)
        · exact .inr (.inr (.inl h5))
        · cases h5
        · exact .inr (.inr (.inr h5))
      · obtain ⟨bit, h1, h2, h3⟩ := hpair p q i a j b hpq hp hq
        cases hdr : draw with
        | false => exact .inl (h1 (h3 hdr))
        | true => exact (pairOk_slot (h2 hdr)).imp h1 id
      · obtain ⟨bit, h1, h2, h3⟩ := hpair p q i a j b hpq hp hq
        cases hdr : draw with
        | false => exact h1 (h3 hdr)
        | true => exact h1 (pairOk_acts (h2 hdr) ha hb)
      · obtain ⟨bit, h1, h2, h3⟩ := hpair p q i a j b hpq hp hq
        cases hdr : draw with
        | false => exact .inl (h1 (h3 hdr))
        | true => exact (pairOk_reads (h2 hdr) ha hb).imp h1 id
      · cases hdr : draw with
        | false => exact .inl fun p q hpq => ⟨hpq, fun hh => by rw [hdr] at hh; exact Bool.noConfusion hh⟩
        | true =>
          refine .inr fun p q i a j b hpq hp hq => ?_
          obtain ⟨bit, h1, h2, h3⟩ := hpair p q i a j b hpq hp hq
          exact pairOk_frm (h2 hdr)
      · exact noRemade_spec hrem p q a b hpq (by simp [hp]) (by simp [hq])
      · have h1 : ∃ x ∈ lookOf h ⟨[], []⟩ ops.toList, x.1 = s ∧ x.2 = p := by
          unfold amFind at hs
          obtain ⟨x, hx, rfl⟩ := Option.map_eq_some_iff.1 hs
          have := List.find?_some hx
          exact ⟨x, List.mem_of_find?_eq_some hx, by simpa using this, rfl⟩
        obtain ⟨x, hx, rfl, rfl⟩ := h1
        have := List.all_eq_true.1 ham x hx
        simp only [Bool.and_eq_true, Bool.not_eq_true'] at this
        exact ⟨this.1.1, this.1.2, this.2⟩
      · obtain ⟨⟨i, s'⟩, hx, rfl⟩ := List.mem_map.1 hs
        obtain ⟨p, hp⟩ := List.getElem?_of_mem hx
        obtain ⟨s0, h1, h2⟩ := hmem p i s' hp
        exact ⟨s0, List.mem_of_getElem? h1, by rw [h2]⟩
      · rw [hdr] at hxs
        simp only [Bool.false_eq_true, if_false] at hxs
        subst hxs
        refine ⟨by simp [hlen'], fun p i s hp => ?_⟩
        simp only [List.getElem?_map, List.getElem?_zipIdx, Option.map_map] at hp
        obtain ⟨s0, _, h2⟩ := Option.map_eq_some_iff.1 hp
        simp at h2
        omega
      · rw [hdr] at hord
        simp only [Bool.not_true, Bool.false_or, Bool.and_eq_true] at hord
        refine ⟨hord.1.1, fun i hi => ?_, fun p q i a b hpq hp hq => ?_, fun L hL p q i a j b hp hq hd hj => ?_⟩
        · have := List.all_eq_true.1 hord.1.2 i (by rw [hlen']; exact List.mem_range.2 hi)
          obtain ⟨x, hx, he⟩ := List.any_eq_true.1 this
          obtain ⟨p, hp⟩ := List.getElem?_of_mem hx
          exact ⟨p, x.2, by rw [hp]; simp at he; rw [← he]⟩
        · obtain ⟨m, _, h2, _⟩ := orderOk_spec hord.2 p q i a i b hpq hp hq
          exact h2 rfl
        · obtain ⟨_, hd⟩ := hd
          obtain ⟨i', a', j', b', m, h1, h2, h3, h4⟩ := hd hdr
          rw [hp] at h1; cases h1
          rw [hq] at h2; cases h2
          exact behind_spec hL (r := ops.toList) (acc := []) (fun k o ho => by simpa using ho) (fun j m i hj => by simp at hj) j m i h3 h4 hj
    · exact .inl (hbad hc)
end
end Fb
