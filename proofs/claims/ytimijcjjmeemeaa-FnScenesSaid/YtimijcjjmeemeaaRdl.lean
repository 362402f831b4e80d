/- What a row's arguments are, as lists of numbers. -/
import Derived.Test.YtimijcjjmeemeaaRow2
import Derived.Test.YtimijcjjmeemeaaPl
set_option linter.unusedVariables false
set_option linter.unusedSimpArgs false
namespace Fb
open Go
/-- So many numbers of one kind, and nothing else. -/
def flat (k : IntKind) : Ty → Option Nat
  | .int k' => if k' = k then some 1 else none
  | .arr n sz e => if flat k e = some sz then some (n * sz) else none
  | .st sz fs => if flatF k 0 fs = some sz then some sz else none
  | _ => none
where flatF (k : IntKind) : Nat → Ty → Option Nat
  | o, .fnil => some o
  | o, .fcons off n t r => if off = o ∧ flat k t = some n then flatF k (o + n) r else none
  | _, _ => none
def okK (k : IntKind) (n : Int) : Prop := (Lit.int k n).wf = true
/-- Cells that are numbers of one kind. -/
def Nums (k : IntKind) (vs : List Value) : Prop := ∃ l, vs = cs k l ∧ ∀ x ∈ l, okK k x
theorem Nums.of {k : IntKind} {vs : List Value} (h : ∀ v ∈ vs, ∃ n, v = .int k n ∧ okK k n) : Nums k vs := by
  induction vs with
  | nil => exact ⟨[], rfl, by simp⟩
  | cons v vs ih =>
    obtain ⟨n, rfl, hn⟩ := h v (by simp)
    obtain ⟨l, rfl, hl⟩ := ih fun w hw => h w (by simp [hw])
    refine ⟨n :: l, rfl, fun x hx => ?_⟩
    rcases List.mem_cons.1 hx with rfl | hx
    · exact hn
    · exact hl x hx
theorem Nums.mem {k : IntKind} {vs : List Value} (h : Nums k vs) : ∀ v ∈ vs, ∃ n, v = .int k n ∧ okK k n := by
  obtain ⟨l, rfl, hl⟩ := h
  intro v hv
  obtain ⟨n, hn, rfl⟩ := List.mem_map.1 hv
  exact ⟨n, rfl, hl n hn⟩
theorem rows_mem {vs : List Value} {n sz : Nat} (hl : vs.length = n * sz) {p : Value → Prop} (h : ∀ i, i < n → ∀ v ∈ (vs.drop (i * sz)).take sz, p v) : ∀ v ∈ vs, p v := by
  intro v hv
  obtain ⟨j, hj, rfl⟩ := List.getElem_of_mem hv
  rcases Nat.eq_zero_or_pos sz with h0 | h0
  · subst h0; simp at hl; simp [hl] at hj
  · have hi : j / sz < n := by rw [Nat.div_lt_iff_lt_mul h0]; omega
    refine h (j / sz) hi _ ?_
    have hj2 : j / sz * sz + j % sz = j := by rw [Nat.mul_comm]; exact Nat.div_add_mod j sz
    have hm := Nat.mod_lt j h0
    refine List.mem_of_getElem? (i := j % sz) ?_
    rw [List.getElem?_take, if_pos hm, List.getElem?_drop, hj2, List.getElem?_eq_getElem hj]
theorem flat_ok {k : IntKind} {H : Heap} {T : Ty} : (∀ {n : Nat} {vs : List Value}, flat k T = some n → Rd H T vs → vs.length = n ∧ Nums k vs) ∧
    (∀ {o n : Nat} {vs : List Value}, flat.flatF k o T = some n → Rd H T vs → n ≤ vs.length → o ≤ n ∧ ∀ v ∈ (vs.take n).drop o, ∃ m, v = .int k m ∧ okK k m) := by
  induction T with
  | bool => exact ⟨fun h => by simp [flat] at h, fun h => by simp [flat.flatF] at h⟩
  | str => exact ⟨fun h => by simp [flat] at h, fun h => by simp [flat.flatF] at h⟩
  | slc => exact ⟨fun h => by simp [flat] at h, fun h => by simp [flat.flatF] at h⟩
  | int k' =>
    refine ⟨fun h hr => ?_, fun h => by simp [flat.flatF] at h⟩
    simp only [flat] at h
    split at h
    · rename_i hk; cases h; subst hk
      obtain ⟨n, rfl, hn⟩ := hr
      exact ⟨rfl, [n], rfl, by simpa [okK] using hn⟩
    · cases h
  | arr n sz e ih =>
    refine ⟨fun h hr => ?_, fun h => by simp [flat.flatF] at h⟩
    simp only [flat] at h
    split at h
    · rename_i he; cases h
      obtain ⟨h1, h2⟩ := hr
      refine ⟨h1, .of (rows_mem h1 fun i hi v hv => ?_)⟩
      exact (ih.1 he (h2 i hi)).2.mem v hv
    · cases h
  | st sz fs ih =>
    refine ⟨fun h hr => ?_, fun h => by simp [flat.flatF] at h⟩
    simp only [flat] at h
    split at h
    · rename_i he; cases h
      obtain ⟨h1, h2⟩ := hr
      refine ⟨h1, .of ?_⟩
      have := (ih.2 he h2 (by omega)).2
      rw [List.drop_zero, List.take_of_length_le (by omega)] at this
      exact this
    · cases h
  | fnil =>
    refine ⟨fun h => by simp [flat] at h, fun h hr hn => ?_⟩
    simp only [flat.flatF] at h
    cases h
    refine ⟨Nat.le_refl _, fun v hv => ?_⟩
    rw [List.drop_eq_nil_of_le (by simp; omega)] at hv
    cases hv
  | fcons off n t r iht ihr =>
    refine ⟨fun h => by simp [flat] at h, fun {o m vs} h hr hn => ?_⟩
    simp only [flat.flatF] at h
    split at h
    · rename_i hc
      obtain ⟨rfl, ht⟩ := hc
      obtain ⟨h1, h2⟩ := hr
      obtain ⟨hle, hv⟩ := ihr.2 h h2 hn
      obtain ⟨hl, ha⟩ := iht.1 ht h1
      refine ⟨by omega, fun v hm => ?_⟩
      obtain ⟨j, hj, rfl⟩ := List.getElem_of_mem hm
      simp only [List.length_drop, List.length_take] at hj
      rcases Nat.lt_or_ge j n with h3 | h3
      · refine ha.mem _ (List.mem_of_getElem? (i := j) ?_)
        rw [List.getElem?_take, if_pos h3, List.getElem?_drop, List.getElem_drop, List.getElem_take, List.getElem?_eq_getElem (by omega)]
      · refine hv _ (List.mem_of_getElem? (i := j - n) ?_)
        rw [List.getElem?_drop, List.getElem?_take, if_pos (by omega), List.getElem_drop, List.getElem_take, List.getElem?_eq_getElem (by omega)]
        congr 2; omega
    · cases h
theorem rd_flat {k : IntKind} {H : Heap} {T : Ty} {n : Nat} {vs : List Value} (h : flat k T = some n) (hr : Rd H T vs) : ∃ l, vs = cs k l ∧ l.length = n ∧ ∀ x ∈ l, okK k x := by
  obtain ⟨h1, l, rfl, h2⟩ := flat_ok.1 h hr
  exact ⟨l, rfl, by simpa using h1, h2⟩
theorem rdV_flat {k : IntKind} {H : Heap} {n sz m : Nat} {e : Ty} {x : Value} (h : flat k (.arr n sz e) = some m) (hr : RdV H (.arr n sz e) x) : ∃ l, x = iv k l ∧ l.length = m ∧ ∀ x ∈ l, okK k x := by
  obtain ⟨xs, rfl, h1⟩ := hr
  obtain ⟨l, rfl, h2⟩ := rd_flat h h1
  exact ⟨l, rfl, h2⟩
theorem rdV_flatS {k : IntKind} {H : Heap} {sz m : Nat} {e : Ty} {x : Value} (h : flat k (.st sz e) = some m) (hr : RdV H (.st sz e) x) : ∃ l, x = iv k l ∧ l.length = m ∧ ∀ x ∈ l, okK k x := by
  obtain ⟨xs, rfl, h1⟩ := hr
  obtain ⟨l, rfl, h2⟩ := rd_flat h h1
  exact ⟨l, rfl, h2⟩
theorem rdV_int {k : IntKind} {H : Heap} {x : Value} (hr : RdV H (.int k) x) : ∃ n, x = .int k n ∧ okK k n := by
  obtain ⟨n, h, hn⟩ := hr
  cases h
  exact ⟨n, rfl, hn⟩
/-- A slice argument. -/
structure Sl (H : Heap) (x : Value) (sz : Nat) (len : Nat) (vs : List Value) : Prop where
  size : vs.length = len * sz
  le : len ≤ maxLen
  is : (x = .slice none 0 0 ∧ len = 0) ∨ ∃ b cap, x = slc b 0 0 len cap ∧ len ≤ cap ∧ rd H b 0 0 (len * sz) = some vs ∧ ∃ k, H[b]? = some k ∧ 0 = k.ver ∧ k.esz = sz
theorem rdV_slc {H : Heap} {sz : Nat} {e : Ty} {x : Value} (hr : RdV H (.slc sz e) x) : ∃ len vs, Sl H x sz len vs ∧ ∀ i, i < len → Rd H e ((vs.drop (i * sz)).take sz) := by
  rcases hr with h | ⟨b, len, cap, k, h1, h2, h3, h4, h5, h6, h7, h8, h9⟩
  · cases h
    exact ⟨0, [], ⟨by simp, Nat.zero_le _, .inl ⟨rfl, rfl⟩⟩, fun i hi => by omega⟩
  · cases h1
    have hle : len * sz ≤ cap * sz := Nat.mul_le_mul_right sz h2
    refine ⟨len, k.cells.take (len * sz), ⟨by simp; omega, by omega, .inr ⟨b, cap, rfl, h2, ?_, k, h4, h5.symm, h7⟩⟩, fun i hi => ?_⟩
    · unfold rd; rw [h4]; simp [h5]; omega
    · have := h9 i (by omega)
      have h10 : (i + 1) * sz ≤ len * sz := Nat.mul_le_mul_right sz hi
      rw [Nat.succ_mul] at h10
      rwa [List.drop_take, List.take_take, Nat.min_eq_left (by omega)]
theorem rdV_slcFlat {k : IntKind} {H : Heap} {sz : Nat} {e : Ty} {x : Value} (hf : flat k e = some sz) (hr : RdV H (.slc sz e) x) : ∃ len l, Sl H x sz len (cs k l) ∧ ∀ x ∈ l, okK k x := by
  obtain ⟨len, vs, h1, h2⟩ := rdV_slc hr
  have : Nums k vs := .of (rows_mem h1.size fun i hi v hv => (flat_ok.1 hf (h2 i hi)).2.mem v hv)
  obtain ⟨l, rfl, hl⟩ := this
  exact ⟨len, l, h1, hl⟩
theorem okK_i16 {n : Int} (h : okK .i16 n) : -32768 ≤ n ∧ n ≤ 32767 := by
  have : (decide (IntKind.min .i16 ≤ n) && decide (n ≤ IntKind.max .i16)) = true := h
  simp at this
  have e1 : IntKind.min .i16 = -32768 := by decide
  have e2 : IntKind.max .i16 = 32767 := by decide
  omega
end Fb
namespace Fb
open Go
/-- Values of a shape, all zero. -/
def zeroC : Ty → List Value
  | .bool => [.bool false]
  | .int k => [.int k 0]
  | .str => [.string ⟨#[]⟩]
  | .arr n _ e => rep n (zeroC e)
  | .st _ fs => zeroC fs
  | .fnil => []
  | .fcons _ _ t r => zeroC t ++ zeroC r
  | .slc _ _ => [.slice none 0 0]
def zeroV : Ty → Value
  | .arr n s e => agg (zeroC (.arr n s e))
  | .st s e => agg (zeroC (.st s e))
  | t => (zeroC t).headD U
end Fb
