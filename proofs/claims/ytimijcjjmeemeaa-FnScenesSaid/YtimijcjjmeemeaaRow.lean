/- Arguments that a row hands in: read-only blocks of the small language, one for each slice that is read. -/
import Derived.Test.YtimijcjjmeemeaaSoundX
import Derived.OpenShut
import Derived.ChangeArms
import Derived.ChangeReads
import Derived.ChangeOld
set_option linter.unusedVariables false
set_option linter.unusedSimpArgs false
namespace Fb
open Go

/-- Shapes of what is handed in. sz, n: how many cells. -/
inductive Ty where
  | bool
  | int (k : IntKind)
  | str
  | arr (n sz : Nat) (e : Ty)
  | st (sz : Nat) (fs : Ty)
  | fnil
  | fcons (off n : Nat) (t r : Ty)
  | slc (sz : Nat) (e : Ty)
/-- Cells that read as a shape says. -/
def Rd (H : Heap) : Ty → List Value → Prop
  | .bool, cs => ∃ b, cs = [.bool b]
  | .int k, cs => ∃ n, cs = [.int k n] ∧ (Lit.int k n).wf = true
  | .str, cs => ∃ s, cs = [.string s] ∧ s.size ≤ maxLen
  | .arr n sz e, cs => cs.length = n * sz ∧ ∀ i, i < n → Rd H e ((cs.drop (i * sz)).take sz)
  | .st sz fs, cs => cs.length = sz ∧ Rd H fs cs
  | .fnil, _ => True
  | .fcons off n t r, cs => Rd H t ((cs.drop off).take n) ∧ Rd H r cs
  | .slc sz e, cs => cs = [.slice none 0 0] ∨ ∃ b len cap k, cs = [slc b 0 0 len cap] ∧ len ≤ cap ∧ cap ≤ maxLen ∧ H[b]? = some k ∧ k.ver = 0 ∧ k.ro = true ∧ k.esz = sz ∧ k.cells.length = cap * sz ∧
      ∀ i, i < cap → Rd H e ((k.cells.drop (i * sz)).take sz)
theorem Rd.more {H L : Heap} : ∀ {T : Ty} {cs : List Value}, Rd H T cs → Rd (H ++ L) T cs
  | .bool, _, h => h
  | .int _, _, h => h
  | .str, _, h => h
  | .arr _ _ _, _, ⟨h1, h2⟩ => ⟨h1, fun i hi => (h2 i hi).more⟩
  | .st _ _, _, ⟨h1, h2⟩ => ⟨h1, h2.more⟩
  | .fnil, _, _ => trivial
  | .fcons _ _ _ _, _, ⟨h1, h2⟩ => ⟨h1.more, h2.more⟩
  | .slc _ _, _, h => h.imp id fun ⟨b, len, cap, k, h1, h2, h3, h4, h5, h6, h7, h8, h9⟩ =>
      ⟨b, len, cap, k, h1, h2, h3, by rw [List.getElem?_append_left (List.getElem?_eq_some_iff.1 h4).1]; exact h4, h5, h6, h7, h8, fun i hi => (h9 i hi).more⟩
def fieldsTy (P : Program) (f : TypeId → Option Ty) : Nat → List Field → Option Ty
  | _, [] => some .fnil
  | o, x :: r => (f x.type).bind fun a => (fieldsTy P f (o + P.cellsOf x.type) r).bind fun b => if x.offset = o then some (.fcons o (P.cellsOf x.type) a b) else none
def fieldsEnd (P : Program) : Nat → List Field → Nat
  | o, [] => o
  | o, x :: r => fieldsEnd P (o + P.cellsOf x.type) r
def tyOf (P : Program) : Nat → TypeId → Option Ty
  | 0, _ => none
  | d + 1, t => match P.underlying t with
    | some .bool => some .bool
    | some (.int k) => some (.int k)
    | some .string => some .str
    | some (.array n e) => (tyOf P d e).bind fun a => if P.cellsOf t = n * P.cellsOf e then some (.arr n (P.cellsOf e) a) else none
    | some (.struct fs) => (fieldsTy P (tyOf P d) 0 fs.toList).bind fun a => if fieldsEnd P 0 fs.toList = P.cellsOf t then some (.st (P.cellsOf t) a) else none
    | some (.slice e) => (tyOf P d e).bind fun a => if P.cellsOf e = 0 then none else some (.slc (P.cellsOf e) a)
    | _ => none

/-- A context with more blocks, the old ones as they were. -/
structure Grows (C C' : Cx) : Prop where
  ρ : C'.ρ = C.ρ
  H : ∃ L, C'.H = C.H ++ L
  σ : ∀ b, b < C.H.length → C'.σ b = C.σ b ∧ C'.ws b = C.ws b
theorem Grows.refl (C : Cx) : Grows C C := ⟨rfl, ⟨[], by simp⟩, fun _ _ => ⟨rfl, rfl⟩⟩
theorem Grows.len {C C' : Cx} (h : Grows C C') : C.H.length ≤ C'.H.length := by obtain ⟨L, h⟩ := h.H; rw [h]; simp
theorem Grows.trans {C C' C'' : Cx} (h : Grows C C') (h' : Grows C' C'') : Grows C C'' := by
  obtain ⟨L, h1⟩ := h.H
  obtain ⟨L', h2⟩ := h'.H
  exact ⟨h'.ρ.trans h.ρ, ⟨L ++ L', by rw [h2, h1, List.append_assoc]⟩, fun b hb => by
    obtain ⟨g1, g2⟩ := h.σ b hb
    obtain ⟨g3, g4⟩ := h'.σ b (Nat.lt_of_lt_of_le hb h.len)
    exact ⟨g3.trans g1, g4.trans g2⟩⟩
theorem Grows.later {C C' : Cx} (h : Grows C C') : Later C C' := by
  obtain ⟨L, h1⟩ := h.H
  refine ⟨h.ρ, fun b k hk => ?_⟩
  have hb := (List.getElem?_eq_some_iff.1 hk).1
  exact ⟨k, by rw [h1, List.getElem?_append_left hb]; exact hk, Nat.le_refl _, rfl, rfl, fun _ x hx => ⟨(h.σ b hb).1.trans hx, (h.σ b hb).2⟩⟩
theorem Grows.rd {C C' : Cx} (h : Grows C C') {T : Ty} {cs : List Value} (hr : Rd C.H T cs) : Rd C'.H T cs := by
  obtain ⟨L, h1⟩ := h.H
  rw [h1]; exact hr.more
/-- A block of memory, laid once more, to be read. -/
def Cx.view (C : Cx) (k : Blk) (B δ n : Nat) : Cx := ⟨C.ρ, C.H ++ [k], fun x => if x = C.H.length then some (B, δ) else C.σ x, fun x => if x = C.H.length then n else C.ws x⟩
theorem Grows.view {C : Cx} {k : Blk} {B δ n : Nat} : Grows C (C.view k B δ n) :=
  ⟨rfl, ⟨[k], rfl⟩, fun b hb => ⟨if_neg (by omega), if_neg (by omega)⟩⟩
def AllRo (C : Cx) : Prop := ∀ (b : Nat) (k : Blk), C.H[b]? = some k → k.ro = true
theorem WR.view {C : Cx} {w : World} (hW : WR C w) (hro : AllRo C) {k : Blk} {B δ : Nat} {c : Array Value} {elem : TypeId} {fz : Nat × Nat} (hB : w.heap[B]? = some (.cells c elem fz)) (hk : k.ro = true) (hf : Flat k.cells)
    (hl : δ + k.cells.length ≤ c.size) (hr : VRs C k.cells ((c.toList.drop δ).take k.cells.length)) : WR (C.view k B δ c.size) w ∧ AllRo (C.view k B δ c.size) := by
  have hG := Grows.view (C := C) (k := k) (B := B) (δ := δ) (n := c.size)
  have hro' : AllRo (C.view k B δ c.size) := fun b k' hk' => by
    have hk' : (C.H ++ [k])[b]? = some k' := hk'
    rcases Nat.lt_or_ge b C.H.length with h | h
    · rw [List.getElem?_append_left h] at hk'; exact hro b k' hk'
    · rw [List.getElem?_append_right h] at hk'
      have : k' = k := by
        have := List.mem_of_getElem? hk'
        simpa using this
      rw [this]; exact hk
  refine ⟨⟨fun b B' δ' hs => ?_, fun b b' B' δ1 δ2 h1 h2 _ k' hk' => hro' b k' hk'⟩, hro'⟩
  by_cases hb : b = C.H.length
  · subst hb
    simp only [Cx.view, if_true, Option.some.injEq, Prod.mk.injEq] at hs
    obtain ⟨rfl, rfl⟩ := hs
    exact ⟨k, by simp [Cx.view], c, elem, fz, hB, by simp [Cx.view], hl, hf, hr.later hG.later, fun h => by rw [hk] at h; cases h⟩
  · have hs : C.σ b = some (B', δ') := by simpa [Cx.view, hb] using hs
    obtain ⟨k', hk', cs, e', f', h1, h2, h3, h4, h5, h6⟩ := hW.blk b B' δ' hs
    have hlt := (hW.lt hs).1
    refine ⟨k', ?_, cs, e', f', h1, by simpa [Cx.view, hb] using h2, h3, h4, h5.later hG.later, h6⟩
    show (C.H ++ [k])[b]? = _
    rw [List.getElem?_append_left hlt]; exact hk'
section
variable {Hd : Type} {enc : TypeId × Value → Hd} {P : Program} {w : World}
/-- What is lifted. -/
def Lifted (C : Cx) (w : World) (T : Ty) (cs : List Value) (C' : Cx) (xs : List Value) : Prop := Grows C C' ∧ WR C' w ∧ AllRo C' ∧ VRs C' xs cs ∧ Flat xs ∧ Rd C'.H T xs
/-- Rows of alike cells. -/
theorem lift_rows {sz : Nat} {e : Ty} {cs : List Value} : ∀ (n : Nat), n * sz ≤ cs.length → (∀ i, i < n → ∀ C : Cx, WR C w → AllRo C → ∃ C' xs, Lifted C w e ((cs.drop (i * sz)).take sz) C' xs) → ∀ C, WR C w → AllRo C →
    ∃ C' xs, Grows C C' ∧ WR C' w ∧ AllRo C' ∧ VRs C' xs (cs.take (n * sz)) ∧ Flat xs ∧ xs.length = n * sz ∧ ∀ i, i < n → Rd C'.H e ((xs.drop (i * sz)).take sz)
  | 0, _, _, C, hW, hro => ⟨C, [], .refl C, hW, hro, by simpa using VRs.nil, .nil, by simp, fun i hi => by omega⟩
  | n + 1, hl, hlift, C, hW, hro => by
    rw [Nat.succ_mul] at hl
    obtain ⟨C1, ys, h1, h2, h3, h4, h5, h6, h7⟩ := lift_rows n (by omega) (fun i hi => hlift i (by omega)) C hW hro
    obtain ⟨C2, xs, g1, g2, g3, g4, g5, g6⟩ := hlift n (by omega) C1 h2 h3
    have hxl : xs.length = sz := by have := g4.1; simp at this; omega
    refine ⟨C2, ys ++ xs, h1.trans g1, g2, g3, ?_, h5.append g5, by simp [h6, hxl, Nat.succ_mul], fun i hi => ?_⟩
    · have : cs.take ((n + 1) * sz) = cs.take (n * sz) ++ (cs.drop (n * sz)).take sz := by rw [Nat.succ_mul, List.take_add]
      rw [this]
      exact (h4.later g1.later).append g4
    · rcases Nat.lt_or_ge i n with hin | hin
      · have h8 : i * sz + sz ≤ n * sz := by
          have : (i + 1) * sz ≤ n * sz := Nat.mul_le_mul_right _ hin
          rwa [Nat.succ_mul] at this
        have : ((ys ++ xs).drop (i * sz)).take sz = (ys.drop (i * sz)).take sz := by
          rw [List.drop_append_of_le_length (by omega), List.take_append_of_le_length (by simp; omega)]
        rw [this]
        exact g1.rd (h7 i hin)
      · obtain rfl : i = n := by omega
        have : ((ys ++ xs).drop (i * sz)).take sz = xs := by
          rw [← h6, List.drop_left, List.take_of_length_le (by omega)]
        rw [this]; exact g6
theorem fieldsEnd_le : ∀ {l : List Field} {o : Nat}, o ≤ fieldsEnd P o l
  | [], o => Nat.le_refl _
  | x :: r, o => Nat.le_trans (Nat.le_add_right _ _) (fieldsEnd_le (l := r))
theorem cells_get {a : Addr} {n : Nat} {l : List Value} (h : w.cells? 0 a n = some l) : l.length = n ∧ ∀ i, i < n → w.cell? (a.add i) = l[i]? := by
  unfold World.cells? at h
  rw [if_pos (Nat.zero_le _)] at h
  refine ⟨by simpa using mapM_some_length h, fun i hi => mapM_some_get h i i (by simp [hi])⟩
theorem cell_some {a : Addr} {v : Value} (h : w.cell? a = some v) : ∃ c e f, w.heap[a.block]? = some (.cells c e f) ∧ a = ⟨a.block, a.off, none⟩ ∧ c[a.off]? = some v := by
  unfold World.cell? at h
  split at h
  · rename_i c e f hb
    split at h
    · cases h
    · rename_i hs
      obtain ⟨b, off, spot⟩ := a
      cases spot with
      | none => exact ⟨c, e, f, hb, rfl, h⟩
      | some _ => exact absurd rfl hs
  · cases h
theorem add_zero' (a : Addr) : a.add 0 = a := by unfold Addr.add; simp
def HasCells (w : World) : Prop := ∃ (B : Nat) (c : Array Value) (e : TypeId) (f : Nat × Nat), w.heap[B]? = some (Obj.cells c e f)
def noSl : Value → Prop
  | .slice (some _) _ _ => False
  | _ => True
theorem lift : ∀ (d : Nat) {t : TypeId} {T : Ty}, tyOf P d t = some T → ∀ {fuel : Nat} {cs : List Value} {x : DataW Hd × List MemPlace}, (HasCells w ∨ ∀ v ∈ cs, noSl v) → DataW.trod enc P w 0 (fun _ => true) true fuel t cs = some x →
    ∀ C, WR C w → AllRo C → ∃ C' xs, Lifted C w T cs C' xs
  | 0, t, T, hT, _, _, _, _, _, _, _, _ => by cases hT
  | d + 1, t, T, hT, fuel, cs, x, hne, hx, C, hW, hro => by
    have ih := fun {t : TypeId} {T : Ty} (h : tyOf P d t = some T) {fuel : Nat} {cs : List Value} {x : DataW Hd × List MemPlace} => lift d h (fuel := fuel) (cs := cs) (x := x)
    have hsub : ∀ o m, HasCells w ∨ ∀ v ∈ (cs.drop o).take m, noSl v := fun o m => hne.imp id fun h v hv => h v (List.mem_of_mem_drop (List.mem_of_mem_take hv))
    simp only [tyOf] at hT
    split at hT
    · rename_i hu
      cases hT
      obtain ⟨b, rfl, _⟩ := DataW.trod_bool hu hx
      exact ⟨C, _, .refl C, hW, hro, .cons (.bool b) .nil, .one rfl, b, rfl⟩
    · rename_i k hu
      cases hT
      obtain ⟨n, rfl, _, hwf⟩ := DataW.trod_int hu hx
      exact ⟨C, _, .refl C, hW, hro, .cons (.int k n) .nil, .one rfl, n, rfl, hwf⟩
    · rename_i hu
      cases hT
      obtain ⟨s, rfl, _, hs⟩ := DataW.trod_string hu hx
      exact ⟨C, _, .refl C, hW, hro, .cons (.string s) .nil, .one rfl, s, rfl, hs⟩
    · rename_i n e hu
      obtain ⟨A, hA, hT⟩ := Option.bind_eq_some_iff.1 hT
      split at hT
      · rename_i hsz
        cases hT
        obtain ⟨ys, m, _, _, hlen, hyl, hget⟩ := DataW.trod_array hu hx
        rw [hsz] at hlen
        obtain ⟨C', xs, g1, g2, g3, g4, g5, g6, g7⟩ := lift_rows (C := C) (e := A) (sz := P.cellsOf e) (cs := cs) n (by omega) (fun i hi C hW hro => by
          have hi' : i < ys.length := by omega
          exact ih hA (hsub _ _) ((hget i hi).trans (List.getElem?_eq_getElem hi')) C hW hro) hW hro
        rw [List.take_of_length_le (by omega)] at g4
        exact ⟨C', xs, g1, g2, g3, g4, g5, g6, g7⟩
      · cases hT
    · rename_i fs hu
      obtain ⟨A, hA, hT⟩ := Option.bind_eq_some_iff.1 hT
      split at hT
      · rename_i hsz
        cases hT
        obtain ⟨ys, m, _, _, hlen, hyl, hget⟩ := DataW.trod_struct hu hx
        have hf : ∀ f ∈ fs.toList, ∃ x, DataW.trod enc P w 0 (fun _ => true) true m f.type ((cs.drop f.offset).take (P.cellsOf f.type)) = some x := fun f hf => by
          obtain ⟨i, hi⟩ := List.getElem?_of_mem hf
          have hi2 : fs[i]? = some f := by rw [← Array.getElem?_toList]; exact hi
          have hlt : i < ys.length := by rw [hyl]; exact (Array.getElem?_eq_some_iff.1 hi2).1
          exact ⟨_, (hget i f hi2).trans (List.getElem?_eq_getElem hlt)⟩
        have key : ∀ (l : List Field) (o : Nat) (F : Ty), fieldsTy P (tyOf P d) o l = some F → (∀ f ∈ l, ∃ x, DataW.trod enc P w 0 (fun _ => true) true m f.type ((cs.drop f.offset).take (P.cellsOf f.type)) = some x) → fieldsEnd P o l ≤ cs.length → ∀ C, WR C w → AllRo C →
            ∃ C' zs, Grows C C' ∧ WR C' w ∧ AllRo C' ∧ VRs C' zs ((cs.drop o).take (fieldsEnd P o l - o)) ∧ Flat zs ∧ ∀ pre, pre.length = o → Rd C'.H F (pre ++ zs) := by
          intro l
          induction l with
          | nil =>
            intro o F hF _ _ C hW hro
            cases hF
            exact ⟨C, [], .refl C, hW, hro, by simpa [fieldsEnd] using VRs.nil, .nil, fun _ _ => trivial⟩
          | cons f r ihl =>
            intro o F hF hall hend C hW hro
            simp only [fieldsTy] at hF
            obtain ⟨A1, hA1, hF⟩ := Option.bind_eq_some_iff.1 hF
            obtain ⟨B1, hB1, hF⟩ := Option.bind_eq_some_iff.1 hF
            split at hF
            · rename_i hoff
              cases hF
              simp only [fieldsEnd] at hend ⊢
              have hmono := fieldsEnd_le (P := P) (l := r) (o := o + P.cellsOf f.type)
              obtain ⟨x1, hx1⟩ := hall f (by simp)
              obtain ⟨C1, xs1, g1, g2, g3, g4, g5, g6⟩ := ih hA1 (hsub _ _) hx1 C hW hro
              rw [hoff] at g4
              obtain ⟨C2, zs, k1, k2, k3, k4, k5, k6⟩ := ihl (o + P.cellsOf f.type) B1 hB1 (fun f' hf' => hall f' (List.mem_cons_of_mem _ hf')) hend C1 g2 g3
              have hxl : xs1.length = P.cellsOf f.type := by have := g4.1; simp at this; omega
              refine ⟨C2, xs1 ++ zs, g1.trans k1, k2, k3, ?_, g5.append k5, fun pre hpre => ⟨?_, ?_⟩⟩
              · have : (cs.drop o).take (fieldsEnd P (o + P.cellsOf f.type) r - o) = (cs.drop o).take (P.cellsOf f.type) ++ (cs.drop (o + P.cellsOf f.type)).take (fieldsEnd P (o + P.cellsOf f.type) r - (o + P.cellsOf f.type)) := by
                  rw [← List.drop_drop, ← List.take_add]
                  congr 1
                  omega
                rw [this]
                exact (g4.later k1.later).append k4
              · have : ((pre ++ (xs1 ++ zs)).drop o).take (P.cellsOf f.type) = xs1 := by
                  rw [← hpre, List.drop_left, ← hxl, List.take_left]
                rw [this]
                exact k1.rd g6
              · rw [← List.append_assoc]
                exact k6 (pre ++ xs1) (by simp [hpre, hxl])
            · cases hF
        obtain ⟨C', zs, k1, k2, k3, k4, k5, k6⟩ := key fs.toList 0 A hA hf (by omega) C hW hro
        rw [List.drop_zero, Nat.sub_zero, hsz, List.take_of_length_le (by omega)] at k4
        exact ⟨C', zs, k1, k2, k3, k4, k5, k4.1.trans hlen, by simpa using k6 [] rfl⟩
      · cases hT
    · rename_i e hu
      obtain ⟨A, hA, hT⟩ := Option.bind_eq_some_iff.1 hT
      split at hT
      · cases hT
      · rename_i hsz
        cases hT
        rcases DataW.trod_slice hu hx with ⟨rfl, _⟩ | ⟨a, len, cap, elems, rest, m, _, rfl, _, _, hlc, hcm, hel, hget1, hget2, _⟩
        · exact ⟨C, _, .refl C, hW, hro, .cons .nilslice .nil, .one rfl, .inl rfl⟩
        · have hcells : HasCells w := hne.resolve_right fun h => h _ (List.mem_singleton.2 rfl)
          obtain ⟨hrl, hget2⟩ := hget2 rfl
          have hgrp : ∀ i, i < cap → ∃ l x, w.cells? 0 (a.add (i * P.cellsOf e)) (P.cellsOf e) = some l ∧ DataW.trod enc P w 0 (fun _ => true) true m e l = some x := fun i hi => by
            rcases Nat.lt_or_ge i len with h | h
            · have h1 := (hget1 i h).trans (List.getElem?_eq_getElem (by omega))
              obtain ⟨l, hl, hx⟩ := Option.bind_eq_some_iff.1 h1
              exact ⟨l, _, hl, hx⟩
            · have h1 := (hget2 (i - len) (by omega)).trans (List.getElem?_eq_getElem (by omega))
              rw [show len + (i - len) = i from by omega] at h1
              obtain ⟨l, hl, hx⟩ := Option.bind_eq_some_iff.1 h1
              exact ⟨l, _, hl, hx⟩
          rcases Nat.eq_zero_or_pos cap with hc0 | hc0
          · subst hc0
            obtain rfl : len = 0 := by omega
            obtain ⟨B, c, e', f', hB⟩ := hcells
            obtain ⟨g1, g2⟩ := hW.view hro (k := ⟨[], P.cellsOf e, 0, true⟩) (δ := 0) hB rfl .nil (by simp) (by simpa using VRs.nil)
            refine ⟨_, [slc C.H.length 0 0 0 0], .view, g1, g2, .cons (.empty (AR.cur (k := ⟨[], P.cellsOf e, 0, true⟩) (off := 0) (by simp [Cx.view]) (if_pos rfl))) .nil, .one rfl, .inr ⟨_, 0, 0, ⟨[], P.cellsOf e, 0, true⟩, rfl, Nat.le_refl _, by omega, by simp [Cx.view], rfl, rfl, rfl, by simp, fun i hi => by omega⟩⟩
          · obtain ⟨l0, x0, hl0, _⟩ := hgrp 0 hc0
            obtain ⟨hn0, hc⟩ := cells_get hl0
            have hfst := hc 0 (by omega)
            rw [Nat.zero_mul, add_zero', add_zero', List.getElem?_eq_getElem (show 0 < l0.length by omega)] at hfst
            obtain ⟨c, e', f', hB, ha, _⟩ := cell_some hfst
            generalize a.block = B at hB ha
            generalize a.off = off at ha
            subst ha
            have hcell : ∀ i l, i < cap → w.cells? 0 ((⟨B, off, none⟩ : Addr).add (i * P.cellsOf e)) (P.cellsOf e) = some l → l.length = P.cellsOf e ∧ ∀ j, j < P.cellsOf e → c[off + i * P.cellsOf e + j]? = l[j]? := fun i l _ hl => by
              obtain ⟨h1, h2⟩ := cells_get hl
              refine ⟨h1, fun j hj => ?_⟩
              have := h2 j hj
              rw [add_none, add_none, cell_of hB] at this
              exact this
            have hbig : off + cap * P.cellsOf e ≤ c.size := by
              obtain ⟨l, _, hl, _⟩ := hgrp (cap - 1) (by omega)
              obtain ⟨h1, h2⟩ := hcell (cap - 1) l (by omega) hl
              have h3 := h2 (P.cellsOf e - 1) (by omega)
              rw [List.getElem?_eq_getElem (show P.cellsOf e - 1 < l.length by omega)] at h3
              have h4 := (Array.getElem?_eq_some_iff.1 h3).1
              have h5 : (cap - 1) * P.cellsOf e + P.cellsOf e = cap * P.cellsOf e := by rw [← Nat.succ_mul]; congr 1; omega
              omega
            have hrow : ((c.toList.drop off).take (cap * P.cellsOf e)).length = cap * P.cellsOf e := by simp; omega
            obtain ⟨C1, ys, g1, g2, g3, g4, g5, g6, g7⟩ := lift_rows (C := C) (e := A) (sz := P.cellsOf e) (cs := (c.toList.drop off).take (cap * P.cellsOf e)) cap (by omega) (fun i hi C hW hro => by
              obtain ⟨l, x, hl, hx⟩ := hgrp i hi
              obtain ⟨h1, h2⟩ := hcell i l hi hl
              have h3 : i * P.cellsOf e + P.cellsOf e ≤ cap * P.cellsOf e := by
                have : (i + 1) * P.cellsOf e ≤ cap * P.cellsOf e := Nat.mul_le_mul_right _ hi
                rwa [Nat.succ_mul] at this
              have h4 : (((c.toList.drop off).take (cap * P.cellsOf e)).drop (i * P.cellsOf e)).take (P.cellsOf e) = l := by
                rw [take_drop_sub _ _ _ _ _ h3]
                apply List.ext_getElem?
                intro j
                rcases Nat.lt_or_ge j (P.cellsOf e) with hj | hj
                · rw [List.getElem?_take, if_pos hj, List.getElem?_drop, ← h2 j hj, Array.getElem?_toList]
                  congr 1; omega
                · rw [List.getElem?_eq_none (by simp; omega), List.getElem?_eq_none (by omega)]
              rw [h4]
              exact ih hA (.inl hcells) hx C hW hro) hW hro
            rw [List.take_of_length_le (by omega)] at g4
            obtain ⟨k1, k2⟩ := g2.view g3 (k := ⟨ys, P.cellsOf e, 0, true⟩) (δ := off) hB rfl g5 (by show off + ys.length ≤ _; omega) (by show VRs C1 ys ((c.toList.drop off).take ys.length); rw [g6]; exact g4)
            refine ⟨_, [slc C1.H.length 0 0 len cap], g1.trans .view, k1, k2, .cons ?_ .nil, .one rfl, .inr ⟨_, len, cap, ⟨ys, P.cellsOf e, 0, true⟩, rfl, hlc, hcm, by simp [Cx.view], rfl, rfl, rfl, g6, fun i hi => Grows.view.rd (g7 i hi)⟩⟩
            have hAR := AR.cur (C := C1.view ⟨ys, P.cellsOf e, 0, true⟩ B off c.size) (b := C1.H.length) (off := 0) (k := ⟨ys, P.cellsOf e, 0, true⟩) (by simp [Cx.view]) (if_pos rfl)
            rw [Nat.zero_add] at hAR
            refine .slice hAR hlc (Nat.le_refl _) fun k B' δ' hk _ _ hk0 => ?_
            have := k2 _ k hk
            rw [hk0] at this; cases this
    · cases hT
theorem cell_has {u : TypeId} {r : Reach} {base : Nat} {a : Addr} {len cap : Nat} (h : Cell.okWide P w r base u (.slice (some a) len cap)) : HasCells w := by
  have h1 : Cell.ok P w r base u (.slice (some a) len cap) := by
    unfold Cell.okWide at h
    split at h <;> first | exact h | (rename_i h2; cases h2)
  unfold Cell.ok at h1
  split at h1 <;> try cases ‹Value.slice _ _ _ = _›
  · obtain ⟨_, _, _, _, row, n, hs, _⟩ := h1
    unfold World.shape? at hs
    split at hs
    · rename_i c e f hb; exact ⟨_, c, e, f, hb⟩
    · cases hs
  · exact h1.elim
theorem value_nosl {t : TypeId} {r : Reach} {base : Nat} {v : Value} (h : Value.okWide P w r base t v) : HasCells w ∨ ∀ x ∈ v.cells.toList, noSl x := by
  by_cases hc : HasCells w
  · exact .inl hc
  · have hcell : ∀ u x, Cell.okWide P w r base u x → noSl x := fun u x hx => by
      unfold noSl
      split
      · exact hc (cell_has hx)
      · trivial
    refine .inr fun x hx => ?_
    have hagg : (∃ cs, v = .agg cs ∧ cs.size = P.cellsOf t ∧ Row.okWide P w r base t cs) → noSl x := by
      rintro ⟨cs, rfl, _, ts, _, _, hall⟩
      obtain ⟨i, hi⟩ := List.getElem?_of_mem (show x ∈ cs.toList from hx)
      obtain ⟨u, _, hu⟩ := hall i x (by rw [← Array.getElem?_toList]; exact hi)
      exact hcell u x hu
    unfold Value.okWide at h
    split at h
    · exact hagg h
    · exact hagg h
    · have hv := hcell t v h
      cases v with
      | agg cs =>
        exfalso
        unfold Cell.okWide at h
        split at h <;> first | (rename_i h2; cases h2; done) | skip
        unfold Cell.ok at h
        split at h <;> first | exact h.elim | (rename_i h2; cases h2)
      | _ =>
        have : x = _ := List.mem_singleton.1 hx
        rw [this]; exact hv
end
end Fb
