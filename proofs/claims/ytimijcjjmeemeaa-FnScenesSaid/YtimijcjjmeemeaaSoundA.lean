/- The operations that change what was there: stores, append, copy. -/
import Derived.Test.YtimijcjjmeemeaaSoundO
import Derived.Laws.NewFold
set_option linter.unusedVariables false
set_option linter.unusedSimpArgs false
namespace Fb
open Go

section
variable {P : Program} {inv : FuncId → Option Nat} {isPure : Nat → Bool} {h : Hint} {C : Cx} {l : Look} {e : Env} {a : Act} {w : World}
/-- What came of an act: the heap, and how it lies. -/
def Acts (n0 B0 : Nat) (C : Cx) (w : World) (H' : Heap) (v v' : Value) (w' : World) : Prop :=
  ∃ C' : Cx, C'.H = H' ∧ WR C' w' ∧ Ext n0 B0 C w C' w' ∧ VR C' v v'
theorem wr_inv {n0 : Nat} {wb : Bool} {H H' : Heap} {b off ver : Nat} {vs : List Value} (hw : wr n0 wb H b off ver vs = some H') :
    ∃ k, H[b]? = some k ∧ ver = k.ver ∧ k.ro = false ∧ off + vs.length ≤ k.cells.length ∧ H' = H.set b { k with cells := splice k.cells off vs } := by
  unfold wr at hw
  split at hw
  · rename_i k hk
    split at hw
    · rename_i hc; cases hw; exact ⟨k, hk, hc.1, hc.2.1, hc.2.2.2, rfl⟩
    · cases hw
  · cases hw
theorem set_get {H : Heap} {b : Nat} {k k' : Blk} (hk : H[b]? = some k) (x : Nat) : (H.set b k')[x]? = if x = b then some k' else H[x]? := by
  have hlt := (List.getElem?_eq_some_iff.1 hk).1
  rw [List.getElem?_set]
  by_cases hx : b = x
  · subst hx; simp [hlt]
  · rw [if_neg hx, if_neg (fun h => hx h.symm)]
theorem splice_take {cs vs : List Value} {o m : Nat} (hl : o + vs.length ≤ m) : (splice cs o vs).take m = splice (cs.take m) o vs := by
  by_cases hc : o ≤ cs.length
  · unfold splice
    rw [List.append_assoc, List.append_assoc, List.take_append, List.take_append, List.take_take, List.take_take]
    have h1 : (cs.take o).length = o := by simp; omega
    rw [h1, Nat.min_eq_right (by omega), Nat.min_eq_left (by omega)]
    congr 1
    rw [List.take_of_length_le (by omega), List.drop_take]
    congr 2
    omega
  · unfold splice
    have h1 : cs.take o = cs := List.take_of_length_le (by omega)
    have h2 : cs.drop (o + vs.length) = [] := List.drop_eq_nil_of_le (by omega)
    have h3 : (cs.take m).take o = cs := by rw [List.take_take, Nat.min_eq_left (by omega), h1]
    have h4 : (cs.take m).drop (o + vs.length) = [] := List.drop_eq_nil_of_le (by simp; omega)
    rw [h1, h2, h3, h4, List.append_nil, List.take_of_length_le (by simp; omega)]
theorem frozen_setRow {w : World} {B : Nat} {cs : Array Value} {a : Addr} : (w.setRow B cs).frozen? a = w.frozen? a := by
  unfold World.frozen?
  by_cases h : a.block = B
  · rw [h]
    cases hB : w.heap[B]? with
    | none => simp [World.setRow, Array.getElem?_modify, hB]
    | some o => cases o <;> simp [World.setRow, Array.getElem?_modify, hB]
  · rw [setRow_other w B a.block cs h]
/-- Cells are written. -/
theorem wr_sound {n0 : Nat} {wb : Bool} {b off ver : Nat} {vs vs' : List Value} {H' : Heap} (hW : WR C w) (hw : wr n0 wb C.H b off ver vs = some H') {a' : Addr} (ha : AR C ⟨b, off, some ver⟩ a')
    (hv : VRs C vs vs') (hf : Flat vs) : ∃ B c elem, a' = ⟨B, off, none⟩ ∧ w.heap[B]? = some (.cells c elem (0, 0)) ∧ off + vs'.length ≤ c.size ∧
      ∀ n1 B0, ∃ C', C'.H = H' ∧ C'.σ = C.σ ∧ C'.ws = C.ws ∧ WR C' (w.setRow B (splice c.toList off vs').toArray) ∧ Ext n1 B0 C w C' (w.setRow B (splice c.toList off vs').toArray) := by
  obtain ⟨k, hk, hver, hro, hl, rfl⟩ := wr_inv hw
  obtain ⟨B, δ, hs, rfl⟩ := ha.now hk hver
  obtain ⟨k2, hk2, c, elem, fz, hB, h1, h2, hfl, h3, h4⟩ := hW.blk b B δ hs
  have e1 : k = k2 := Option.some.inj (hk.symm.trans hk2)
  subst e1
  obtain ⟨rfl, rfl⟩ := h4 hro
  have hvl := hv.1
  refine ⟨B, c, elem, rfl, hB, by omega, fun n1 B0 => ?_⟩
  have hget := set_get (k' := { k with cells := splice k.cells off vs }) hk
  let C' : Cx := { C with H := C.H.set b { k with cells := splice k.cells off vs } }
  have hL : Later C C' := by
    refine ⟨rfl, fun x kx hx => ?_⟩
    by_cases hxb : x = b
    · subst hxb
      have : kx = k := Option.some.inj (hx.symm.trans hk)
      subst this
      exact ⟨{ kx with cells := splice kx.cells off vs }, by show (C.H.set x _)[x]? = _; rw [hget, if_pos rfl], Nat.le_refl _, rfl, rfl, fun _ y hy => ⟨hy, rfl⟩⟩
    · exact ⟨kx, by show (C.H.set b _)[x]? = _; rw [hget, if_neg hxb]; exact hx, Nat.le_refl _, rfl, rfl, fun _ y hy => ⟨hy, rfl⟩⟩
  have hW' : WR C' (w.setRow B (splice c.toList off vs').toArray) := by
    refine ⟨fun x Bx δx hx => ?_, fun x y Bx δx δy hx hy hne kx hkx => ?_⟩
    · by_cases hxb : x = b
      · subst hxb
        have hx : C.σ x = some (Bx, δx) := hx
        rw [hs] at hx
        cases hx
        refine ⟨_, by show (C.H.set x _)[x]? = _; rw [hget, if_pos rfl], (splice c.toList off vs').toArray, elem, _, setRow_heap w B c _ elem (0, 0) hB, ?_, ?_, hfl.splice hf, ?_, fun _ => ⟨rfl, rfl⟩⟩
        · show (splice c.toList off vs').length = C.ws x
          rw [splice_length (by simp; omega)]; simpa using h1
        · show 0 + (splice k.cells off vs).length ≤ (splice c.toList off vs').length
          rw [splice_length hl, splice_length (by simp; omega)]; simpa using h2
        · show VRs C' (splice k.cells off vs) (((splice c.toList off vs').drop 0).take (splice k.cells off vs).length)
          rw [splice_length hl, List.drop_zero, splice_take (by omega)]
          have h3' : VRs C k.cells (c.toList.take k.cells.length) := by simpa using h3
          exact (h3'.splice hv).later hL
      · have hx : C.σ x = some (Bx, δx) := hx
        obtain ⟨kx, hkx, cx, ex, fx, hBx, g1, g2, g3, g4, g5⟩ := hW.blk x Bx δx hx
        have hne : Bx ≠ B := fun e => by
          subst e
          have := hW.one b x Bx 0 δx hs hx (fun e => hxb e.symm) k hk
          rw [hro] at this; cases this
        exact ⟨kx, by show (C.H.set b _)[x]? = _; rw [hget, if_neg hxb]; exact hkx, cx, ex, fx, by rw [setRow_other w B Bx _ hne]; exact hBx, g1, g2, g3, g4.later hL, g5⟩
    · by_cases hxb : x = b
      · subst hxb
        have := hW.one x y Bx δx δy hx hy hne k hk
        rw [hro] at this; cases this
      · have hkx : (C.H.set b _)[x]? = some kx := hkx
        rw [hget, if_neg hxb] at hkx
        exact hW.one x y Bx δx δy hx hy hne kx hkx
  refine ⟨C', rfl, rfl, rfl, hW', hL, by simp [C'], fun x Bx δx hx => .inl ⟨hx, (hW.lt hx).1⟩, by simp, fun x _ hx => ⟨hx, ?_⟩, fun Bx _ hkeep => ?_, ⟨rfl, rfl, rfl⟩, fun a _ => frozen_setRow⟩
  · have hxb : x ≠ b := fun e => by subst e; rw [hs] at hx; cases hx
    show (C.H.set b _)[x]? = _
    rw [hget, if_neg hxb]
  · have : Bx ≠ B := fun e => by
      subst e
      have := hkeep b k 0 hk hs
      rw [hro] at this; cases this
    exact setRow_other w B Bx _ this
theorem store_sound (hi : Inv inv h C) (hA : At C h l e a w) (hW : WR C w) {o : Oper} {n : Nat} {x y : Opd} (hc : comp1 P inv isPure h l o = some (.st n x y)) {cl : Cl} {n0 : Nat} {wb : Bool} {v : Value} {H' : Heap}
    (hv : ev1 cl n0 wb e C.H (.st n x y) = some (v, H')) (n1 B0 : Nat) : Ends P o a w fun v' w' => Acts n1 B0 C w H' v v' w' := by
  obtain ⟨dst, op, ty, pos, after, guard⟩ := o
  have hsp := comp1_spec hc
  cases hsp with
  | other hx => cases hx
  | @st t x0 y0 _ _ q hx hy hq h0 =>
    have h1 := opd_sound hi hA hx
    have h2 := opd_sound hi hA hy
    simp only [ev1] at hv
    split at hv
    · rename_i b off ver hp
      split at hv
      · rename_i hlen
        obtain ⟨H1, hw, hv⟩ := Option.map_eq_some_iff.1 hv
        cases hv
        rw [hp] at h1
        obtain ⟨a', ha', hr⟩ := h1.ptr_inv
        have hne : cellsOf (y.ev e) ≠ [] := fun hh => by rw [hh] at hlen; exact h0 hlen.symm
        have hcv := h2.cells hne
        obtain ⟨B, c, elem, rfl, hB, hl, hall⟩ := wr_sound hW hw hr hcv h2.flat
        obtain ⟨C', e1, _, _, hW', hE⟩ := hall n1 B0
        have hst := run_storeVar_at (P := P) (w := w) (o := off) (v := a.eval y0) hq hB hl (by have := hcv.1; omega) (hcv.flat h2.flat)
        refine .skip (w' := w.setRow B (splice c.toList off (a.eval y0).cells.toList).toArray) ?_ ⟨C', e1, hW', hE, .u⟩
        simp only [execOp, ha', Instr.storeAt, Instr.sureAddr, Sem.run_bind, Sem.run_pure, Result.andThen_ok, hst]
      · cases hv
    · cases hv
/-- What is appended or copied. -/
theorem src_sound (hW : WR C w) {esz n : Nat} {v v' : Value} {cs : List Value} (hs : srcOf esz C.H v = some (n, cs)) (hv : VR C v v') :
    (∀ w1 : World, (Builtin.lenOf v').run P w1 = .ok n w1) ∧ cs.length = n * esz ∧ Flat cs ∧
      ∀ m, m ≤ n → ∃ cs', (∀ w1 : World, w1.heap = w.heap → (Builtin.firstCells esz m v').run P w1 = .ok cs' w1) ∧ VRs C (cs.take (m * esz)) cs'.toList := by
  unfold srcOf at hs
  split at hs
  · cases hs
    obtain ⟨_, _, rfl⟩ := hv.nilslice_inv
    refine ⟨fun _ => rfl, by simp, .nil, fun m hm => ⟨#[], fun _ _ => rfl, by simpa using VRs.nil⟩⟩
  · rename_i b off ver len cap
    obtain ⟨cs0, hcs, hs⟩ := Option.map_eq_some_iff.1 hs
    cases hs
    obtain ⟨k, hk, hver, hl, hcs'⟩ := rd_inv hcs
    have hlen : cs.length = n * esz := by rw [hcs']; simp; omega
    rcases hv.slice_inv with ⟨a', cap', rfl, har, _⟩ | ⟨rfl, rfl, a', _, rfl, har⟩
    · obtain ⟨B, o, c, elem, fz, rfl, hB, hlc, hvr, hf⟩ := rd_sound hW hcs har
      refine ⟨fun _ => rfl, hlen, hf, fun m hm => ?_⟩
      have hm' : m * esz ≤ n * esz := Nat.mul_le_mul_right _ hm
      refine ⟨_, fun w1 hw => run_loadCells_of (w := w1) (by rw [hw]; exact hB) (by omega), ?_⟩
      have := hvr.take (m := m * esz)
      rwa [List.take_take, Nat.min_eq_left hm'] at this
    · have h0 : cs = [] := List.length_eq_zero_iff.1 (by simpa using hlen)
      subst h0
      refine ⟨fun _ => rfl, hlen, .nil, fun m hm => ?_⟩
      obtain rfl : m = 0 := by omega
      refine ⟨#[], fun w1 _ => ?_, by simpa using VRs.nil⟩
      simp [Builtin.firstCells, loadCells, loadCellsFrom]
  · rename_i s
    split at hs
    · rename_i h1
      subst h1
      cases hs
      rw [hv.string_inv]
      refine ⟨fun _ => rfl, by simp, ?_, fun m hm => ⟨_, fun _ _ => rfl, ?_⟩⟩
      · intro x hx
        obtain ⟨b, _, rfl⟩ := List.mem_map.1 hx
        rfl
      · have e1 : ((s.extract 0 m).data.map fun b => Value.int .u8 (b.toNat : Int)).toList = (s.data.toList.map fun b => Value.int .u8 (b.toNat : Int)).take (m * 1) := by
          simp [List.map_take, ByteArray.data_extract, List.extract]
        rw [e1]
        refine ⟨rfl, fun i h1 h2 => ?_⟩
        simp only [List.getElem_take, List.getElem_map]
        exact .int _ _
    · cases hs
  · cases hs
theorem zero_all {t : TypeId} {z : List Value} (hz : zeroOf P t = some z) : ∃ v, (∀ w, (zeroValue t).run P w = .ok v w) ∧ v.cells.toList = z := by
  unfold zeroOf at hz
  obtain ⟨v, hv, rfl⟩ := Option.map_eq_some_iff.1 hz
  obtain ⟨i, hi, hz⟩ := Option.bind_eq_some_iff.1 hv
  exact ⟨v, fun w => by simp [zeroValue, typeInfo, hi, hz], rfl⟩
theorem splice_nil {cs : List Value} {o : Nat} : splice cs o [] = cs := by simp [splice]
theorem wr_nil {n0 : Nat} {wb : Bool} {H H' : Heap} {b off ver : Nat} (hw : wr n0 wb H b off ver [] = some H') : H' = H := by
  obtain ⟨k, hk, _, _, _, rfl⟩ := wr_inv hw
  rw [splice_nil]
  have hlt := (List.getElem?_eq_some_iff.1 hk).1
  have hk' : H[b] = k := (List.getElem?_eq_some_iff.1 hk).2
  rw [show ({ k with cells := k.cells } : Blk) = H[b] from hk'.symm]
  exact List.set_getElem_self _
theorem copy_sound (hi : Inv inv h C) (hA : At C h l e a w) (hW : WR C w) {o : Oper} {esz : Nat} {x y : Opd} (hc : comp1 P inv isPure h l o = some (.cpy esz x y)) {cl : Cl} {n0 : Nat} {wb : Bool} {v : Value} {H' : Heap}
    (hv : ev1 cl n0 wb e C.H (.cpy esz x y) = some (v, H')) (n1 B0 : Nat) : Ends P o a w fun v' w' => Acts n1 B0 C w H' v v' w' := by
  obtain ⟨dst, op, ty, pos, after, guard⟩ := o
  have hsp := comp1_spec hc
  cases hsp with
  | other hx => cases hx
  | @cpy t u e0 x0 y0 _ _ q hu hq hx hy =>
    have h1 := opd_sound hi hA hx
    have h2 := opd_sound hi hA hy
    simp only [ev1] at hv
    obtain ⟨⟨n, cs⟩, hs, hv⟩ := Option.bind_eq_some_iff.1 hv
    obtain ⟨hln, hcl, hcf, hfc⟩ := src_sound (P := P) hW hs h2
    dsimp only at hv hln hcl hcf hfc
    have hrun : ∀ {p : Option Addr} {len cap : Nat}, a.eval x0 = .slice p len cap → ∀ {cs' : Array Value}, (Builtin.firstCells q.1 (Nat.min n len) (a.eval y0)).run P w = .ok cs' w →
        ∀ {w' : World}, ((match p with | some p => storeCells p cs'.toList | none => pure ()) : Sem Unit).run P w = .ok () w' →
        (execOp a.eval ⟨dst, .call ⟨.builtin .copy, #[x0, y0], #[t, u]⟩, ty, pos, after, guard⟩).run P w = .ok (.value (.int .i64 (Nat.min n len : Nat))) w' := by
      intro p len cap hp cs' hcs w' hst
      rw [run_builtin1]
      simp only [builtin, Builtin.copy_, List.map_toArray, List.map_cons, List.map_nil, hp]
      simp only [Sem.run_bind, List.getElem?_toArray, List.getElem?_cons_zero, List.getElem?_cons_succ, run_under hu, Result.andThen_ok, hln w, (lay_spec (w := w) hq).1, hcs]
      cases p with
      | none => cases hst; rfl
      | some p => simp only [Sem.run_bind, hst, Result.andThen_ok, Sem.run_pure]; rfl
    split at hv
    · rename_i hp
      cases hv
      rw [hp] at h1
      obtain ⟨_, _, hnil⟩ := h1.nilslice_inv
      obtain ⟨cs', hcs', _⟩ := hfc (Nat.min n 0) (Nat.min_le_left _ _)
      refine .value (hrun hnil (hcs' w rfl) (w' := w) rfl) ⟨C, rfl, hW, .refl hW, ?_⟩
      have : ((Nat.min n 0 : Nat) : Int) = 0 := by have : Nat.min n 0 = 0 := Nat.min_zero n; omega
      rw [this]
      exact .int _ _
    · rename_i b off ver len cap hp
      obtain ⟨H1, hw, hv⟩ := Option.map_eq_some_iff.1 hv
      cases hv
      rw [hp] at h1
      obtain ⟨cs', hcs', hvr⟩ := hfc (Nat.min n len) (Nat.min_le_left _ _)
      rcases h1.slice_inv with ⟨a', cap', ha', har, _⟩ | ⟨rfl, rfl, a', _, ha', har⟩
      · obtain ⟨B, c, elem, rfl, hB, hl, hall⟩ := wr_sound hW hw har hvr (hcf.take)
        obtain ⟨C', e1, _, _, hW', hE⟩ := hall n1 B0
        have hst := run_storeCells_block (P := P) (w := w) hB hl (hvr.flat hcf.take)
        exact .value (hrun ha' (hcs' w rfl) hst) ⟨C', e1, hW', hE, .int _ _⟩
      · have e0 : min n 0 = 0 := Nat.min_zero n
        rw [e0, Nat.zero_mul, List.take_zero] at hw
        have := wr_nil hw
        subst this
        have hz : cs'.toList = [] := by
          have := hvr.1
          rw [show Nat.min n 0 = 0 from e0, Nat.zero_mul, List.take_zero] at this
          exact List.length_eq_zero_iff.1 this.symm
        refine .value (hrun ha' (hcs' w rfl) (w' := w) (by simp only [hz]; rfl)) ⟨C, rfl, hW, .refl hW, ?_⟩
        rw [show Nat.min n 0 = 0 from e0, e0]
        exact .int _ _
    · cases hv
theorem clear_sound (hi : Inv inv h C) (hA : At C h l e a w) (hW : WR C w) {o : Oper} {z : List Value} {x : Opd} (hc : comp1 P inv isPure h l o = some (.clr z x)) {cl : Cl} {n0 : Nat} {wb : Bool} {v : Value} {H' : Heap}
    (hv : ev1 cl n0 wb e C.H (.clr z x) = some (v, H')) (n1 B0 : Nat) : Ends P o a w fun v' w' => Acts n1 B0 C w H' v v' w' := by
  obtain ⟨dst, op, ty, pos, after, guard⟩ := o
  have hsp := comp1_spec hc
  cases hsp with
  | other hx => cases hx
  | @clr t e0 x0 _ _ q hu hz hq hok hl hx =>
    have h1 := opd_sound hi hA hx
    simp only [ev1] at hv
    obtain ⟨zv, hzv, hzz⟩ := zero_all hz
    have hrun0 : ∀ {p : Option Addr} {cap : Nat}, a.eval x0 = .slice p 0 cap → (execOp a.eval ⟨dst, .call ⟨.builtin .clear, #[x0], #[t]⟩, ty, pos, after, guard⟩).run P w = .ok (.value (.tuple #[])) w := by
      intro p cap hp
      rw [run_builtin1]
      cases p <;> simp [builtin, Builtin.clear_, hp, run_under hu]
    split at hv
    · rename_i hp
      cases hv
      rw [hp] at h1
      obtain ⟨_, _, hnil⟩ := h1.nilslice_inv
      exact .value (hrun0 hnil) ⟨C, rfl, hW, .refl hW, .u⟩
    · rename_i b off ver len cap hp
      obtain ⟨H1, hw, hv⟩ := Option.map_eq_some_iff.1 hv
      cases hv
      rw [hp] at h1
      by_cases h0 : len = 0
      · subst h0
        rw [rep] at hw
        have := wr_nil hw
        subst this
        rcases h1.slice_inv with ⟨a', cap', ha', har, _⟩ | ⟨_, _, a', _, ha', har⟩
        · exact .value (hrun0 ha') ⟨C, rfl, hW, .refl hW, .u⟩
        · exact .value (hrun0 ha') ⟨C, rfl, hW, .refl hW, .u⟩
      · rcases h1.slice_inv with ⟨a', cap', ha', har, _⟩ | ⟨h2, _⟩
        · have hzs : zv.cells.size = q.1 := by rw [← hl, ← hzz]; simp
          have hrep : (Builtin.zeroCells zv.cells len).toList = rep len z := by
            rw [← hzz]; exact rep_array rfl
          have hvr : VRs C (rep len z) (Builtin.zeroCells zv.cells len).toList := by
            rw [hrep]; exact ⟨rfl, fun i h1 _ => .okConst (rep_ok hok _ (List.getElem_mem h1))⟩
          have hfl : Flat (rep len z) := rep_flat (.okZero hok)
          obtain ⟨B, c, elem, rfl, hB, hl2, hall⟩ := wr_sound hW hw har hvr hfl
          obtain ⟨C', e1, _, _, hW', hE⟩ := hall n1 B0
          have hst := run_storeCells_block (P := P) (w := w) hB hl2 (hvr.flat hfl)
          refine .value (v' := .tuple #[]) ?_ ⟨C', e1, hW', hE, .u⟩
          rw [run_builtin1]
          have : (Builtin.clear_ #[t] ty #[a.eval x0]).run P w = .ok (.tuple #[]) (w.setRow B (splice c.toList off (Builtin.zeroCells zv.cells len).toList).toArray) := by
            obtain ⟨m, rfl⟩ : ∃ m, len = m + 1 := ⟨len - 1, by omega⟩
            simp only [Builtin.clear_, ha', Sem.run_bind, List.getElem?_toArray, List.getElem?_cons_zero, run_under hu, Result.andThen_ok, hzv, hst, Sem.run_pure]
          simp [builtin, this]
        · exact absurd h2 h0
    · cases hv
theorem run_append {t u e0 : TypeId} (hu : P.underlying t = some (.slice e0)) {e1 : TypeId} (hu' : P.underlying u = some (.slice e1)) {q : Nat × Bool} (hq : lay P e0 = some q) {z : Value} {ty : TypeId} {x' y' : Value}
    (hz : ∀ w1, (zeroValue e0).run P w1 = .ok z w1) {p : Option Addr} {len cap n : Nat} (hx : x' = .slice p len cap) (hn : ∀ w1 : World, w1.heap = w.heap → (Builtin.lenOf y').run P w1 = .ok n w1)
    {cs' : Array Value} (hcs : ∀ w1 : World, w1.heap = w.heap → (Builtin.firstCells q.1 n y').run P w1 = .ok cs' w1) :
    (len + n ≤ cap → ∀ {w' : World}, ((match (generalizing := false) p with | some p => storeCells (p.add (len * q.1)) cs'.toList | none => pure ()) : Sem Unit).run P w = .ok () w' →
      (Builtin.append_ #[t, u] ty #[x', y']).run P w = .ok (.slice p (len + n) cap) w') ∧
    (cap < len + n → (len + n) * P.bytesOf e0 ≤ roomMax → P.bytesOf e0 ≠ 0 → ∀ {os : Array Value}, (∀ w1 : World, w1.heap = w.heap → (Builtin.firstCells q.1 len x').run P w1 = .ok os w1) →
      ∃ nc, len + n ≤ nc ∧ (Builtin.append_ #[t, u] ty #[x', y']).run P w = .ok (.slice (some ⟨w.heap.size, 0, none⟩) (len + n) nc) (w.drew.alloc (.cells (os ++ cs' ++ Builtin.zeroCells z.cells (nc - (len + n))) e0))) := by
  obtain ⟨hsz, _, hby, info, hinfo, _, _⟩ := lay_spec (w := w) hq
  have hby : P.bytesOf e0 = info.bytes := by rw [hby, hinfo]; rfl
  have hsz' : ∀ w1, (Go.sizeOf e0).run P w1 = .ok q.1 w1 := fun w1 => (lay_spec (w := w1) hq).1
  have hti : ∀ w1, (typeInfo e0).run P w1 = .ok info w1 := fun w1 => by
    obtain ⟨_, _, _, i2, hi2, _, h3⟩ := lay_spec (w := w1) hq
    rw [hinfo] at hi2; cases hi2; exact h3
  subst hx
  refine ⟨fun hle w' hst => ?_, fun hgt hroom hb0 os hos => ?_⟩
  · simp only [Builtin.append_, Sem.run_bind, List.getElem?_toArray, List.getElem?_cons_zero, List.getElem?_cons_succ, run_under hu, run_under hu', Result.andThen_ok, hsz', Sem.run_pure, Bool.false_eq_true, if_false, hn w rfl, if_pos hle, hcs w rfl,
      Bool.not_false, if_true]
    cases p with
    | none => cases hst; rfl
    | some p => simp only [Sem.run_bind, hst, Result.andThen_ok, Sem.run_pure]
  · have hnle : ¬ (len + n ≤ cap) := by omega
    have h47 : (len + n) * info.bytes ≤ 140737488355328 := by rw [← hby]; exact hroom
    have hfit := growslice_fits hgt h47
    have hnf : ¬ (Builtin.nextslicecap (len + n) cap * info.bytes > 2 ^ 48) := by omega
    have h63 : ¬ (((len + n : Nat) : Int) > IntKind.i64.max ∧ (false = true ∨ info.bytes = 0)) := by
      rintro ⟨_, h | h⟩
      · cases h
      · exact hb0 (hby.trans h)
    refine ⟨(Question.appendCap (len + n) cap e0).cut (w.tape w.drawn (.appendCap (len + n) cap e0)), by simp [Question.cut], ?_⟩
    · have hz1 : info.bytes ≠ 0 := fun hh => hb0 (hby.trans hh)
      have hnf' : ¬ (281474976710656 < Builtin.nextslicecap (len + n) cap * info.bytes) := by omega
      simp [Builtin.append_, run_under hu, run_under hu', hsz', hn w rfl, hnle, hti, hz1, hnf', Question.forced, hos w.drew rfl, hcs w.drew rfl, hz, newRow]
/-- A block in a newer version: it lies where it lay, or elsewhere. -/
theorem bump {b B δ : Nat} {k : Blk} (hW : WR C w) (hk : C.H[b]? = some k) (hs : C.σ b = some (B, δ)) (hro : k.ro = false) {cells : List Value} {B' n : Nat} {w' : World} {c : Array Value} {elem : TypeId} (hc : w'.heap[B']? = some (.cells c elem (0, 0)))
    (hn : c.size = n) (hl : cells.length ≤ n) (hf : Flat cells) (hr : ∀ C', Later C C' → VRs C' cells (c.toList.take cells.length)) (hB : B' = B ∨ w.heap.size ≤ B') (hold : ∀ x, x ≠ B → x < w.heap.size → w'.heap[x]? = w.heap[x]?)
    (hBold : B' ≠ B → w'.heap[B]? = w.heap[B]?) (hsz : w.heap.size ≤ w'.heap.size) (hos : w'.os = w.os ∧ w'.output = w.output ∧ w'.tape = w.tape) (hfz : ∀ a, w'.frozen? a = w.frozen? a) (n1 B0 : Nat) (hB0 : B0 ≤ w.heap.size) :
    let C' : Cx := ⟨C.ρ, C.H.set b { k with cells := cells, ver := k.ver + 1 }, fun x => if x = b then some (B', 0) else C.σ x, fun x => if x = b then n else C.ws x⟩
    WR C' w' ∧ Ext n1 B0 C w C' w' := by
  intro C'
  have hget := set_get (k' := { k with cells := cells, ver := k.ver + 1 }) hk
  have hsame : C'.H[b]? = some { k with cells := cells, ver := k.ver + 1 } := by show (C.H.set b _)[b]? = _; rw [hget, if_pos rfl]
  have hoth : ∀ x, x ≠ b → C'.H[x]? = C.H[x]? := fun x hx => by show (C.H.set b _)[x]? = _; rw [hget, if_neg hx]
  have hL : Later C C' := by
    refine ⟨rfl, fun x kx hx => ?_⟩
    by_cases hxb : x = b
    · subst hxb
      have : kx = k := Option.some.inj (hx.symm.trans hk)
      subst this
      exact ⟨_, hsame, Nat.le_succ _, rfl, rfl, fun hv => absurd hv (Nat.succ_ne_self _)⟩
    · exact ⟨kx, (hoth x hxb).trans hx, Nat.le_refl _, rfl, rfl, fun _ y hy => by simp [C', hxb, hy]⟩
  have hother : ∀ x Bx δx, x ≠ b → C.σ x = some (Bx, δx) → Bx ≠ B ∧ Bx < w.heap.size := fun x Bx δx hxb hx => by
    refine ⟨fun e => ?_, (hW.lt hx).2⟩
    subst e
    have := hW.one b x Bx δ δx hs hx (fun e => hxb e.symm) k hk
    rw [hro] at this; cases this
  refine ⟨⟨fun x Bx δx hx => ?_, fun x y Bx δx δy hx hy hne kx hkx => ?_⟩, hL, by simp [C'], fun x Bx δx hx => ?_, hsz, fun x _ hx => ?_, fun Bx hlt hkeep => ?_, hos, fun a _ => hfz a⟩
  · by_cases hxb : x = b
    · subst hxb
      simp only [C', if_true, Option.some.injEq, Prod.mk.injEq] at hx
      obtain ⟨rfl, rfl⟩ := hx
      refine ⟨_, hsame, c, elem, _, hc, by simp [C', hn], by simp; omega, hf, ?_, fun _ => ⟨rfl, rfl⟩⟩
      simpa using hr C' hL
    · simp only [C', if_neg hxb] at hx
      obtain ⟨h1, h2⟩ := hother x Bx δx hxb hx
      obtain ⟨kx, hkx, cx, ex, fx, hBx, g1, g2, g3, g4, g5⟩ := hW.blk x Bx δx hx
      exact ⟨kx, (hoth x hxb).trans hkx, cx, ex, fx, (hold Bx h1 h2).trans hBx, by simp [C', hxb, g1], g2, g3, g4.later hL, g5⟩
  · have key : ∀ z Bz δz, z ≠ b → C.σ z = some (Bz, δz) → Bz ≠ B' := fun z Bz δz hzb hz e => by
      obtain ⟨h1, h2⟩ := hother z Bz δz hzb hz
      rcases hB with h | h
      · exact h1 (e.trans h)
      · omega
    by_cases hxb : x = b
    · have hyb : y ≠ b := fun e => hne (hxb.trans e.symm)
      simp only [C', if_pos hxb, if_neg hyb, Option.some.injEq, Prod.mk.injEq] at hx hy
      exact absurd hx.1.symm (key y Bx δy hyb hy)
    · by_cases hyb : y = b
      · simp only [C', if_neg hxb, if_pos hyb, Option.some.injEq, Prod.mk.injEq] at hx hy
        exact absurd hy.1.symm (key x Bx δx hxb hx)
      · simp only [C', if_neg hxb, if_neg hyb] at hx hy
        rw [hoth x hxb] at hkx
        exact hW.one x y Bx δx δy hx hy hne kx hkx
  · by_cases hxb : x = b
    · subst hxb
      simp only [C', if_true, Option.some.injEq, Prod.mk.injEq] at hx
      obtain ⟨rfl, rfl⟩ := hx
      rcases hB with h | h
      · subst h
        have : δ = 0 := by
          obtain ⟨k2, hk2, _, _, _, _, _, _, _, _, h4⟩ := hW.blk _ _ δ hs
          have e1 : k = k2 := Option.some.inj (hk.symm.trans hk2)
          subst e1
          exact (h4 hro).1
        subst this
        exact .inl ⟨hs, (hW.lt hs).1⟩
      · exact .inr h
    · simp only [C', if_neg hxb] at hx
      exact .inl ⟨hx, (hW.lt hx).1⟩
  · have hxb : x ≠ b := fun e => by subst e; rw [hs] at hx; cases hx
    exact ⟨by simp [C', hxb, hx], hoth x hxb⟩
  · have : Bx ≠ B := fun e => by
      subst e
      have := hkeep b k δ hk hs
      rw [hro] at this; cases this
    exact hold Bx this (by omega)
theorem WR.drew (hW : WR C w) : WR C w.drew := ⟨hW.blk, hW.one⟩
theorem Ext.drew {n0 B0 : Nat} {C' : Cx} {w' : World} (hE : Ext n0 B0 C w.drew C' w') : Ext n0 B0 C w C' w' := ⟨hE.toLater, hE.len, hE.fresh, hE.hsz, hE.un, hE.keep, hE.os, hE.fz⟩
theorem unlaid (hW : WR C w) {b : Nat} (hb : C.H.length ≤ b) : C.σ b = none := by
  cases hs : C.σ b with
  | none => rfl
  | some x => have := (hW.lt hs).1; omega
theorem zeroCells_size {z : Array Value} {n : Nat} : (Builtin.zeroCells z n).size = n * z.size := by simp [Builtin.zeroCells]
theorem append_sound (hi : Inv inv h C) (hA : At C h l e a w) (hW : WR C w) {o : Oper} {esz bytes : Nat} {x y : Opd} (hc : comp1 P inv isPure h l o = some (.app esz bytes x y)) {cl : Cl} {n0 : Nat} {wb : Bool} {v : Value} {H' : Heap}
    (hv : ev1 cl n0 wb e C.H (.app esz bytes x y) = some (v, H')) (n1 B0 : Nat) (hn1 : n1 ≤ C.H.length) (hB0 : B0 ≤ w.heap.size) : Ends P o a w fun v' w' => Acts n1 B0 C w H' v v' w' := by
  obtain ⟨dst, op, ty, pos, after, guard⟩ := o
  have hsp := comp1_spec hc
  cases hsp with
  | other hx => cases hx
  | @app t u e0 e1 x0 y0 _ _ z q hu hu' hz hq hl h0 hb hx hy =>
    have h1 := opd_sound hi hA hx
    have h2 := opd_sound hi hA hy
    simp only [ev1] at hv
    obtain ⟨⟨n, cs⟩, hs, hv⟩ := Option.bind_eq_some_iff.1 hv
    obtain ⟨hln, hcl, hcf, hfc⟩ := src_sound (P := P) hW hs h2
    dsimp only at hv hln hcl hcf hfc
    obtain ⟨cs', hcs', hvr⟩ := hfc n (Nat.le_refl _)
    rw [List.take_of_length_le (by omega)] at hvr
    obtain ⟨zv, hzrun, hzz⟩ := zero_all hz
    have hzs : zv.cells.size = q.1 := by rw [← hl, ← hzz]; simp
    have hap := fun {p : Option Addr} {len cap : Nat} (hp : a.eval x0 = .slice p len cap) => run_append (P := P) (w := w) (ty := ty) hu hu' hq hzrun hp (fun w1 _ => hln w1) hcs'
    have hex : ∀ {r : Value} {w' : World}, (Builtin.append_ #[t, u] ty #[a.eval x0, a.eval y0]).run P w = .ok r w' →
        (execOp a.eval ⟨dst, .call ⟨.builtin .append, #[x0, y0], #[t, u]⟩, ty, pos, after, guard⟩).run P w = .ok (.value r) w' := by
      intro r w' hr
      rw [run_builtin1]
      simp only [builtin, List.map_toArray, List.map_cons, List.map_nil]
      rw [Sem.run_bind, hr]; rfl
    have hcsz : cs'.size = n * q.1 := by have := hvr.1; simp at this; omega
    unfold appendTo at hv
    split at hv
    · rename_i hp
      rw [hp] at h1
      obtain ⟨_, _, hnil⟩ := h1.nilslice_inv
      obtain ⟨hap1, hap2⟩ := hap hnil
      split at hv
      · rename_i hn0
        cases hv
        subst hn0
        exact .value (hex (hap1 (Nat.le_refl _) (w' := w) rfl)) ⟨C, rfl, hW, .refl hW, .nilslice⟩
      · rename_i hn0
        split at hv
        · rename_i hroom
          cases hv
          obtain ⟨nc, hnc, hrun⟩ := hap2 (by omega) (by simpa using hroom) hb (os := #[]) (fun w1 _ => by rw [hnil]; rfl)
          have hb0 : (C.more [⟨cs, q.1, 0, false⟩]).H[C.H.length]? = some ⟨cs, q.1, 0, false⟩ := by simp [Cx.more]
          have hun : (C.more [⟨cs, q.1, 0, false⟩]).σ C.H.length = none := unlaid hW (Nat.le_refl _)
          have hW1 := hW.drew.more (L := [⟨cs, q.1, 0, false⟩])
          have hlen : cs.length ≤ (#[] ++ cs' ++ Builtin.zeroCells zv.cells (nc - (0 + n))).size := by simp; omega
          have hlay := hW1.lay (cs := #[] ++ cs' ++ Builtin.zeroCells zv.cells (nc - (0 + n))) (elem := e0) hb0 hun hcf hlen (by
            have : ((#[] ++ cs' ++ Builtin.zeroCells zv.cells (nc - (0 + n))).toList.take cs.length) = cs'.toList := by
              rw [hvr.1]; simp
            show VRs _ cs _
            rw [this]; exact hvr.later .more)
          refine .value (hex hrun) ⟨_, rfl, hlay, .drew (.trans (.more hW.drew hn1) (.lay hW1 hun hn1 hB0) hB0), ?_⟩
          rw [Nat.zero_add]
          refine .slice (AR.cur (C := (C.more [⟨cs, q.1, 0, false⟩]).lay C.H.length w.drew.heap.size _) (off := 0) (k := ⟨cs, q.1, 0, false⟩) (B := w.heap.size) (δ := 0) hb0 (if_pos rfl)) (Nat.le_refl _) (by omega) ?_
          intro k' B δ hk' _ hs' _
          have hk' : (C.more [⟨cs, q.1, 0, false⟩]).H[C.H.length]? = some k' := hk'
          rw [hb0] at hk'
          cases hk'
          simp only [Cx.lay, if_true, Option.some.injEq, Prod.mk.injEq] at hs'
          obtain ⟨_, rfl⟩ := hs'
          simp only [Cx.lay, if_true, Array.size_append, zeroCells_size, hzs, hcsz, Array.size_empty, Nat.zero_add]
          rw [← Nat.add_mul]
          exact Nat.mul_le_mul_right _ (by omega)
        · cases hv
    · rename_i b off ver len cap hp
      rw [hp] at h1
      split at hv
      · rename_i hfit
        obtain ⟨H1, hw, hv⟩ := Option.map_eq_some_iff.1 hv
        cases hv
        rcases h1.slice_inv with ⟨a', cap', ha', har, hle, hcc, hroom⟩ | ⟨rfl, rfl, a', a2, ha', har⟩
        · obtain ⟨B, c, elem, hadd, hB, hl', hall⟩ := wr_sound hW hw (har.add (len * q.1)) hvr hcf
          obtain ⟨C', e1, e2, e3, hW', hE⟩ := hall n1 B0
          have hst := run_storeCells_block (P := P) (w := w) hB hl' (hvr.flat hcf)
          rw [← hadd] at hst
          exact .value (hex ((hap ha').1 (by omega) hst)) ⟨C', e1, hW', hE, .slice (har.later hE.toLater) (by omega) hcc (hroom.later har hE.toLater)⟩
        · obtain rfl : n = 0 := by omega
          have hz0 : cs = [] := List.length_eq_zero_iff.1 (by omega)
          subst hz0
          have := wr_nil hw
          subst this
          have hz1 : cs'.toList = [] := List.length_eq_zero_iff.1 hvr.1.symm
          exact .value (hex ((hap ha').1 (Nat.le_refl _) (w' := w) (by simp only [hz1]; rfl))) ⟨C, rfl, hW, .refl hW, .empty har⟩
      · rename_i hfit
        split at hv
        · rename_i k hk
          split at hv
          · rename_i hcond
            obtain ⟨hver, hro, hmay, hesz, rfl, hlen, hroomx⟩ := hcond
            cases hv
            subst hver
            have hzc : ∀ x, Flat x → Flat (x ++ cs) := fun x hx => hx.append hcf
            have hgrow : ∀ {a' : Addr} {cap' : Nat} {os : Array Value}, a.eval x0 = .slice (some a') len cap' → cap' < len + n → VRs C k.cells os.toList → (∀ w1 : World, w1.heap = w.heap → (Builtin.firstCells q.1 len (.slice (some a') len cap')).run P w1 = .ok os w1) →
                ∀ {B δ : Nat}, C.σ b = some (B, δ) → Flat k.cells → Ends P ⟨dst, .call ⟨.builtin .append, #[x0, y0], #[t, u]⟩, ty, pos, after, guard⟩ a w fun v' w' =>
                  Acts n1 B0 C w (C.H.set b { k with cells := k.cells ++ cs, ver := k.ver + 1 }) (slc b 0 (k.ver + 1) (len + n) (len + n)) v' w' := by
              intro a' cap' os ha' hgt hos hrunos B δ hs hkf
              obtain ⟨nc, hnc, hrun⟩ := (hap ha').2 hgt hroomx hb (os := os) (fun w1 hw => by rw [ha']; exact hrunos w1 hw)
              have hosz : os.size = len * q.1 := by have := hos.1; simp at this; omega
              have htk : (os ++ cs' ++ Builtin.zeroCells zv.cells (nc - (len + n))).toList.take (k.cells ++ cs).length = os.toList ++ cs'.toList := by
                have e1 : (k.cells ++ cs).length = (os.toList ++ cs'.toList).length := by simp; omega
                rw [e1, Array.toList_append, Array.toList_append]
                exact List.take_left
              have hnsz : (os ++ cs' ++ Builtin.zeroCells zv.cells (nc - (len + n))).size = nc * q.1 := by
                simp only [Array.size_append, zeroCells_size, hzs, hcsz, hosz]
                rw [← Nat.add_mul, ← Nat.add_mul]; congr 1; omega
              obtain ⟨hW', hE⟩ := bump (w' := w.drew.alloc (.cells (os ++ cs' ++ Builtin.zeroCells zv.cells (nc - (len + n))) e0)) (B' := w.heap.size) (n := nc * q.1) (cells := k.cells ++ cs) hW hk hs hro (alloc_new (w := w.drew)) hnsz
                (by have h3 : (len + n) * q.1 ≤ nc * q.1 := Nat.mul_le_mul_right _ hnc
                    rw [Nat.add_mul] at h3; simp; omega)
                (hzc _ hkf) (fun C' hL => by rw [htk]; exact (hos.append hvr).later hL) (.inr (Nat.le_refl _)) (fun x _ hx => alloc_old (w := w.drew) hx)
                (fun _ => alloc_old (w := w.drew) (hW.lt hs).2) (by rw [alloc_size]; exact Nat.le_succ _) ⟨rfl, rfl, rfl⟩ (fun a => frozen_alloc (w := w.drew)) n1 B0 hB0
              refine .value (hex hrun) ⟨_, rfl, hW', hE, ?_⟩
              refine .slice (AR.cur (off := 0) (δ := 0) (k := { k with cells := k.cells ++ cs, ver := k.ver + 1 }) (by show (C.H.set b _)[b]? = _; rw [set_get hk, if_pos rfl]) (if_pos rfl)) (Nat.le_refl _) hnc ?_
              intro k' B1 δ1 hk' _ hs' _
              have hk' : (C.H.set b { k with cells := k.cells ++ cs, ver := k.ver + 1 })[b]? = some k' := hk'
              rw [set_get hk, if_pos rfl] at hk'
              cases hk'
              simp only [if_true, Option.some.injEq, Prod.mk.injEq] at hs'
              obtain ⟨_, rfl⟩ := hs'
              simp only [if_true, hesz]
              omega
            rcases h1.slice_inv with ⟨a', cap', ha', har, hle, hcc, hroom⟩ | ⟨rfl, rfl, a', a2, ha', har⟩
            · obtain ⟨B, δ, hs, rfl⟩ := har.now hk rfl
              obtain ⟨k2, hk2, c, elem, fz, hB, g1, g2, g3, g4, g5⟩ := hW.blk b B δ hs
              have e1 : k = k2 := Option.some.inj (hk.symm.trans hk2)
              subst e1
              obtain ⟨rfl, rfl⟩ := g5 hro
              have g4' : VRs C k.cells (c.toList.take k.cells.length) := by simpa using g4
              have hcap := hroom k B 0 hk rfl hs hro
              simp only [hesz, Nat.zero_add] at hcap
              rcases Nat.lt_or_ge cap' (len + n) with hgt | hge
              · refine hgrow ha' hgt (os := ((c.toList.drop 0).take (len * q.1)).toArray) ?_ (fun w1 hw => ?_) hs g3
                · rw [hlen]; simpa using g4
                · exact run_loadCells_of (w := w1) (by rw [hw]; exact hB) (by omega)
              · have hmul : (len + n) * q.1 ≤ cap' * q.1 := Nat.mul_le_mul_right _ hge
                rw [Nat.add_mul] at hmul
                have hcsl : cs'.toList.length = n * q.1 := by simpa using hcsz
                have hst := run_storeCells_block (P := P) (w := w) (o := len * q.1) (vs := cs'.toList) hB (by omega) (hvr.flat hcf)
                have hadd : (⟨B, 0 + 0, none⟩ : Addr).add (len * q.1) = ⟨B, len * q.1, none⟩ := by rw [add_none]; simp
                have hrun := (hap ha').1 hge (w' := w.setRow B (splice c.toList (len * q.1) cs'.toList).toArray) (by dsimp only; rw [hadd]; exact hst)
                have hcs2 : (splice c.toList (len * q.1) cs'.toList).take (k.cells ++ cs).length = c.toList.take k.cells.length ++ cs'.toList := by
                  have e1 : (k.cells ++ cs).length = len * q.1 + cs'.toList.length := by simp; omega
                  rw [e1, splice_take (Nat.le_refl _)]
                  unfold splice
                  rw [List.take_take, Nat.min_eq_left (by omega), List.drop_eq_nil_of_le (by simp; omega), List.append_nil, hlen]
                obtain ⟨hW', hE⟩ := bump (w' := w.setRow B (splice c.toList (len * q.1) cs'.toList).toArray) (B' := B) (n := C.ws b) (cells := k.cells ++ cs) hW hk hs hro (setRow_heap w B c _ elem (0, 0) hB)
                  (by show (splice c.toList (len * q.1) cs'.toList).length = _; rw [splice_length (by simp; omega)]; simpa using g1)
                  (by simp; omega) (hzc _ g3) (fun C' hL => by show VRs C' _ ((splice c.toList (len * q.1) cs'.toList).take _); rw [hcs2]; exact (g4'.append hvr).later hL) (.inl rfl) (fun x hx _ => setRow_other w B x _ hx)
                  (fun hx => absurd rfl hx) (by simp) ⟨rfl, rfl, rfl⟩ (fun a => frozen_setRow) n1 B0 hB0
                refine .value (hex hrun) ⟨_, rfl, hW', hE, ?_⟩
                refine .slice (AR.cur (off := 0) (δ := 0) (k := { k with cells := k.cells ++ cs, ver := k.ver + 1 }) (by show (C.H.set b _)[b]? = _; rw [set_get hk, if_pos rfl]) (if_pos rfl)) (Nat.le_refl _) hge ?_
                intro k' B1 δ1 hk' _ hs' _
                have hk' : (C.H.set b { k with cells := k.cells ++ cs, ver := k.ver + 1 })[b]? = some k' := hk'
                rw [set_get hk, if_pos rfl] at hk'
                cases hk'
                simp only [if_true, Option.some.injEq, Prod.mk.injEq] at hs'
                obtain ⟨_, rfl⟩ := hs'
                simp only [if_true, hesz]
                omega
            · obtain ⟨B, δ, hs, rfl⟩ := har.now hk rfl
              obtain ⟨k2, hk2, c, elem, fz, hB, g1, g2, g3, g4, g5⟩ := hW.blk b B δ hs
              have hk0 : k.cells = [] := List.length_eq_zero_iff.1 (by omega)
              refine hgrow ha' (by omega) (os := #[]) ?_ (fun w1 _ => ?_) hs (by rw [hk0]; exact .nil)
              · rw [hk0]; exact .nil
              · simp [Builtin.firstCells, loadCells, loadCellsFrom]
          · cases hv
        · cases hv
    · cases hv
theorem apm_sound (hi : Inv inv h C) (hA : At C h l e a w) (hW : WR C w) {o : Oper} {esz bytes : Nat} {z : List Value} {x y : Opd} (hc : comp1 P inv isPure h l o = some (.apm esz bytes z x y)) {cl : Cl} {n0 : Nat} {wb : Bool} {v : Value} {H' : Heap}
    (hv : ev1 cl n0 wb e C.H (.apm esz bytes z x y) = some (v, H')) (n1 B0 : Nat) (hn1 : n1 ≤ C.H.length) (hB0 : B0 ≤ w.heap.size) : Ends P o a w fun v' w' => Acts n1 B0 C w H' v v' w' := by
  obtain ⟨dst, op, ty, pos, after, guard⟩ := o
  have hsp := comp1_spec hc
  cases hsp with
  | other hx => cases hx
  | @apm t u e0 kk x0 y0 _ _ _ q hu hu' hz hq hok hl h0 hb hx hy =>
    have h1 := opd_sound hi hA hx
    have h2 := opd_sound hi hA hy
    simp only [ev1] at hv
    split at hv
    · rename_i m hp hm
      split at hv
      · rename_i hroom
        cases hv
        obtain ⟨hm0, hroom⟩ := hroom
        rw [hp] at h1
        rw [hm] at h2
        obtain ⟨_, _, hnil⟩ := h1.nilslice_inv
        obtain ⟨n, rfl⟩ := Int.eq_ofNat_of_zero_le (show 0 ≤ m by omega)
        obtain ⟨zv, hzrun, hzz⟩ := zero_all hz
        have hzs : zv.cells.size = q.1 := by rw [← hl, ← hzz]; simp
        have hrep : (Builtin.zeroCells zv.cells n).toList = rep n z := by rw [← hzz]; exact rep_array rfl
        have hfl : Flat (rep n z) := rep_flat (.okZero hok)
        have hvr : VRs C (rep n z) (Builtin.zeroCells zv.cells n).toList := by
          rw [hrep]; exact ⟨rfl, fun i h1 _ => .okConst (rep_ok hok _ (List.getElem_mem h1))⟩
        obtain ⟨hsz, _, hby, info, hinfo, _, _⟩ := lay_spec (w := w) hq
        have hby : P.bytesOf e0 = info.bytes := by rw [hby, hinfo]; rfl
        have hsz' : ∀ w1, (Go.sizeOf e0).run P w1 = .ok q.1 w1 := fun w1 => (lay_spec (w := w1) hq).1
        have hti : ∀ w1, (typeInfo e0).run P w1 = .ok info w1 := fun w1 => by
          obtain ⟨_, _, _, i2, hi2, _, h3⟩ := lay_spec (w := w1) hq
          rw [hinfo] at hi2; cases hi2; exact h3
        have hz1 : info.bytes ≠ 0 := fun hh => hb (hby.trans hh)
        have h47 : n * info.bytes ≤ 140737488355328 := by
          have h5 : ((n : Int) * (P.bytesOf e0 : Int)) ≤ ((140737488355328 : Nat) : Int) := hroom
          rw [hby] at h5
          have h6 : ((n * info.bytes : Nat) : Int) ≤ ((140737488355328 : Nat) : Int) := by rw [Int.natCast_mul]; exact h5
          exact Int.ofNat_le.1 h6
        have hn48 : n ≤ 140737488355328 := Nat.le_trans (Nat.le_mul_of_pos_right n (Nat.pos_of_ne_zero hz1)) h47
        have hnp : 0 < n := by omega
        have hfit := growslice_fits (show 0 < 0 + n by omega) (show (0 + n) * info.bytes ≤ 140737488355328 by simpa using h47)
        rw [Nat.zero_add] at hfit
        have hnf' : ¬ (281474976710656 < Builtin.nextslicecap n 0 * info.bytes) := by omega
        have hw1 : IntKind.wrap .i64 (n : Int) = (n : Int) := wrap_i64 (by omega)
        have h48 : ¬ (281474976710656 < (n : Int) * (info.bytes : Int)) := by
          rw [← Int.natCast_mul]; omega
        have hnq : ¬ (n * q.1 = 0) := fun hh => by
          rcases Nat.mul_eq_zero.1 hh with hh | hh
          · omega
          · exact h0 hh
        have h63 : ¬ (9223372036854775807 < (n : Int)) := by omega
        have hmax : IntKind.i64.max = 9223372036854775807 := rfl
        have hn0 : ¬ n = 0 := by omega
        have hai : ∀ w1, (asInt (.int .i64 (n : Int))).run P w1 = .ok (n : Int) w1 := fun w1 => rfl
        have hnneg : ¬ ((n : Int) < 0) := by omega
        have hnn : ¬ ((n : Int) ≤ 0) := by omega
        obtain ⟨nc, hnc, hrun⟩ : ∃ nc, n ≤ nc ∧ (Builtin.append_ #[t, u] ty #[a.eval x0, a.eval y0]).run P w = .ok (.slice (some ⟨w.heap.size, 0, none⟩) n nc) (w.drew.alloc (.cells (#[] ++ Builtin.zeroCells zv.cells n ++ Builtin.zeroCells zv.cells (nc - n)) e0)) := by
          refine ⟨(Question.appendCap n 0 e0).cut (w.tape w.drawn (.appendCap n 0 e0)), by simp [Question.cut], ?_⟩
          rw [hnil, h2.int_inv]
          simp [Builtin.append_, run_under hu, run_under hu', hsz', hti, hw1, h48, hn0, hnf', h63, hmax, hnq, Question.forced, Builtin.firstCells, hzrun, newRow, hai, hnneg, hnn]
        have hex : ∀ {r : Value} {w' : World}, (Builtin.append_ #[t, u] ty #[a.eval x0, a.eval y0]).run P w = .ok r w' →
            (execOp a.eval ⟨dst, .call ⟨.builtin .append, #[x0, y0], #[t, u]⟩, ty, pos, after, guard⟩).run P w = .ok (.value r) w' := by
          intro r w' hr
          rw [run_builtin1]
          simp only [builtin, List.map_toArray, List.map_cons, List.map_nil]
          rw [Sem.run_bind, hr]; rfl
        have hb0 : (C.more [⟨rep n z, q.1, 0, false⟩]).H[C.H.length]? = some ⟨rep n z, q.1, 0, false⟩ := by simp [Cx.more]
        have hun : (C.more [⟨rep n z, q.1, 0, false⟩]).σ C.H.length = none := unlaid hW (Nat.le_refl _)
        have hW1 := hW.drew.more (L := [⟨rep n z, q.1, 0, false⟩])
        have hrl : (rep n z).length = n * q.1 := by rw [rep_length, hl]
        have hlen : (rep n z).length ≤ (#[] ++ Builtin.zeroCells zv.cells n ++ Builtin.zeroCells zv.cells (nc - n)).size := by
          simp only [Array.size_append, zeroCells_size, hzs, hrl]; omega
        have hlay := hW1.lay (cs := #[] ++ Builtin.zeroCells zv.cells n ++ Builtin.zeroCells zv.cells (nc - n)) (elem := e0) hb0 hun hfl hlen (by
          have : ((#[] ++ Builtin.zeroCells zv.cells n ++ Builtin.zeroCells zv.cells (nc - n)).toList.take (rep n z).length) = (Builtin.zeroCells zv.cells n).toList := by
            rw [hvr.1]; simp
          show VRs _ (rep n z) _
          rw [this]; exact hvr.later .more)
        refine .value (hex hrun) ⟨_, rfl, hlay, .drew (.trans (.more hW.drew hn1) (.lay hW1 hun hn1 hB0) hB0), ?_⟩
        refine .slice (AR.cur (C := (C.more [⟨rep n z, q.1, 0, false⟩]).lay C.H.length w.drew.heap.size _) (off := 0) (k := ⟨rep n z, q.1, 0, false⟩) (B := w.heap.size) (δ := 0) hb0 (if_pos rfl)) (Nat.le_refl _) hnc ?_
        intro k' B δ hk' _ hs' _
        have hk' : (C.more [⟨rep n z, q.1, 0, false⟩]).H[C.H.length]? = some k' := hk'
        rw [hb0] at hk'
        cases hk'
        simp only [Cx.lay, if_true, Option.some.injEq, Prod.mk.injEq] at hs'
        obtain ⟨_, rfl⟩ := hs'
        simp only [Cx.lay, if_true, Array.size_append, zeroCells_size, hzs, Array.size_empty, Nat.zero_add]
        rw [← Nat.add_mul]
        exact Nat.mul_le_mul_right _ (by omega)
      · cases hv
    · cases hv
end
end Fb
