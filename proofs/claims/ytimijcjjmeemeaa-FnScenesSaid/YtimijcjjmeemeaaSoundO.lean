/- The operations that read, make or change something. -/
import Derived.Test.YtimijcjjmeemeaaSoundS
import Derived.Laws.BytesString
import Derived.Laws.Append
set_option linter.unusedVariables false
set_option linter.unusedSimpArgs false
namespace Fb
open Go

section
variable {P : Program} {inv : FuncId → Option Nat} {isPure : Nat → Bool} {h : Hint} {C : Cx} {l : Look} {e : Env} {a : Act} {w : World}
/-- An operation goes on with one value and one world, of which R is known. -/
def Ends (P : Program) (o : Oper) (a : Act) (w : World) (R : Value → World → Prop) : Prop :=
  ∀ (next : Act → World → Prop) (Q : Exit → Act → World → Prop), (∀ v' w', R v' w' → next (a.put o.dst v') w') → o.wp P a w next Q
theorem Ends.value {o : Oper} {R : Value → World → Prop} {v' : Value} {w' : World} (hr : (execOp a.eval o).run P w = .ok (.value v') w') (hR : R v' w') : Ends P o a w R :=
  fun next Q hn => by unfold Oper.wp; rw [hr]; exact hn _ _ hR
theorem Ends.skip {o : Oper} {R : Value → World → Prop} {w' : World} (hr : (execOp a.eval o).run P w = .ok .skip w') (hR : R undef w') : Ends P o a w R :=
  fun next Q hn => by unfold Oper.wp; rw [hr]; exact hn _ _ hR
theorem Ends.enter {o : Oper} {R : Value → World → Prop} {f : FuncId} {args : Array Value} (hr : (execOp a.eval o).run P w = .ok (.enter f args) w)
    (hR : Calls P f args w fun en w' => ∃ v, en = .returned v ∧ R v w') : Ends P o a w R :=
  fun next Q hn => by
    unfold Oper.wp
    rw [hr]
    exact Calls.mono hR fun en w' ⟨v, he, hv⟩ => by subst he; exact hn _ _ hv
theorem Ends.mono {o : Oper} {R R' : Value → World → Prop} (hE : Ends P o a w R) (hm : ∀ v w', R v w' → R' v w') : Ends P o a w R' :=
  fun next Q hn => hE next Q fun v' w' hR => hn v' w' (hm _ _ hR)
theorem Gives.ends {o : Oper} {v : Value} (hg : Gives P w (execOp a.eval o) C v) : Ends P o a w fun v' w' => w' = w ∧ VR C v v' := by
  obtain ⟨v', h1, h2⟩ := hg
  exact .value h1 ⟨rfl, h2⟩

theorem VR.cellsHas {v v' : Value} (hv : VR C v v') (hh : has v = true) : VRs C (cellsOf v) v'.cells.toList := by
  cases hv with
  | agg hf hs hx => exact ⟨hs, fun i h1 h2 => hx i h1 h2⟩
  | tup => cases hh
  | bool b => exact .cons (.bool b) .nil
  | int k i => exact .cons (.int k i) .nil
  | string s => exact .cons (.string s) .nil
  | nilptr => exact .cons .nilptr .nil
  | nilFunc => exact .cons .nilFunc .nil
  | nilIface => exact .cons .nilIface .nil
  | iface => exact .cons .iface .nil
  | ptr h => exact .cons (.ptr h) .nil
  | nilslice => exact .cons .nilslice .nil
  | slice h hl' hc hr => exact .cons (.slice h hl' hc hr) .nil
  | empty hk => exact .cons (.empty hk) .nil
  | func hs h => exact .cons (.func hs h) .nil
/- Variables that live in slots. -/
theorem ldv_cells {g : Bool} {z : List Value} {v : Value} (hz : okZero z = true) (hv : ldv g z = some v) : cellsOf v = z ∧ has v = true := by
  unfold ldv at hv
  split at hv
  · cases hv; exact ⟨rfl, rfl⟩
  · split at hv
    · cases hv
      have : okConst v = true := by simpa [okZero] using hz
      cases v <;> first | exact ⟨rfl, rfl⟩ | cases this
    · cases hv
/-- A variable is made. -/
theorem var_new (hi : Inv inv h C) (hA : At C h l e a w) {o : Oper} {c : Op1} {d : Nat} (hd : o.dst = some d) (hdv : h.vars.contains d = true) (hnew : isNew o = true)
    (hc : comp1 P inv isPure h l o = some c) {v : Value} (hv : nval e c = some v) :
    Ends P o a w fun v' w' => v' = .pointer (some ⟨w.heap.size, 0, none⟩) ∧ ∃ cs elem, w' = w.alloc (.cells cs elem) ∧ (has v = true → Flat (cellsOf v) ∧ VRs C (cellsOf v) cs.toList) := by
  obtain ⟨dst, op, ty, pos, after, guard⟩ := o
  cases hd
  cases op with
  | alloc t =>
    simp only [comp1, bind, Option.bind_eq_some_iff] at hc
    obtain ⟨z, hz, q, hq, hc⟩ := hc
    split at hc
    · cases hc
    · rename_i hok
      have hok : okZero z = true := by simpa using hok
      simp only [Option.any_some, hdv, if_true, pure, Option.some.injEq] at hc
      subst hc
      simp only [nval] at hv
      obtain ⟨zv, hzv, hzz⟩ := zero_spec (w := w) hz
      obtain ⟨h1, _⟩ := ldv_cells hok hv
      refine .value (v' := .pointer (some ⟨w.heap.size, 0, none⟩)) (w' := w.alloc (.cells zv.cells t)) ?_ ⟨rfl, _, _, rfl, fun _ => ?_⟩
      · simp only [execOp, Instr.alloc, newVar, newRow, Sem.run_bind, hzv, Result.andThen_ok, Sem.run_pure, run_newObj]
        rfl
      · rw [h1, hzz]; exact ⟨.okZero hok, .okZero hok⟩
  | box t x =>
    simp only [comp1, bind, Option.bind_eq_some_iff] at hc
    obtain ⟨y, hy, q, hq, hc⟩ := hc
    split at hc
    · cases hc
    · simp only [Option.any_some, hdv, if_true, pure, Option.some.injEq] at hc
      subst hc
      cases hv
      have h1 := opd_sound hi hA hy
      refine .value (v' := .pointer (some ⟨w.heap.size, 0, none⟩)) (w' := w.alloc (.cells (a.eval x).cells t)) ?_ ⟨rfl, _, _, rfl, fun hh => ⟨h1.flat, ?_⟩⟩
      · simp only [execOp, Instr.box, newVar, newRow, Sem.run_bind, Result.andThen_ok, Sem.run_pure, run_newObj]
        rfl
      · exact h1.cellsHas hh
  | _ => cases hnew
theorem run_storeCells_block {w : World} {B o : Nat} {cs : Array Value} {elem : TypeId} {vs : List Value} (hB : w.heap[B]? = some (.cells cs elem (0, 0))) (hl : o + vs.length ≤ cs.size) (hf : Flat vs) :
    (storeCells ⟨B, o, none⟩ vs).run P w = .ok () (w.setRow B (splice cs.toList o vs).toArray) := by
  have := run_storeCells_at (P := P) B o elem vs 0 cs w hB (by omega) hf
  simpa [splice] using this
theorem run_storeVar_at {w : World} {B o : Nat} {cs : Array Value} {elem t : TypeId} {q : Nat × Bool} {v : Value} (hq : lay P t = some q) (hB : w.heap[B]? = some (.cells cs elem (0, 0))) (hl : o + v.cells.toList.length ≤ cs.size)
    (hn : v.cells.toList.length = q.1) (hf : Flat v.cells.toList) : (storeVar t ⟨B, o, none⟩ v).run P w = .ok () (w.setRow B (splice cs.toList o v.cells.toList).toArray) := by
  obtain ⟨hs, _⟩ := lay_spec (w := w) hq
  unfold storeVar
  simp only [Sem.run_bind, hs, Result.andThen_ok]
  rw [if_neg (by simp at hn; simpa using hn)]
  exact run_storeCells_block hB hl hf
theorem splice_length {cs vs : List Value} {o : Nat} (hl : o + vs.length ≤ cs.length) : (splice cs o vs).length = cs.length := by
  simp [splice]; omega
theorem VRs.splice {x x' y y' : List Value} {o : Nat} (hx : VRs C x x') (hy : VRs C y y') : VRs C (splice x o y) (splice x' o y') := by
  unfold Fb.splice
  rw [hy.1]
  exact (hx.take.append hy).append hx.drop
theorem Flat.splice {x y : List Value} {o : Nat} (hx : Flat x) (hy : Flat y) : Flat (splice x o y) := (hx.take.append hy).append hx.drop
theorem stc_cells {cur v : Value} {o : Nat} {vs : List Value} (hv : stc cur o vs = some v) (hf : Flat vs) : has cur = true ∧ has v = true ∧ o + vs.length ≤ (cellsOf cur).length ∧ cellsOf v = splice (cellsOf cur) o vs := by
  unfold stc at hv
  split at hv
  · rename_i cs
    split at hv
    · rename_i hl
      cases hv
      exact ⟨rfl, rfl, hl, rfl⟩
    · cases hv
  · cases hv
  · rename_i h1 h2
    split at hv
    · rename_i x
      split at hv
      · rename_i h0
        cases hv
        subst h0
        have h3 : v.oneCell' = true := hf _ (by simp)
        cases cur <;> first | exact (h1 _ rfl).elim | exact (h2 _ rfl).elim | (cases v <;> first | cases h3; done | exact ⟨rfl, rfl, by simp [cellsOf], rfl⟩)
      · cases hv
    · cases hv
/-- A variable is written. -/
theorem var_store (hi : Inv inv h C) (hA : At C h l e a w) {o : Oper} {p m : Nat} {s : Option Nat} {y : Opd} (hc : comp1 P inv isPure h l o = some (.stV p s m y)) {v : Value} (hv : nval e (.stV p s m y) = some v) :
    Ends P o a w fun _ w' => ∃ B cs', a.tmps.getD p undef = .pointer (some ⟨B, 0, none⟩) ∧ B < w.heap.size ∧ w' = w.setRow B cs' ∧ has (e p) = true ∧ has v = true ∧ BlkIs C w' B (cellsOf v) := by
  obtain ⟨dst, op, ty, pos, after, guard⟩ := o
  have hsp := comp1_spec hc
  cases hsp with
  | other hx => cases hx
  | @stV t x y0 _ _ _ q hin hy hq hq0 =>
    simp only [nval] at hv
    obtain ⟨off, ho, hv⟩ := Option.bind_eq_some_iff.1 hv
    split at hv
    · rename_i hlen
      have h1 := opd_sound hi hA hy
      have hne : cellsOf (y.ev e) ≠ [] := fun hh => by rw [hh] at hlen; exact hq0 hlen.symm
      have hr := h1.cells hne
      have hfl := h1.flat
      obtain ⟨hh, hh', hl, hcell⟩ := stc_cells hv hfl
      obtain ⟨B, hB, cs, elem, hw, hf, hvr⟩ := inVar_sound hA hin ho
      have hB0 : a.tmps.getD p undef = .pointer (some ⟨B, 0, none⟩) := by
        obtain ⟨B', h3, h4⟩ := inVar_base hA hin ho
        rw [hB] at h3; cases h3; exact h4
      have hsz : (cellsOf (e p)).length = cs.size := by simpa using hvr.1
      have hrl := hr.1
      refine .skip (w' := w.setRow B (splice cs.toList off (a.eval y0).cells.toList).toArray) ?_ ⟨B, _, hB0, (Array.getElem?_eq_some_iff.1 hw).1, rfl, hh, hh', ?_⟩
      · simp only [execOp, hB, Instr.storeAt, Instr.sureAddr]
        have hst := run_storeVar_at (P := P) (w := w) (o := off) (v := a.eval y0) hq hw (by omega) (by omega) (hr.flat hfl)
        simp only [Sem.run_bind, Sem.run_pure, Result.andThen_ok, hst]
      · refine ⟨_, elem, setRow_heap w B cs _ elem (0, 0) hw, ?_, ?_⟩
        · rw [hcell]; exact hf.splice hfl
        · rw [hcell]; exact hvr.splice hr
    · cases hv
/-- An address in a variable. -/
theorem var_adr (hi : Inv inv h C) (hA : At C h l e a w) {o : Oper} {c : Op1} {p : Nat} (hc : comp1 P inv isPure h l o = some c) (hp : adrVar c = some p) {v : Value} (hv : nval e c = some v) :
    Ends P o a w fun v' w' => w' = w ∧ isVar h p = true ∧ has (e p) = true ∧ ∃ B off, offV v = some off ∧ v' = .pointer (some ⟨B, off, none⟩) ∧ a.tmps.getD p undef = .pointer (some ⟨B, 0, none⟩) := by
  obtain ⟨dst, op, ty, pos, after, guard⟩ := o
  have hoff : ∀ m : Nat, offV (.int .u64 (m : Int)) = some m := fun m => by simp [offV]
  have hsp := comp1_spec hc
  cases hsp with
  | other hx => cases c <;> first | cases hx; done | cases hp
  | @adrI t e0 n x i i' p' s q hu hq hin hix =>
    cases hp
    simp only [nval] at hv
    obtain ⟨o, ho, hv⟩ := Option.bind_eq_some_iff.1 hv
    obtain ⟨j, hj, rfl⟩ := Option.map_eq_some_iff.1 hv
    have h2 := opd_sound hi hA hix
    obtain ⟨k, i0, hi0, hge, hltm, rfl⟩ := at_spec hj
    rw [hi0] at h2
    obtain ⟨B, h3, h4⟩ := inVar_base hA hin ho
    obtain ⟨h5, h6⟩ := inVar_is hA hin ho
    refine .value ?_ ⟨rfl, h5, h6, B, _, hoff _, rfl, h4⟩
    simp only [execOp, h3, h2.int_inv]
    rw [Sem.run_bind, run_indexAt_array' hu hq hge hltm, add_none]; rfl
  | @adrF t fs f fd x p' s q hu hf hq h0 hin =>
    cases hp
    simp only [nval] at hv
    obtain ⟨o, ho, rfl⟩ := Option.map_eq_some_iff.1 hv
    obtain ⟨B, h3, h4⟩ := inVar_base hA hin ho
    obtain ⟨h5, h6⟩ := inVar_is hA hin ho
    refine .value ?_ ⟨rfl, h5, h6, B, _, hoff _, rfl, h4⟩
    simp only [execOp, h3]
    rw [Sem.run_bind, run_fieldAt' hu hf hq h0, add_none]; rfl
  | _ => cases hp

/- Reads. -/
theorem AR.split {b off ver : Nat} {a' : Addr} (ha : AR C ⟨b, off, some ver⟩ a') : ∃ k, C.H[b]? = some k ∧ (ver < k.ver ∨ (ver = k.ver ∧ ∃ B δ, C.σ b = some (B, δ) ∧ a' = ⟨B, off + δ, none⟩)) := by
  cases ha with
  | old hk hv => exact ⟨_, hk, .inl hv⟩
  | cur hk hs => exact ⟨_, hk, .inr ⟨rfl, _, _, hs, rfl⟩⟩
/-- An address that is in use. -/
theorem AR.now {b off ver : Nat} {a' : Addr} (ha : AR C ⟨b, off, some ver⟩ a') {k : Blk} (hk : C.H[b]? = some k) (hv : ver = k.ver) : ∃ B δ, C.σ b = some (B, δ) ∧ a' = ⟨B, off + δ, none⟩ := by
  obtain ⟨k', hk', h1⟩ := ha.split
  have e1 : k = k' := Option.some.inj (hk.symm.trans hk')
  subst e1
  rcases h1 with h1 | ⟨_, h1⟩
  · omega
  · exact h1
theorem rd_inv {H : Heap} {b off ver n : Nat} {cs : List Value} (hr : rd H b off ver n = some cs) : ∃ k, H[b]? = some k ∧ ver = k.ver ∧ off + n ≤ k.cells.length ∧ cs = (k.cells.drop off).take n := by
  unfold rd at hr
  split at hr
  · rename_i k hk
    split at hr
    · rename_i hc; cases hr; exact ⟨k, hk, hc.1, hc.2, rfl⟩
    · cases hr
  · cases hr
theorem take_drop_sub (l : List Value) (δ n off m : Nat) (hm : off + m ≤ n) : (((l.drop δ).take n).drop off).take m = (l.drop (off + δ)).take m := by
  rw [List.drop_take, List.take_take, List.drop_drop, Nat.min_eq_left (by omega), Nat.add_comm δ off]
/-- The cells behind an address that is in use. -/
theorem rd_sound (hW : WR C w) {b off ver n : Nat} {cs : List Value} (hr : rd C.H b off ver n = some cs) {a' : Addr} (ha : AR C ⟨b, off, some ver⟩ a') :
    ∃ B o c elem fz, a' = ⟨B, o, none⟩ ∧ w.heap[B]? = some (.cells c elem fz) ∧ o + n ≤ c.size ∧ VRs C cs ((c.toList.drop o).take n) ∧ Flat cs := by
  obtain ⟨k, hk, hver, hl, rfl⟩ := rd_inv hr
  obtain ⟨B, δ, hs, rfl⟩ := ha.now hk hver
  obtain ⟨k2, hk2, c, elem, fz, hB, h1, h2, hf, h3, _⟩ := hW.blk b B δ hs
  have e1 : k = k2 := Option.some.inj (hk.symm.trans hk2)
  subst e1
  refine ⟨B, off + δ, c, elem, fz, rfl, hB, by omega, ?_, hf.drop.take⟩
  have := (h3.drop (m := off)).take (m := n)
  rwa [take_drop_sub _ _ _ _ _ (by omega)] at this
theorem bytesOf_spec : ∀ {cs : List Value} {bs : List UInt8}, bytesOf cs = some bs → ∃ ns : List Int, cs = ns.map (Value.int .u8) ∧ bs = ns.map fun n => UInt8.ofNat n.toNat
  | [], bs, hb => by cases hb; exact ⟨[], rfl, rfl⟩
  | v :: cs, bs, hb => by
    unfold bytesOf at hb
    split at hb
    · cases ‹_ :: _ = []›
    · rename_i n r heq
      cases heq
      obtain ⟨r', hr, rfl⟩ := Option.map_eq_some_iff.1 hb
      obtain ⟨ns, rfl, rfl⟩ := bytesOf_spec hr
      exact ⟨n :: ns, rfl, rfl⟩
    · cases hb
theorem VRs.ints {k : IntKind} : ∀ {ns : List Int} {l' : List Value}, VRs C (ns.map (Value.int k)) l' → l' = ns.map (Value.int k)
  | [], l', hr => by
    have := hr.1
    simpa using this.symm
  | n :: ns, l', hr => by
    cases l' with
    | nil => have := hr.1; simp at this
    | cons x l' =>
      have h0 := hr.2 0 (by simp) (by simp)
      have h1 : VRs C (ns.map (Value.int k)) l' := by simpa using hr.drop (m := 1)
      rw [VRs.ints h1, show x = .int k n from (VR.int_inv h0)]
      rfl
theorem foldl_push : ∀ (ns : List Int) (s : ByteArray), ns.foldl (fun r n => r.push (UInt8.ofNat n.toNat)) s = ⟨s.data ++ (ns.map fun n => UInt8.ofNat n.toNat).toArray⟩
  | [], s => by simp
  | n :: ns, s => by
    rw [List.foldl_cons, foldl_push ns]
    simp [ByteArray.push]
theorem mxOf_le {cap m : Nat} {mx : Option Value} (hm : mxOf cap mx = some m) : m ≤ cap := by
  cases mx with
  | none => cases hm; exact Nat.le_refl _
  | some v => obtain ⟨_, _, _, _, _, _⟩ := bnd_spec hm; omega
theorem bnd_more {m m' j : Nat} {v : Value} (hb : bnd m v = some j) (hm : m ≤ m') : bnd m' v = some j := by
  obtain ⟨k, i, rfl, h0, h1, rfl⟩ := bnd_spec hb
  show (if 0 ≤ i ∧ i ≤ (m' : Int) then some i.toNat else none) = _
  rw [if_pos ⟨h0, by omega⟩]
theorem bnds_more {len m m' : Nat} {lo hi : Option Value} {q : Nat × Nat} (hb : bnds len m lo hi = some q) (hm : m ≤ m') : bnds len m' lo hi = some q := by
  cases hi with
  | none => cases lo <;> exact hb
  | some v =>
    cases lo with
    | none =>
      simp only [bnds] at hb ⊢
      obtain ⟨p, hp, rfl⟩ := Option.map_eq_some_iff.1 hb
      rw [bnd_more hp hm]; rfl
    | some u =>
      simp only [bnds] at hb ⊢
      obtain ⟨p, hp, hb⟩ := Option.bind_eq_some_iff.1 hb
      rw [bnd_more hp hm]; exact hb
theorem mxOf_more {cap cap' m : Nat} {mx : Option Value} (hm : mxOf cap mx = some m) (hc : cap ≤ cap') : ∃ m', mxOf cap' mx = some m' ∧ m ≤ m' ∧ m' ≤ cap' := by
  cases mx with
  | none => cases hm; exact ⟨cap', rfl, hc, Nat.le_refl _⟩
  | some v => exact ⟨m, bnd_more hm hc, Nat.le_refl _, Nat.le_trans (mxOf_le hm) hc⟩
theorem bnds_le' {len m : Nat} {lo hi : Option Value} {q : Nat × Nat} (hb : bnds len m lo hi = some q) (hlm : hi = none → len ≤ m) : q.1 ≤ q.2 ∧ q.2 ≤ m := by
  cases hi with
  | none => exact bnds_le hb (hlm rfl)
  | some v =>
    cases lo with
    | none =>
      simp only [bnds] at hb
      obtain ⟨p, hp, rfl⟩ := Option.map_eq_some_iff.1 hb
      obtain ⟨_, _, _, _, _, _⟩ := bnd_spec hp
      exact ⟨Nat.zero_le _, by dsimp only; omega⟩
    | some u =>
      simp only [bnds] at hb
      obtain ⟨p, hp, hb⟩ := Option.bind_eq_some_iff.1 hb
      obtain ⟨r, hr, rfl⟩ := Option.map_eq_some_iff.1 hb
      obtain ⟨_, _, _, _, _, _⟩ := bnd_spec hp
      obtain ⟨_, _, _, _, _, _⟩ := bnd_spec hr
      dsimp only; omega
/-- What reads gives what the model's gives. -/
theorem read_sound (hi : Inv inv h C) (hA : At C h l e a w) (hW : WR C w) {o : Oper} {c : Op1} (hc : comp1 P inv isPure h l o = some c) (hm : c.meets = .reads) {cl : Cl} {n0 : Nat} {wb : Bool} {v : Value} {H' : Heap}
    (hv : ev1 cl n0 wb e C.H c = some (v, H')) : H' = C.H ∧ Gives P w (execOp a.eval o) C v := by
  obtain ⟨dst, op, ty, pos, after, guard⟩ := o
  have hsp := comp1_spec hc
  cases hsp with
  | other hx => cases c <;> first | cases hx; done | cases hm
  | @ld t x y q hx hq =>
    have h1 := opd_sound hi hA hx
    simp only [ev1] at hv
    split at hv
    · rename_i b off ver hp
      obtain ⟨cs, hcs, hv⟩ := Option.bind_eq_some_iff.1 hv
      obtain ⟨v0, hv0, hv⟩ := Option.map_eq_some_iff.1 hv
      cases hv
      rw [hp] at h1
      obtain ⟨a', ha', hr⟩ := h1.ptr_inv
      obtain ⟨B, o, c, elem, fz, rfl, hB, hl, hvr, hf⟩ := rd_sound hW hcs hr
      refine ⟨rfl, mkV q.2 ((c.toList.drop o).take (ldSize q)), ?_, mkV_ldv hvr hf hv0⟩
      simp only [execOp, ha', Instr.loadAt, Instr.sureAddr]
      rw [Sem.run_bind, Sem.run_bind, Sem.run_pure, Result.andThen_ok, run_loadVar_cells hq hB hl]; rfl
    · cases hv
  | @b2s s t e0 x y hx hs he ht =>
    have h1 := opd_sound hi hA hx
    simp only [ev1] at hv
    split at hv
    · rename_i hp
      cases hv
      rw [hp] at h1
      obtain ⟨_, _, h2⟩ := h1.nilslice_inv
      refine ⟨rfl, _, ?_, .string _⟩
      simp only [execOp, h2]
      rw [Sem.run_bind, run_convert_bytes_string w s t e0 none 0 0 hs he ht]; rfl
    · rename_i b off ver n cap hp
      obtain ⟨cs, hcs, hv⟩ := Option.bind_eq_some_iff.1 hv
      obtain ⟨bs, hbs, hv⟩ := Option.map_eq_some_iff.1 hv
      cases hv
      rw [hp] at h1
      obtain ⟨ns, rfl, rfl⟩ := bytesOf_spec hbs
      rcases h1.slice_inv with ⟨a', cap', ha', hr, _, _, _⟩ | ⟨rfl, rfl, a', a2, ha', har2⟩
      · obtain ⟨B, o, c, elem, fz, rfl, hB, hl, hvr, hf⟩ := rd_sound hW hcs hr
        have hcell := run_loadCells_of (P := P) (m := n) hB hl
        rw [hvr.ints] at hcell
        refine ⟨rfl, _, ?_, .string _⟩
        simp only [execOp, ha']
        rw [Sem.run_bind, run_convert_bytes_string w s t e0 _ n cap' hs he ht, run_bytesToString w _ n cap' ns hcell, foldl_push]
        simp [ByteArray.empty, ByteArray.emptyWithCapacity]
        rfl
      · have hn : ns = [] := by
          obtain ⟨k, _, _, _, h4⟩ := rd_inv hcs
          simpa using h4
        subst hn
        refine ⟨rfl, _, ?_, .string _⟩
        simp only [execOp, ha']
        rw [Sem.run_bind, run_convert_bytes_string w s t e0 _ 0 0 hs he ht, run_bytesToString w _ 0 0 [] rfl]; rfl
    · cases hv
  | @slcA t e0 x lo hi0 mx x' lo' hi' mx' q hu hq hx hlo hhi hmx hmm =>
    have h1 := opd_sound hi hA hx
    obtain ⟨g1, _⟩ := optOpd_sound hi hA hlo
    obtain ⟨g2, g2'⟩ := optOpd_sound hi hA hhi
    obtain ⟨g3, g3'⟩ := optOpd_sound hi hA hmx
    simp only [ev1] at hv
    obtain ⟨v0, hv0, hv⟩ := Option.map_eq_some_iff.1 hv
    cases hv
    refine ⟨rfl, ?_⟩
    have hmh : (mx'.map (·.ev e)).isSome = true → (hi'.map (·.ev e)).isSome = true := by
      simp only [Option.isSome_map, g2', g3']; exact hmm
    have hrun : ∀ {p : Option Addr} {len cap : Nat}, a.eval x = .slice p len cap → ∀ {m m' : Nat}, mxOf cap (mx'.map (·.ev e)) = some m' → ∀ {r : Nat × Nat}, bnds len m' (lo'.map (·.ev e)) (hi'.map (·.ev e)) = some r →
        (execOp a.eval ⟨dst, .slice t x lo hi0 mx, ty, pos, after, guard⟩).run P w = .ok (.value (.slice (if m' = r.1 then p else p.map (·.add (r.1 * q.1))) (r.2 - r.1) (m' - r.1))) w := by
      intro p len cap hp _ m' hm' r hr
      have hb := bounds_sound (P := P) (w := w) (isSlice := true) g1 g2 g3 hmh hm' hr
      simp only [execOp, hp, Instr.sliceAt, Sem.run_bind, run_under hu, Result.andThen_ok, Instr.slice, hb, (lay_spec (w := w) hq).1, Sem.run_pure]
    unfold slcAV at hv0
    split at hv0
    · rename_i b off ver n cap hp
      split at hv0
      · rename_i k hk
        split at hv0
        · rename_i hver
          obtain ⟨m, hm', hv0⟩ := Option.bind_eq_some_iff.1 hv0
          obtain ⟨r, hr, rfl⟩ := Option.map_eq_some_iff.1 hv0
          rw [hp] at h1
          have hcapm := mxOf_le hm'
          rcases h1.slice_inv with ⟨a', cap', ha', har, hle, hcc, hroom⟩ | ⟨rfl, rfl, a', a2, ha', har2⟩
          · obtain ⟨m', hm1, hmm1, hmm2⟩ := mxOf_more hm' hcc
            have hlm : r.1 ≤ r.2 ∧ r.2 ≤ m := bnds_le' hr (by
              intro hn
              have hx : (mx'.map (·.ev e)) = none := by
                cases hxx : (mx'.map (·.ev e)) with
                | none => rfl
                | some _ => have := hmh (by rw [hxx]; rfl); rw [hn] at this; cases this
              rw [hx] at hm'
              cases hm'
              exact hle)
            have hr' := bnds_more hr hmm1
            refine ⟨_, hrun ha' (m := 0) hm1 hr', ?_⟩
            by_cases hz : m' = r.1
            · rw [if_pos hz]
              have z1 : r.2 - r.1 = 0 := by omega
              have z2 : m - r.1 = 0 := by omega
              have z3 : m' - r.1 = 0 := by omega
              rw [z1, z2, z3]
              exact .empty (har.add _)
            · rw [if_neg hz]
              refine .slice (har.add (r.1 * q.1)) (by omega) (by omega) ?_
              intro k' B δ hk' hsp hs hro
              have e0 : k = k' := Option.some.inj (hk.symm.trans hk')
              subst e0
              have := hroom k B δ hk (by rw [hver.1]) hs hro
              simp only at this ⊢
              rw [hver.2] at this ⊢
              have e2 : r.1 * q.1 + (m' - r.1) * q.1 = m' * q.1 := by rw [← Nat.add_mul]; congr 1; omega
              have e3 : m' * q.1 ≤ cap' * q.1 := Nat.mul_le_mul_right _ hmm2
              omega
          · obtain rfl : m = 0 := by omega
            obtain ⟨e1, e2⟩ := bnds_le hr (Nat.le_refl _)
            have z1 : r.1 = 0 := by omega
            have z2 : r.2 = 0 := by omega
            refine ⟨_, hrun ha' (m := 0) hm' hr, ?_⟩
            rw [z1, z2]
            exact .empty (har2.add _)
        · cases hv0
      · cases hv0
    · rename_i hp
      obtain ⟨m, hm', hv0⟩ := Option.bind_eq_some_iff.1 hv0
      obtain ⟨r, hr, rfl⟩ := Option.map_eq_some_iff.1 hv0
      rw [hp] at h1
      obtain ⟨_, _, h2⟩ := h1.nilslice_inv
      have e0 := mxOf_le hm'
      obtain ⟨e1, e2⟩ := bnds_le hr (Nat.zero_le _)
      obtain rfl : m = 0 := by omega
      have e3 : r.1 = 0 := by omega
      have e4 : r.2 = 0 := by omega
      refine ⟨_, hrun h2 (m := 0) hm' hr, ?_⟩
      rw [e3, e4]
      exact .nilslice
    · cases hv0
  | @slcP t e0 n x x' q hu hq hx =>
    have h1 := opd_sound hi hA hx
    simp only [ev1] at hv
    obtain ⟨v0, hv0, hv⟩ := Option.map_eq_some_iff.1 hv
    cases hv
    refine ⟨rfl, ?_⟩
    unfold slcPV at hv0
    split at hv0
    · rename_i b off ver hp
      split at hv0
      · rename_i k hk
        split at hv0
        · rename_i hver
          cases hv0
          rw [hp] at h1
          obtain ⟨a', ha', hr⟩ := h1.ptr_inv
          obtain ⟨B, δ, hs, rfl⟩ := hr.now hk hver.1
          refine ⟨.slice (some ⟨B, off + δ, none⟩) n n, ?_, .slice hr (Nat.le_refl _) (Nat.le_refl _) ?_⟩
          · have hb := bounds_sound (P := P) (C := C) (w := w) (isSlice := false) (len := n) (cap := n) (lo := none) (hi := none) (mx := none) (lo' := none) (hi' := none) (mx' := none) trivial trivial trivial (fun h => by cases h) rfl rfl
            simp only [execOp, ha', Instr.sliceAt, Sem.run_bind, run_under hu, Result.andThen_ok, Instr.sureAddr, Sem.run_pure, Option.map_none, hb, (lay_spec (w := w) hq).1, Nat.zero_mul, add_none, Nat.add_zero, ite_self, Nat.sub_zero]
          · intro k' B' δ' hk' hsp hs' hro
            have e0 : k = k' := Option.some.inj (hk.symm.trans hk')
            subst e0
            have hs' : C.σ b = some (B', δ') := hs'
            rw [hs] at hs'
            cases hs'
            obtain ⟨k2, hk2, cs, elem, fz, hB, h1, h2, _⟩ := hW.blk b B δ hs
            have e0 : k = k2 := Option.some.inj (hk.symm.trans hk2)
            subst e0
            have := hver.2.2
            rw [hver.2.1]
            simp only
            omega
        · cases hv0
      · cases hv0
    · cases hv0
  | _ => cases hm

/- What is added. -/
theorem rep_length {z : List Value} : ∀ {n : Nat}, (rep n z).length = n * z.length
  | 0 => by simp [rep]
  | n + 1 => by rw [rep, List.length_append, rep_length, Nat.succ_mul]; omega
theorem rep_flat {z : List Value} (hz : Flat z) : ∀ {n : Nat}, Flat (rep n z)
  | 0 => .nil
  | n + 1 => hz.append (rep_flat hz)
theorem rep_get {z : List Value} : ∀ {n i : Nat}, i < n * z.length → (rep n z)[i]? = z[i % z.length]?
  | 0, i, hi => by simp at hi
  | n + 1, i, hi => by
    rw [rep]
    have hz : 0 < z.length := by
      rcases Nat.eq_zero_or_pos z.length with h0 | h0
      · rw [h0] at hi; simp at hi
      · exact h0
    rcases Nat.lt_or_ge i z.length with h1 | h1
    · rw [List.getElem?_append_left h1, Nat.mod_eq_of_lt h1]
    · rw [List.getElem?_append_right h1, rep_get (by rw [Nat.succ_mul] at hi; omega)]
      congr 1
      rw [Nat.mod_eq_sub_mod h1]
theorem rep_array {z : Array Value} {n m : Nat} (hm : m = n * z.size) : ((Array.range m).map (z[· % z.size]!)).toList = rep n z.toList := by
  apply List.ext_getElem?
  intro i
  have hl : z.toList.length = z.size := by simp
  rcases Nat.lt_or_ge i m with h1 | h1
  · have hz : 0 < z.size := by
      rcases Nat.eq_zero_or_pos z.size with h0 | h0
      · rw [h0] at hm; simp at hm; omega
      · exact h0
    rw [rep_get (by rw [hl]; omega)]
    have h2 : i % z.size < z.size := Nat.mod_lt _ hz
    simp [h1, h2]
  · rw [List.getElem?_eq_none (by simpa using h1), List.getElem?_eq_none (by rw [rep_length, hl]; omega)]
theorem rep_array' {z : Array Value} {n m q : Nat} (hq : z.size = q) (hm : m = n * q) : ((Array.range m).map ((if m = 0 then #[] else z)[· % (if m = 0 then #[] else z).size]!)).toList = rep n z.toList := by
  by_cases h0 : m = 0
  · have : (rep n z.toList).length = 0 := by rw [rep_length]; simp [hq]; subst hm; simpa using h0
    rw [List.length_eq_zero_iff.1 this, h0]; simp
  · simp only [if_neg h0]
    exact rep_array (by rw [hq]; exact hm)
theorem wrap_i64 {x : Int} (h : -9223372036854775808 ≤ x ∧ x < 9223372036854775808) : IntKind.wrap .i64 x = x := by
  show (if (true && decide (x % (2 ^ 64 : Int) ≥ (2 ^ (64 - 1) : Int))) = true then x % (2 ^ 64 : Int) - (2 ^ 64 : Int) else x % (2 ^ 64 : Int)) = x
  by_cases hx : x % (2 ^ 64 : Int) ≥ (2 ^ (64 - 1) : Int) <;> simp <;> omega
theorem rep_ok {z : List Value} (hz : okZero z = true) : ∀ {n : Nat}, ∀ v ∈ rep n z, okConst v = true
  | 0, v, hv => by cases hv
  | n + 1, v, hv => by
    rw [rep] at hv
    rcases List.mem_append.1 hv with h1 | h1
    · exact (List.all_eq_true.1 hz) v h1
    · exact rep_ok hz v h1
theorem fill_length : ∀ {qs : List (Nat × Nat × Value)} {cs r : List Value}, fill cs qs = some r → r.length = cs.length
  | [], cs, r, hf => by cases hf; rfl
  | (o, m, v) :: qs, cs, r, hf => by
    simp only [fill] at hf
    split at hf
    · rename_i hc
      rw [fill_length hf, splice_length (by rw [hc.1]; exact hc.2)]
    · cases hf
/-- What is added. -/
theorem add_sound (hi : Inv inv h C) (hA : At C h l e a w) {o : Oper} {c : Op1} (hc : comp1 P inv isPure h l o = some c) (hm : c.meets = .adds) {cl : Cl} {n0 : Nat} {wb : Bool} {H H' : Heap} {v : Value}
    (hv : ev1 cl n0 wb e H c = some (v, H')) : ∃ blk, H' = H ++ [blk] ∧ blk.ver = 0 ∧ blk.ro = false ∧ Flat blk.cells ∧
      Ends P o a w fun v' w' => ∃ (cs : Array Value) (elem : TypeId), w' = w.alloc (.cells cs elem) ∧ blk.cells.length = cs.size ∧ VRs C blk.cells cs.toList ∧
        ((v = adr H.length 0 0 ∧ v' = .pointer (some ⟨w.heap.size, 0, none⟩)) ∨ ∃ n m, v = slc H.length 0 0 n m ∧ n ≤ m ∧ m * blk.esz ≤ blk.cells.length ∧ v' = .slice (some ⟨w.heap.size, 0, none⟩) n m) := by
  obtain ⟨dst, op, ty, pos, after, guard⟩ := o
  have hsp := comp1_spec hc
  cases hsp with
  | other hx => cases c <;> first | cases hx; done | cases hm
  | @new t z hz hok =>
    cases hv
    obtain ⟨zv, hzv, hzz⟩ := zero_spec (w := w) hz
    refine ⟨⟨z, 1, 0, false⟩, rfl, rfl, rfl, .okZero hok, .value (v' := .pointer (some ⟨w.heap.size, 0, none⟩)) (w' := w.alloc (.cells zv.cells t)) ?_ ⟨_, _, rfl, ?_, ?_, .inl ⟨rfl, rfl⟩⟩⟩
    · simp only [execOp, Instr.alloc, newVar, newRow, Sem.run_bind, hzv, Result.andThen_ok, Sem.run_pure, run_newObj]
      rfl
    · rw [← hzz]; simp
    · rw [hzz]; exact .okZero hok
  | @box t x y q hx hq h0 =>
    have h1 := opd_sound hi hA hx
    simp only [ev1] at hv
    split at hv
    · rename_i hlen
      cases hv
      have hne : cellsOf (y.ev e) ≠ [] := fun hh => by rw [hh] at hlen; exact h0 hlen.symm
      have hr := h1.cells hne
      refine ⟨⟨cellsOf (y.ev e), 1, 0, false⟩, rfl, rfl, rfl, h1.flat, .value (v' := .pointer (some ⟨w.heap.size, 0, none⟩)) (w' := w.alloc (.cells (a.eval x).cells t)) ?_ ⟨_, _, rfl, ?_, hr, .inl ⟨rfl, rfl⟩⟩⟩
      · simp only [execOp, Instr.box, newVar, newRow, Sem.run_bind, Result.andThen_ok, Sem.run_pure, run_newObj]
        rfl
      · simpa using hr.1
    · cases hv
  | @bldS t e0 n ps z q qs hu hz hok hq hl hn hp =>
    simp only [ev1] at hv
    obtain ⟨r, hr, hv⟩ := Option.map_eq_some_iff.1 hv
    cases hv
    obtain ⟨zv, hzv, hzz⟩ := zero_spec (w := w) hz
    have hzs : zv.cells.size = q.1 := by rw [← hl, ← hzz]; simp
    have hfit := parts_sound hi hA hp
    have hrep := rep_array' (n := n) hzs rfl
    obtain ⟨r', hr', hrr, hrf⟩ := fill_sound (cs' := (Array.range (n * q.1)).map ((if n * q.1 = 0 then #[] else zv.cells)[· % (if n * q.1 = 0 then #[] else zv.cells).size]!)) hfit
      (by rw [hrep, hzz]; exact ⟨rfl, fun i h1 _ => .okConst (by exact rep_ok hok _ (List.getElem_mem h1))⟩) (rep_flat (.okZero hok)) hr
    have hlen := fill_length hr
    refine ⟨⟨r, q.1, 0, false⟩, rfl, rfl, rfl, hrf, .value (v' := .slice (some ⟨w.heap.size, 0, none⟩) n n) (w' := w.alloc (.cells r' e0)) ?_ ⟨_, _, rfl, by simpa using hrr.1, hrr, .inr ⟨n, n, rfl, Nat.le_refl _, ?_, rfl⟩⟩⟩
    · simp only [execOp, Instr.buildSlice, Sem.run_bind, run_under hu, Result.andThen_ok, (lay_spec (w := w) hq).1]
      rw [if_neg (by omega)]
      have : (ps.map fun q => (q.1, a.eval q.2)).toList = ps.toList.map fun q => (q.1, a.eval q.2) := by simp
      by_cases h0 : n * q.1 = 0
      · rw [if_pos h0]
        simp only [if_pos h0] at hr'
        simp only [Sem.run_bind, Sem.run_pure, Result.andThen_ok]
        rw [this, hr']
        simp only [newRow, Sem.run_bind, run_newObj, Result.andThen_ok, Sem.run_pure]
        rfl
      · rw [if_neg h0]
        simp only [if_neg h0] at hr'
        simp only [Sem.run_bind, hzv, Sem.run_pure, Result.andThen_ok]
        rw [this, hr']
        simp only [newRow, Sem.run_bind, run_newObj, Result.andThen_ok, Sem.run_pure]
        rfl
    · show n * q.1 ≤ r.length
      rw [hlen, rep_length, hl]; exact Nat.le_refl _
  | @mkS t e0 n c z q n' c' hu hz hok hq hl hb0 hn hc' =>
    have h1 := opd_sound hi hA hn
    have h2 := opd_sound hi hA hc'
    simp only [ev1] at hv
    split at hv
    · rename_i i j hi' hj'
      split at hv
      · rename_i hb
        cases hv
        rw [hi'] at h1
        rw [hj'] at h2
        obtain ⟨hb1, hb2, hb3⟩ := hb
        obtain ⟨zv, hzv, hzz⟩ := zero_spec (w := w) hz
        have hzs : zv.cells.size = q.1 := by rw [← hl, ← hzz]; simp
        have hrep := rep_array' (n := j.toNat) hzs rfl
        obtain ⟨hsz, _, hby, info, hinfo, _, hti⟩ := lay_spec (w := w) hq
        have hby : P.bytesOf e0 = info.bytes := by rw [hby, hinfo]; rfl
        rw [hby] at hb3 hb0
        have hbp : (1 : Int) ≤ (info.bytes : Int) := by omega
        have hj48 : j ≤ 140737488355328 := by
          have h3 : j * 1 ≤ j * (info.bytes : Int) := Int.mul_le_mul_of_nonneg_left hbp (by omega)
          have h4 : j * (info.bytes : Int) ≤ 140737488355328 := hb3
          omega
        have w1 : IntKind.wrap .i64 i = i := wrap_i64 (by omega)
        have w2 : IntKind.wrap .i64 j = j := wrap_i64 (by omega)
        have hmul : (info.bytes : Int) * j ≤ 281474976710656 := by
          have h4 : j * (info.bytes : Int) ≤ 140737488355328 := hb3
          rw [Int.mul_comm]; omega
        refine ⟨⟨rep j.toNat z, q.1, 0, false⟩, rfl, rfl, rfl, rep_flat (.okZero hok), .value (v' := .slice (some ⟨w.heap.size, 0, none⟩) i.toNat j.toNat)
          (w' := w.alloc (.cells ((Array.range (j.toNat * q.1)).map ((if j.toNat * q.1 = 0 then #[] else zv.cells)[· % (if j.toNat * q.1 = 0 then #[] else zv.cells).size]!)) e0)) ?_ ⟨_, _, rfl, ?_, ?_, .inr ⟨_, _, rfl, by omega, ?_, rfl⟩⟩⟩
        · simp only [execOp, Instr.makeSlice, h1.int_inv, h2.int_inv, asInt, Sem.run_bind, run_under hu, Result.andThen_ok, Sem.run_pure, run_asInt, Sem.run_map, hti, w1, w2]
          rw [if_neg (by simp; omega)]
          by_cases h0 : j.toNat * q.1 = 0
          · simp only [Sem.run_bind, run_askRoom, hsz, Result.andThen_ok, if_pos h0, newRow, run_newObj, Sem.run_pure]
            rfl
          · simp only [Sem.run_bind, run_askRoom, hsz, Result.andThen_ok, if_neg h0, hzv, newRow, run_newObj, Sem.run_pure]
            rfl
        · simp [rep_length, hl]
        · rw [hrep, hzz]; exact ⟨rfl, fun i h1 _ => .okConst (rep_ok hok _ (List.getElem_mem h1))⟩
        · show j.toNat * q.1 ≤ (rep j.toNat z).length
          rw [rep_length, hl]; exact Nat.le_refl _
      · cases hv
    · cases hv
  | _ => cases hm
end
end Fb
