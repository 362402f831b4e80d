/- How the small language's values, blocks and slots stand to the model's. -/
import Derived.Test.YtimijcjjmeemeaaComp
import Derived.Test.YtimijcjjmeemeaaRun
import Derived.Calls
import Derived.Laws.Sem
import Derived.Laws.World
set_option linter.unusedVariables false
set_option linter.unusedSimpArgs false
namespace Fb
open Go

/-- What a relation leans on: the functions' numbers, the blocks, where they lie (none: not laid yet), and how many cells lie there. -/
structure Cx where
  ρ : Nat → FuncId
  H : Heap
  σ : Nat → Option (Nat × Nat)
  ws : Nat → Nat

inductive AR (C : Cx) : Addr → Addr → Prop
  | old {b off v : Nat} {a' : Addr} {k : Blk} (hk : C.H[b]? = some k) (hv : v < k.ver) : AR C ⟨b, off, some v⟩ a'
  | cur {b off : Nat} {k : Blk} {B δ : Nat} (hk : C.H[b]? = some k) (hs : C.σ b = some (B, δ)) : AR C ⟨b, off, some k.ver⟩ ⟨B, off + δ, none⟩

/-- Room behind a slice's cells. -/
def Room (C : Cx) (a : Addr) (cap' : Nat) : Prop :=
  ∀ k B δ, C.H[a.block]? = some k → a.spot = some k.ver → C.σ a.block = some (B, δ) → k.ro = false → a.off + δ + cap' * k.esz ≤ C.ws a.block

def Flat (l : List Value) : Prop := ∀ v ∈ l, v.oneCell' = true
theorem Flat.append {a b : List Value} (h : Flat a) (h' : Flat b) : Flat (a ++ b) := fun v hv => (List.mem_append.1 hv).elim (h v) (h' v)
theorem Flat.take {a : List Value} {n : Nat} (h : Flat a) : Flat (a.take n) := fun v hv => h v (List.mem_of_mem_take hv)
theorem Flat.drop {a : List Value} {n : Nat} (h : Flat a) : Flat (a.drop n) := fun v hv => h v (List.mem_of_mem_drop hv)
theorem Flat.nil : Flat [] := fun v h => by cases h
theorem Flat.one {v : Value} (h : v.oneCell' = true) : Flat [v] := fun u hu => by cases List.mem_singleton.1 hu; exact h
inductive VR (C : Cx) : Value → Value → Prop
  | bool (b : Bool) : VR C (.bool b) (.bool b)
  | int (k : IntKind) (i : Int) : VR C (.int k i) (.int k i)
  | string (s : ByteArray) : VR C (.string s) (.string s)
  | nilptr : VR C (.pointer none) (.pointer none)
  | nilFunc : VR C .nilFunc .nilFunc
  | nilIface : VR C .nilIface .nilIface
  | iface {t t' : TypeId} {v v' : Value} : VR C (.iface t v) (.iface t' v')
  | ptr {a a' : Addr} (h : AR C a a') : VR C (.pointer (some a)) (.pointer (some a'))
  | nilslice : VR C (.slice none 0 0) (.slice none 0 0)
  | slice {a a' : Addr} {len cap cap' : Nat} (h : AR C a a') (hl : len ≤ cap) (hc : cap ≤ cap') (hr : Room C a cap') :
      VR C (.slice (some a) len cap) (.slice (some a') len cap')
  | empty {a a' a'' : Addr} (h : AR C a a'') : VR C (.slice (some a) 0 0) (.slice (some a') 0 0)
  | func {f : Nat} {cs cs' : Array Value} (hs : cs.size = cs'.size) (h : ∀ i (h1 : i < cs.size) (h2 : i < cs'.size), VR C cs[i] cs'[i]) :
      VR C (.func (.func f) #[] cs) (.func (.func (C.ρ f)) #[] cs')
  | agg {cs cs' : Array Value} (hf : Flat cs.toList) (hs : cs.size = cs'.size) (h : ∀ i (h1 : i < cs.size) (h2 : i < cs'.size), VR C cs[i] cs'[i]) : VR C (.agg cs) (.agg cs')
  | tup {cs cs' : Array Value} (hs : cs.size = cs'.size) (h : ∀ i (h1 : i < cs.size) (h2 : i < cs'.size), VR C cs[i] cs'[i]) : VR C (.tuple cs) (.tuple cs')

theorem VR.u {C : Cx} : VR C U undef := .tup rfl (fun i h => by simp at h)
/-- Lists, cell by cell. -/
def VRs (C : Cx) (l l' : List Value) : Prop := l.length = l'.length ∧ ∀ i (h1 : i < l.length) (h2 : i < l'.length), VR C l[i] l'[i]

/-- From one context to a later one: what was there is there, perhaps a newer version. -/
structure Later (C C' : Cx) : Prop where
  ρ : C'.ρ = C.ρ
  blk : ∀ b k, C.H[b]? = some k → ∃ k', C'.H[b]? = some k' ∧ k.ver ≤ k'.ver ∧ k'.ro = k.ro ∧ k'.esz = k.esz ∧ (k'.ver = k.ver → ∀ x, C.σ b = some x → C'.σ b = some x ∧ C'.ws b = C.ws b)

theorem Later.refl (C : Cx) : Later C C := ⟨rfl, fun _ k h => ⟨k, h, Nat.le_refl _, rfl, rfl, fun _ _ h => ⟨h, rfl⟩⟩⟩
theorem Later.trans {C C' C'' : Cx} (h : Later C C') (h' : Later C' C'') : Later C C'' := by
  refine ⟨h'.ρ.trans h.ρ, fun b k hk => ?_⟩
  obtain ⟨k1, hk1, hv1, hr1, he1, hs1⟩ := h.blk b k hk
  obtain ⟨k2, hk2, hv2, hr2, he2, hs2⟩ := h'.blk b k1 hk1
  refine ⟨k2, hk2, Nat.le_trans hv1 hv2, hr2.trans hr1, he2.trans he1, fun hv => ?_⟩
  have e1 : k1.ver = k.ver := by omega
  have e2 : k2.ver = k1.ver := by omega
  exact fun x hx => ⟨(hs2 e2 x (hs1 e1 x hx).1).1, (hs2 e2 x (hs1 e1 x hx).1).2.trans (hs1 e1 x hx).2⟩

theorem AR.later {C C' : Cx} {a a' : Addr} (h : AR C a a') (hl : Later C C') : AR C' a a' := by
  cases h with
  | old hk hv => obtain ⟨k', hk', hv', _⟩ := hl.blk _ _ hk; exact .old hk' (by omega)
  | @cur b off k B δ hk hs =>
    obtain ⟨k', hk', hv', _, _, hs'⟩ := hl.blk _ _ hk
    by_cases e : k'.ver = k.ver
    · rw [← e]; exact .cur hk' (hs' e _ hs).1
    · exact .old hk' (by omega)
/-- A current address in a later context was current, too. -/
theorem Room.later {C C' : Cx} {a a' : Addr} {c : Nat} (h : Room C a c) (ha : AR C a a') (hl : Later C C') : Room C' a c := by
  intro k' B δ hk' hsp hs hro
  cases ha with
  | @old b off v a' k hk hv =>
    obtain ⟨k2, hk2, hv2, _⟩ := hl.blk _ _ hk
    dsimp only at hk' hsp
    rw [hk2] at hk'; cases hk'; cases hsp; omega
  | @cur b off k B1 δ1 hk hs1 =>
    obtain ⟨k2, hk2, hv2, hr2, he2, hs2⟩ := hl.blk _ _ hk
    dsimp only at hk' hsp hs ⊢
    have e0 : k' = k2 := Option.some.inj (hk'.symm.trans hk2)
    subst e0
    have e : k'.ver = k.ver := (Option.some.inj hsp).symm
    obtain ⟨h1, h2⟩ := hs2 e _ hs1
    have := h1
    rw [hs] at this; cases this
    have := h k B δ hk rfl hs1 (hr2 ▸ hro)
    rw [h2, he2]; exact this
theorem VR.later {C C' : Cx} {v v' : Value} (h : VR C v v') (hl : Later C C') : VR C' v v' := by
  induction h with
  | bool b => exact .bool b
  | int k i => exact .int k i
  | string s => exact .string s
  | nilptr => exact .nilptr
  | nilFunc => exact .nilFunc
  | nilIface => exact .nilIface
  | iface => exact .iface
  | ptr h => exact .ptr (h.later hl)
  | nilslice => exact .nilslice
  | slice h hl' hc hr => exact .slice (h.later hl) hl' hc (hr.later h hl)
  | empty h => exact .empty (h.later hl)
  | func hs _ ih => rw [← hl.ρ]; exact .func hs ih
  | agg hf hs _ ih => exact .agg hf hs ih
  | tup hs _ ih => exact .tup hs ih
theorem VRs.later {C C' : Cx} {l l' : List Value} (h : VRs C l l') (hl : Later C C') : VRs C' l l' := ⟨h.1, fun i a b => (h.2 i a b).later hl⟩
theorem VRs.nil {C : Cx} : VRs C [] [] := ⟨rfl, fun i h => by simp at h⟩
theorem VRs.cons {C : Cx} {v v' : Value} {l l' : List Value} (h : VR C v v') (hs : VRs C l l') : VRs C (v :: l) (v' :: l') := by
  refine ⟨by simp [hs.1], fun i h1 h2 => ?_⟩
  cases i with
  | zero => exact h
  | succ i => exact hs.2 i (by simpa using h1) (by simpa using h2)
theorem VRs.append {C : Cx} {a a' b b' : List Value} (h : VRs C a a') (hs : VRs C b b') : VRs C (a ++ b) (a' ++ b') := by
  refine ⟨by simp [h.1, hs.1], fun i h1 h2 => ?_⟩
  simp only [List.getElem_append]
  have := h.1
  by_cases hi : i < a.length
  · rw [dif_pos hi, dif_pos (by omega)]; exact h.2 _ _ _
  · rw [dif_neg hi, dif_neg (by omega)]
    have e : i - a'.length = i - a.length := by omega
    simp only [e]
    exact hs.2 _ _ _
theorem VRs.take {C : Cx} {m : Nat} {a a' : List Value} (h : VRs C a a') : VRs C (a.take m) (a'.take m) := by
  refine ⟨by simp [h.1], fun i h1 h2 => ?_⟩
  simp only [List.getElem_take]; exact h.2 _ _ _
theorem VRs.drop {C : Cx} {m : Nat} {a a' : List Value} (h : VRs C a a') : VRs C (a.drop m) (a'.drop m) := by
  refine ⟨by simp [h.1], fun i h1 h2 => ?_⟩
  simp only [List.getElem_drop]; exact h.2 _ _ _
theorem VR.cells {C : Cx} {v v' : Value} (h : VR C v v') (hn : cellsOf v ≠ []) : VRs C (cellsOf v) v'.cells.toList := by
  cases h with
  | agg _ hs h => exact ⟨hs, fun i h1 h2 => h i h1 h2⟩
  | bool b => exact .cons (.bool b) .nil
  | int k i => exact .cons (.int k i) .nil
  | string s => exact .cons (.string s) .nil
  | nilptr => exact .cons .nilptr .nil
  | nilFunc => exact .cons .nilFunc .nil
  | nilIface => exact .cons .nilIface .nil
  | iface => exact .cons .iface .nil
  | ptr h => exact .cons (.ptr h) .nil
  | nilslice => exact .cons .nilslice .nil
  | slice h hl' hc hr => exact .cons (.slice h hl' hc hr) .nil
  | empty hk => exact .cons (.empty hk) .nil
  | func hs h => exact .cons (.func hs h) .nil
  | tup hs h => cases hn rfl
theorem VR.flat {C : Cx} {v v' : Value} (h : VR C v v') : Flat (cellsOf v) := by
  cases h with
  | agg hf _ _ => exact hf
  | tup => exact .nil
  | _ => exact .one rfl
theorem VR.one {C : Cx} {v v' : Value} (h : VR C v v') (h1 : v.oneCell' = true) : v'.oneCell' = true := by cases h <;> first | rfl | cases h1
theorem VRs.flat {C : Cx} {l l' : List Value} (h : VRs C l l') (hf : Flat l) : Flat l' := by
  intro v hv
  obtain ⟨i, hi, rfl⟩ := List.getElem_of_mem hv
  have hi' : i < l.length := by have := h.1; omega
  exact (h.2 i hi' hi).one (hf _ (List.getElem_mem hi'))
theorem VRs.mk_agg {C : Cx} {l l' : List Value} (h : VRs C l l') (hf : Flat l) : VR C (agg l) (.agg l'.toArray) :=
  .agg (by simpa [agg] using hf) (by simpa using h.1) (fun i h1 h2 => by simpa using h.2 i (by simpa using h1) (by simpa using h2))
theorem VRs.get {C : Cx} {i : Nat} {l l' : List Value} {v : Value} (h : VRs C l l') (hv : l[i]? = some v) : ∃ v', l'[i]? = some v' ∧ VR C v v' := by
  obtain ⟨hi, rfl⟩ := List.getElem?_eq_some_iff.1 hv
  have hi' : i < l'.length := by have := h.1; omega
  exact ⟨l'[i], List.getElem?_eq_getElem hi', h.2 i hi hi'⟩
theorem VR.okConst {C : Cx} {v : Value} (h : okConst v = true) : VR C v v := by
  unfold Fb.okConst at h
  split at h
  · exact .bool _
  · exact .int _ _
  · exact .string _
  · exact .nilFunc
  · exact .nilIface
  · exact .nilptr
  · exact .nilslice
  · cases h
theorem okConst_one {v : Value} (h : okConst v = true) : v.oneCell' = true := by
  unfold Fb.okConst at h
  split at h <;> first | rfl | cases h
theorem Flat.okZero {z : List Value} (h : okZero z = true) : Flat z := by
  unfold Fb.okZero at h
  rw [List.all_eq_true] at h
  exact fun v hv => okConst_one (h v hv)
theorem VRs.okZero {C : Cx} {z : List Value} (h : okZero z = true) : VRs C z z := by
  unfold Fb.okZero at h
  rw [List.all_eq_true] at h
  exact ⟨rfl, fun i h1 _ => .okConst (h _ (List.getElem_mem h1))⟩

/-- Memory, as far as blocks are laid. -/
structure WR (C : Cx) (w : World) : Prop where
  blk : ∀ b B δ, C.σ b = some (B, δ) → ∃ k, C.H[b]? = some k ∧ ∃ cs elem fz, w.heap[B]? = some (.cells cs elem fz) ∧ cs.size = C.ws b ∧ δ + k.cells.length ≤ cs.size ∧ Flat k.cells ∧
    VRs C k.cells ((cs.toList.drop δ).take k.cells.length) ∧ (k.ro = false → δ = 0 ∧ fz = (0, 0))
  one : ∀ b b' B δ δ', C.σ b = some (B, δ) → C.σ b' = some (B, δ') → b ≠ b' → ∀ k, C.H[b]? = some k → k.ro = true

/-- From one moment to a later one. n0: the blocks below it that are not laid stay so. B0: the blocks of memory below it are kept, but for those of blocks that may be written. -/
structure Ext (n0 B0 : Nat) (C : Cx) (w : World) (C' : Cx) (w' : World) : Prop extends Later C C' where
  len : C.H.length ≤ C'.H.length
  fresh : ∀ b B δ, C'.σ b = some (B, δ) → (C.σ b = some (B, δ) ∧ b < C.H.length) ∨ w.heap.size ≤ B
  hsz : w.heap.size ≤ w'.heap.size
  un : ∀ b, b < n0 → C.σ b = none → C'.σ b = none ∧ C'.H[b]? = C.H[b]?
  keep : ∀ B, B < B0 → (∀ b k δ, C.H[b]? = some k → C.σ b = some (B, δ) → k.ro = true) → w'.heap[B]? = w.heap[B]?
  os : w'.os = w.os ∧ w'.output = w.output ∧ w'.tape = w.tape
  fz : ∀ a : Addr, a.block < w.heap.size → w'.frozen? a = w.frozen? a

theorem WR.lt {C : Cx} {w : World} (hw : WR C w) {b : Nat} {x : Nat × Nat} (h : C.σ b = some x) : b < C.H.length ∧ x.1 < w.heap.size := by
  obtain ⟨k, hk, cs, elem, fz, hB, _⟩ := hw.blk b x.1 x.2 h
  exact ⟨(List.getElem?_eq_some_iff.1 hk).1, (Array.getElem?_eq_some_iff.1 hB).1⟩
theorem Ext.refl {n0 B0 : Nat} {C : Cx} {w : World} (hw : WR C w) : Ext n0 B0 C w C w :=
  ⟨.refl C, Nat.le_refl _, fun b B δ h => .inl ⟨h, (hw.lt h).1⟩, Nat.le_refl _, fun _ _ h => ⟨h, rfl⟩, fun _ _ _ => rfl, ⟨rfl, rfl, rfl⟩, fun _ _ => rfl⟩
theorem Ext.trans {n0 B0 : Nat} {C C' C'' : Cx} {w w' w'' : World} (h : Ext n0 B0 C w C' w') (h' : Ext n0 B0 C' w' C'' w'') (hB : B0 ≤ w.heap.size) : Ext n0 B0 C w C'' w'' := by
  refine ⟨h.toLater.trans h'.toLater, Nat.le_trans h.len h'.len, fun b B δ hs => ?_, Nat.le_trans h.hsz h'.hsz, fun b hb hs => ?_, fun B hlt hro => ?_, ?_, fun a ha => (h'.fz a (Nat.lt_of_lt_of_le ha h.hsz)).trans (h.fz a ha)⟩
  · rcases h'.fresh b B δ hs with ⟨h1, _⟩ | h1
    · exact h.fresh b B δ h1
    · exact .inr (Nat.le_trans h.hsz h1)
  · obtain ⟨h1, h2⟩ := h.un b hb hs
    obtain ⟨h3, h4⟩ := h'.un b hb h1
    exact ⟨h3, h4.trans h2⟩
  · rw [h'.keep B hlt ?_, h.keep B hlt hro]
    intro b k δ hk hs
    rcases h.fresh b B δ hs with ⟨h1, hb⟩ | h1
    · have hk0 : C.H[b]? = some C.H[b] := List.getElem?_eq_getElem hb
      obtain ⟨k', hk', _, hr, _⟩ := h.blk b _ hk0
      rw [hk] at hk'; cases hk'
      rw [hr]; exact hro b _ δ hk0 h1
    · omega
  · exact ⟨h'.os.1.trans h.os.1, h'.os.2.1.trans h.os.2.1, h'.os.2.2.trans h.os.2.2⟩
theorem Ext.weaken {n0 n1 B0 B1 : Nat} {C C' : Cx} {w w' : World} (h : Ext n0 B0 C w C' w') (hn : n1 ≤ n0) (hB : B1 ≤ B0) : Ext n1 B1 C w C' w' :=
  ⟨h.toLater, h.len, h.fresh, h.hsz, fun b hb => h.un b (Nat.lt_of_lt_of_le hb hn), fun B hlt => h.keep B (Nat.lt_of_lt_of_le hlt hB), h.os, h.fz⟩

/-- Blocks of memory that are never written, and the package-level variable that block 0 stands for. -/
structure Glb where
  at' : Nat → Option Obj
  pin : Option Nat
instance : CoeFun Glb fun _ => Nat → Option Obj := ⟨Glb.at'⟩
def Glb.none : Glb := ⟨fun _ => .none, .none⟩
/-- Protected blocks hold what they hold, no block that may be written lies there, and block 0 is where it is said to be. -/
structure Prot (Gl : Glb) (C : Cx) (w : World) : Prop where
  is : ∀ B o, Gl B = some o → w.heap[B]? = some o ∧ ∀ b δ k, C.σ b = some (B, δ) → C.H[b]? = some k → k.ro = true
  pin : ∀ g, Gl.pin = some g → AR C ⟨0, 0, some 0⟩ ⟨g, 0, .none⟩
theorem Prot.none {C : Cx} {w : World} : Prot Glb.none C w := ⟨fun _ _ h => (by cases h), fun _ h => by cases h⟩
theorem Prot.lt {Gl : Glb} {C : Cx} {w : World} (h : Prot Gl C w) {B : Nat} {o : Obj} (hB : Gl B = some o) : B < w.heap.size := (Array.getElem?_eq_some_iff.1 (h.is B o hB).1).1
theorem Prot.ext {Gl : Glb} {n0 B0 : Nat} {C C' : Cx} {w w' : World} (h : Prot Gl C w) (hB : ∀ B o, Gl B = some o → B < B0) (hX : Ext n0 B0 C w C' w') : Prot Gl C' w' := by
  refine ⟨fun B o hg => ?_, fun g hg => (h.pin g hg).later hX.toLater⟩
  obtain ⟨h1, h2⟩ := h.is B o hg
  refine ⟨(hX.keep B (hB B o hg) fun b k δ hk hs => h2 b δ k hs hk).trans h1, fun b δ k hs hk => ?_⟩
  rcases hX.fresh b B δ hs with ⟨h3, h4⟩ | h3
  · obtain ⟨k', hk', _, hr, _⟩ := hX.blk b _ (List.getElem?_eq_getElem h4)
    rw [hk] at hk'
    cases hk'
    rw [hr]
    exact h2 b δ _ h3 (List.getElem?_eq_getElem h4)
  · have := h.lt hg
    omega
/-- A block is laid. -/
def Cx.lay (C : Cx) (b B n : Nat) : Cx := { C with σ := fun x => if x = b then some (B, 0) else C.σ x, ws := fun x => if x = b then n else C.ws x }
theorem Later.lay {C : Cx} {b B n : Nat} (hs : C.σ b = none) : Later C (C.lay b B n) := by
  refine ⟨rfl, fun x k hk => ⟨k, hk, Nat.le_refl _, rfl, rfl, fun _ y hy => ?_⟩⟩
  have : x ≠ b := fun e => by rw [e, hs] at hy; cases hy
  simp [Cx.lay, this, hy]
theorem alloc_old {w : World} {o : Obj} {B : Nat} (hB : B < w.heap.size) : (w.alloc o).heap[B]? = w.heap[B]? := by
  show (w.heap.push o)[B]? = _
  simp [Array.getElem?_push, Nat.ne_of_lt hB]
theorem alloc_new {w : World} {o : Obj} : (w.alloc o).heap[w.heap.size]? = some o := by show (w.heap.push o)[w.heap.size]? = _; simp
theorem alloc_size {w : World} {o : Obj} : (w.alloc o).heap.size = w.heap.size + 1 := by show (w.heap.push o).size = _; simp
theorem frozen_alloc {w : World} {c : Array Value} {t : TypeId} {a : Addr} : (w.alloc (.cells c t)).frozen? a = w.frozen? a := by
  unfold World.frozen?
  rcases Nat.lt_trichotomy a.block w.heap.size with h | h | h
  · rw [alloc_old h]
  · rw [h, alloc_new]
    simp
  · rw [Array.getElem?_eq_none (by rw [alloc_size]; omega), Array.getElem?_eq_none (by omega)]
theorem WR.alloc {C : Cx} {w : World} {o : Obj} (hw : WR C w) : WR C (w.alloc o) := by
  refine ⟨fun b B δ hs => ?_, hw.one⟩
  obtain ⟨k, hk, cs, elem, fz, hB, r⟩ := hw.blk b B δ hs
  exact ⟨k, hk, cs, elem, fz, by rw [alloc_old (hw.lt hs).2]; exact hB, r⟩
theorem WR.lay {C : Cx} {w : World} (hw : WR C w) {b : Nat} {k : Blk} (hk : C.H[b]? = some k) (hs : C.σ b = none) {cs : Array Value} {elem : TypeId}
    (hf : Flat k.cells) (hl : k.cells.length ≤ cs.size) (hr : VRs C k.cells (cs.toList.take k.cells.length)) : WR (C.lay b w.heap.size cs.size) (w.alloc (.cells cs elem)) := by
  have hL : Later C (C.lay b w.heap.size cs.size) := .lay hs
  refine ⟨fun x B δ hx => ?_, fun x y B δ δ' hx hy hne k' hk' => ?_⟩
  · by_cases hxb : x = b
    · subst hxb
      simp only [Cx.lay, if_true, Option.some.injEq, Prod.mk.injEq] at hx
      obtain ⟨rfl, rfl⟩ := hx
      refine ⟨k, hk, cs, elem, _, alloc_new, by simp [Cx.lay], by omega, hf, ?_, fun _ => ⟨rfl, rfl⟩⟩
      simpa using hr.later hL
    · simp only [Cx.lay, if_neg hxb] at hx
      obtain ⟨k', hk', cs', elem', fz, hB, h1, h2, h3, h4, h5⟩ := hw.blk x B δ hx
      exact ⟨k', hk', cs', elem', fz, by rw [alloc_old (hw.lt hx).2]; exact hB, by simp [Cx.lay, hxb, h1], h2, h3, h4.later hL, h5⟩
  · by_cases hxb : x = b
    · subst hxb
      have hyb : y ≠ x := fun e => hne e.symm
      simp only [Cx.lay, if_true, if_neg hyb, Option.some.injEq, Prod.mk.injEq] at hx hy
      have := (hw.lt hy).2
      omega
    · by_cases hyb : y = b
      · subst hyb
        simp only [Cx.lay, if_true, if_neg hxb, Option.some.injEq, Prod.mk.injEq] at hx hy
        have := (hw.lt hx).2
        omega
      · simp only [Cx.lay, if_neg hxb, if_neg hyb] at hx hy
        exact hw.one x y B δ δ' hx hy hne k' hk'
theorem Ext.lay {n0 B0 : Nat} {C : Cx} {w : World} (hw : WR C w) {b : Nat} (hs : C.σ b = none) (hb : n0 ≤ b) {n : Nat} {cs : Array Value} {elem : TypeId} (hB : B0 ≤ w.heap.size) :
    Ext n0 B0 C w (C.lay b w.heap.size n) (w.alloc (.cells cs elem)) := by
  refine ⟨.lay hs, Nat.le_refl _, fun x B δ hx => ?_, by rw [alloc_size]; omega, fun x hx hsx => ?_, fun B hlt _ => alloc_old (by omega), ⟨rfl, rfl, rfl⟩, fun a _ => frozen_alloc⟩
  · by_cases hxb : x = b
    · subst hxb
      simp only [Cx.lay, if_true, Option.some.injEq, Prod.mk.injEq] at hx
      exact .inr (by omega)
    · simp only [Cx.lay, if_neg hxb] at hx
      exact .inl ⟨hx, (hw.lt hx).1⟩
  · have : x ≠ b := by omega
    exact ⟨by simp [Cx.lay, this, hsx], rfl⟩
/-- More blocks, none laid. -/
def Cx.more (C : Cx) (L : List Blk) : Cx := { C with H := C.H ++ L }
theorem Later.more {C : Cx} {L : List Blk} : Later C (C.more L) :=
  ⟨rfl, fun b k hk => ⟨k, by have := (List.getElem?_eq_some_iff.1 hk).1; show (C.H ++ L)[b]? = _; rw [List.getElem?_append_left this]; exact hk, Nat.le_refl _, rfl, rfl, fun _ _ h => ⟨h, rfl⟩⟩⟩
theorem WR.more {C : Cx} {w : World} {L : List Blk} (hw : WR C w) : WR (C.more L) w := by
  refine ⟨fun b B δ hs => ?_, fun x y B δ δ' hx hy hne k hk => ?_⟩
  · obtain ⟨k, hk, cs, elem, fz, hB, h1, h2, h3, h4, h5⟩ := hw.blk b B δ hs
    obtain ⟨k', hk', _⟩ := (Later.more (C := C) (L := L)).blk b k hk
    refine ⟨k, ?_, cs, elem, fz, hB, h1, h2, h3, h4.later .more, h5⟩
    have := (List.getElem?_eq_some_iff.1 hk).1
    show (C.H ++ L)[b]? = _
    rw [List.getElem?_append_left this]; exact hk
  · have hlt := (hw.lt hx).1
    refine hw.one x y B δ δ' hx hy hne k ?_
    have : (C.H ++ L)[x]? = some k := hk
    rwa [List.getElem?_append_left hlt] at this
theorem Ext.more {n0 B0 : Nat} {C : Cx} {w : World} {L : List Blk} (hw : WR C w) (hn : n0 ≤ C.H.length) : Ext n0 B0 C w (C.more L) w :=
  ⟨.more, by simp [Cx.more], fun b B δ h => .inl ⟨h, (hw.lt h).1⟩, Nat.le_refl _, fun b hb hs => ⟨hs, by
    show (C.H ++ L)[b]? = _
    rw [List.getElem?_append_left (by omega)]⟩, fun _ _ _ => rfl, ⟨rfl, rfl, rfl⟩, fun _ _ => rfl⟩

end Fb
