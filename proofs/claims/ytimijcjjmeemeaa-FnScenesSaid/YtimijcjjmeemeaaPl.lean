/- Rows of numbers: reading, writing, loops that count. -/
import Derived.Test.YtimijcjjmeemeaaWk
set_option linter.unusedVariables false
set_option linter.unusedSimpArgs false
namespace Fb
open Go

theorem nth_get {l : List Int} {i : Nat} (h : i < l.length) : l[i]? = some (nth l i) := by
  rw [nth, List.getD_eq_getElem?_getD, List.getElem?_eq_getElem h]; rfl
theorem nth_of {l : List Int} {i : Nat} {x : Int} (h : l[i]? = some x) : nth l i = x := by
  rw [nth, List.getD_eq_getElem?_getD, h]; rfl
theorem nth_mem {l : List Int} {i : Nat} (hi : i < l.length) : nth l i ∈ l := List.mem_of_getElem? (nth_get hi)
theorem nth_map {f : Int → Int} {l : List Int} {i : Nat} (hi : i < l.length) : nth (l.map f) i = f (nth l i) := by
  apply nth_of; rw [List.getElem?_map, nth_get hi]; rfl
theorem mem_nth {l : List Int} {x : Int} (h : x ∈ l) : ∃ i, i < l.length ∧ nth l i = x := by
  obtain ⟨i, hi, rfl⟩ := List.getElem_of_mem h
  exact ⟨i, hi, nth_of (List.getElem?_eq_getElem hi)⟩
theorem ext_nth {a b : List Int} (hl : a.length = b.length) (h : ∀ i, i < a.length → nth a i = nth b i) : a = b := by
  apply List.ext_getElem?
  intro i
  rcases Nat.lt_or_ge i a.length with h1 | h1
  · rw [nth_get h1, nth_get (by omega), h i h1]
  · rw [List.getElem?_eq_none h1, List.getElem?_eq_none (by omega)]
theorem nth_set {l : List Int} {i j : Nat} {x : Int} (h : i < l.length) : nth (l.set i x) j = if i = j then x else nth l j := by
  unfold nth
  rw [List.getD_eq_getElem?_getD, List.getD_eq_getElem?_getD, List.getElem?_set]
  split
  · rename_i h1; subst h1; simp [h]
  · rfl
/-- A part of a row. -/
def sub (l : List Int) (o n : Nat) : List Int := (l.drop o).take n
theorem sub_length {l : List Int} {o n : Nat} (h : o + n ≤ l.length) : (sub l o n).length = n := by simp [sub]; omega
theorem sub_all {l : List Int} {n : Nat} (h : l.length = n) : sub l 0 n = l := by subst h; simp [sub]
theorem nth_sub {l : List Int} {o n i : Nat} (h : i < n) : nth (sub l o n) i = nth l (o + i) := by
  unfold nth sub
  rw [List.getD_eq_getElem?_getD, List.getD_eq_getElem?_getD, List.getElem?_take, if_pos h, List.getElem?_drop]
theorem sub_mem {l : List Int} {o n : Nat} {x : Int} (h : x ∈ sub l o n) : x ∈ l := List.mem_of_mem_drop (List.mem_of_mem_take h)
/-- A row with a part written. -/
def wrt (l : List Int) (o : Nat) (vs : List Int) : List Int := l.take o ++ vs ++ l.drop (o + vs.length)
theorem wrt_length {l vs : List Int} {o : Nat} (h : o + vs.length ≤ l.length) : (wrt l o vs).length = l.length := by simp [wrt]; omega
theorem nth_wrt {l vs : List Int} {o i : Nat} (h : o + vs.length ≤ l.length) : nth (wrt l o vs) i = if o ≤ i ∧ i < o + vs.length then nth vs (i - o) else nth l i := by
  unfold nth wrt
  simp only [List.getD_eq_getElem?_getD]
  have e3 : (List.take o l).length = o := by simp; omega
  congr 1
  rcases Nat.lt_or_ge i o with h1 | h1
  · rw [if_neg (by omega), List.append_assoc, List.getElem?_append_left (by omega), List.getElem?_take, if_pos h1]
  · rw [List.append_assoc, List.getElem?_append_right (by omega), e3]
    rcases Nat.lt_or_ge i (o + vs.length) with h2 | h2
    · rw [if_pos ⟨h1, h2⟩, List.getElem?_append_left (by omega)]
    · rw [if_neg (by omega), List.getElem?_append_right (by omega), List.getElem?_drop, show o + vs.length + (i - o - vs.length) = i by omega]
theorem cs_sub {k : IntKind} {l : List Int} {o n : Nat} : ((cs k l).drop o).take n = cs k (sub l o n) := by simp [cs, sub, List.map_drop, List.map_take]
theorem splice_cs {k : IntKind} {l vs : List Int} {o : Nat} : splice (cs k l) o (cs k vs) = cs k (wrt l o vs) := by simp [splice, cs, wrt, List.map_take, List.map_drop]
theorem stc_cs {k : IntKind} {l vs : List Int} {o : Nat} (h : o + vs.length ≤ l.length) : stc (iv k l) o (cs k vs) = some (iv k (wrt l o vs)) := by
  unfold iv agg stc
  simp only [List.size_toArray, length_cs]
  rw [if_pos (by omega), splice_cs]; rfl
theorem ldc_sub {k : IntKind} {l : List Int} {o n : Nat} (h : o + n ≤ l.length) : ldc n true (iv k l) o = some (iv k (sub l o n)) := by
  unfold ldc
  rw [if_pos (by simp; omega), cellsOf_iv, cs_sub]; rfl
theorem idxV_sub {n sz : Nat} {k k' : IntKind} {l : List Int} {i : Nat} (hi : i < n) (hl : i * sz + sz ≤ l.length) : idxV n sz true (iv k l) (.int k' (i : Int)) = some (iv k (sub l (i * sz) sz)) := by
  show (at' n (.int k' (i : Int))).bind (fun j => if j * sz + sz ≤ (cs k l).toArray.size then ldv true (((cs k l).toArray.toList.drop (j * sz)).take sz) else none) = _
  rw [at_nat hi]
  simp only [Option.bind_some]
  rw [if_pos (by simpa using hl)]
  simp [ldv, iv, cs, sub, List.map_drop, List.map_take]
@[simp] theorem ldH_adr {H : Heap} {n b off ver : Nat} {g : Bool} : ldH H n g (adr b off ver) = (rd H b off ver n).bind (ldv g) := rfl
/-- Reading a part of what can be read. -/
theorem rd_part {H : Heap} {b off ver n : Nat} {vs : List Value} (h : rd H b off ver n = some vs) {o m : Nat} (ho : o + m ≤ n) : rd H b (off + o) ver m = some ((vs.drop o).take m) := by
  unfold rd at h ⊢
  split at h
  · split at h
    · rename_i blk hb hc
      cases h
      rw [if_pos ⟨hc.1, by omega⟩, List.drop_take, List.take_take, List.drop_drop, show min m (n - o) = m by omega]
    · cases h
  · cases h
theorem rd_len {H : Heap} {b off ver n : Nat} {vs : List Value} (h : rd H b off ver n = some vs) : vs.length = n := by
  unfold rd at h
  split at h
  · split at h
    · rename_i blk hb hc
      cases h; simp; omega
    · cases h
  · cases h
theorem rd_cs {H : Heap} {b off ver n : Nat} {k : IntKind} {l : List Int} (h : rd H b off ver n = some (cs k l)) {o m : Nat} (ho : o + m ≤ n) : rd H b (off + o) ver m = some (cs k (sub l o m)) := by
  rw [rd_part h ho, cs_sub]
theorem rd_one {H : Heap} {b off ver n : Nat} {k : IntKind} {l : List Int} (h : rd H b off ver n = some (cs k l)) {o : Nat} (ho : o < n) : rd H b (off + o) ver 1 = some [.int k (nth l o)] := by
  have hl := rd_len h
  rw [length_cs] at hl
  rw [rd_part h (by omega), cs_one (by omega)]
theorem rd_app {H L : Heap} {b off ver n : Nat} {vs : List Value} (h : rd H b off ver n = some vs) : rd (H ++ L) b off ver n = some vs := by
  unfold rd at h ⊢
  split at h
  · rename_i blk hb
    rw [List.getElem?_append_left (List.getElem?_eq_some_iff.1 hb).1, hb]; exact h
  · cases h
theorem wr_at {n0 : Nat} {wb : Bool} {H : Heap} {b off ver : Nat} {k : Blk} {vs : List Value} (h : H[b]? = some k) (hv : ver = k.ver) (hr : k.ro = false) (hm : may n0 wb b vs = true) (hl : off + vs.length ≤ k.cells.length) :
    wr n0 wb H b off ver vs = some (H.set b { k with cells := splice k.cells off vs }) := by
  unfold wr
  rw [h]
  exact if_pos ⟨hv, hr, hm, hl⟩
theorem rd_at {H : Heap} {b off ver n : Nat} {k : Blk} (h : H[b]? = some k) (hv : ver = k.ver) (hl : off + n ≤ k.cells.length) : rd H b off ver n = some ((k.cells.drop off).take n) := by
  unfold rd
  rw [h]
  exact if_pos ⟨hv, hl⟩
theorem may_ints {n0 b : Nat} {k : IntKind} {l : List Int} : may n0 true b (cs k l) = true := by simp [may]
theorem set_set {H : Heap} {b : Nat} {k k' : Blk} : (H.set b k).set b k' = H.set b k' := by simp
theorem get_set {H : Heap} {b : Nat} {k k' : Blk} (h : H[b]? = some k) : (H.set b k')[b]? = some k' := by
  rw [List.getElem?_set, if_pos rfl, if_pos (List.getElem?_eq_some_iff.1 h).1]
@[simp] theorem take_set {H : Heap} {b : Nat} {k : Blk} : (H.set b k).take H.length = H.set b k := List.take_of_length_le (by simp)
theorem set_last {H : Heap} {b b' : Blk} : (H ++ [b]).set H.length b' = H ++ [b'] := by simp
theorem get_last {H : Heap} {b : Blk} : (H ++ [b])[H.length]? = some b := by simp
theorem wr_last {n0 : Nat} {wb : Bool} {H : Heap} {b : Blk} {vs : List Value} (hv : b.ver = 0) (hr : b.ro = false) (hn : n0 ≤ H.length) (hl : vs.length = b.cells.length) :
    wr n0 wb (H ++ [b]) H.length 0 0 vs = some (H ++ [{ b with cells := vs }]) := by
  unfold wr
  rw [get_last]
  simp only [hv, hr, may, hn, decide_true, Bool.true_or, Nat.zero_add, hl, Nat.le_refl, and_self, if_true]
  congr 1
  rw [List.set_append_right _ _ (Nat.le_refl _)]
  simp [splice, hl]
theorem slcP_last {H : Heap} {b : Blk} {n esz : Nat} (hv : b.ver = 0) (he : b.esz = esz) (hl : n * esz ≤ b.cells.length) : slcPV (H ++ [b]) n esz (adr H.length 0 0) = some (slc H.length 0 0 n n) := by
  show (match (H ++ [b])[H.length]? with
    | some k => if 0 = k.ver ∧ k.esz = esz ∧ 0 + n * esz ≤ k.cells.length then some (slc H.length 0 0 n n) else none
    | none => none) = _
  rw [get_last]
  simp [hv, he, hl]
theorem rd_last {H : Heap} {b : Blk} {n : Nat} (hv : b.ver = 0) (hl : b.cells.length = n) : rd (H ++ [b]) H.length 0 0 n = some b.cells := by
  unfold rd
  rw [get_last]
  simp [hv, ← hl]
theorem pack_all {n0 : Nat} {H' : Heap} {vs : List Value} (h : vs.all (old1 n0) = true) {s : List Nat} {acc : List Blk} : pack n0 H' vs s acc = some (vs, acc) := by
  induction vs with
  | nil => rfl
  | cons v vs ih =>
    simp only [List.all_cons, Bool.and_eq_true] at h
    rw [pack_old h.1, ih h.2]; rfl
/-- What leads to nothing new is handed back as it is. -/
theorem finish_if {n0 : Nat} {H' : Heap} {vs : List Value} : finish n0 H' vs = if vs.all (old1 n0) = true then (one vs, H'.take n0) else finish n0 H' vs := by
  split
  · rename_i h; rw [finish_some (pack_all h)]; simp
  · rfl
theorem finish_vs {n0 : Nat} {H' : Heap} {vs : List Value} (h : vs.all (old1 n0) = true) : finish n0 H' vs = (one vs, H'.take n0) := by rw [finish_if, if_pos h]
@[simp] theorem finish_nil {n0 : Nat} {H' : Heap} : finish n0 H' [] = (tup [], H'.take n0) := finish_vs (by simp)
@[simp] theorem finish_i4 {n0 : Nat} {H' : Heap} {k1 k2 k3 k4 : IntKind} {a b c d : Int} : finish n0 H' [.int k1 a, .int k2 b, .int k3 c, .int k4 d] = (tup [.int k1 a, .int k2 b, .int k3 c, .int k4 d], H'.take n0) := finish_vs (by simp)
@[simp] theorem finish_i3 {n0 : Nat} {H' : Heap} {k1 k2 k3 : IntKind} {a b c : Int} : finish n0 H' [.int k1 a, .int k2 b, .int k3 c] = (tup [.int k1 a, .int k2 b, .int k3 c], H'.take n0) := finish_vs (by simp)
@[simp] theorem finish_i2 {n0 : Nat} {H' : Heap} {k1 k2 : IntKind} {a b : Int} : finish n0 H' [.int k1 a, .int k2 b] = (tup [.int k1 a, .int k2 b], H'.take n0) := finish_vs (by simp)
@[simp] theorem finish_vi {n0 : Nat} {H' : Heap} {k1 k2 : IntKind} {l : List Int} {b : Int} : finish n0 H' [iv k1 l, .int k2 b] = (tup [iv k1 l, .int k2 b], H'.take n0) := finish_vs (by simp)
theorem bnd_nat {n h : Nat} {k : IntKind} (hh : h ≤ n) : bnd n (.int k (h : Int)) = some h := by
  show (if 0 ≤ (h : Int) ∧ (h : Int) ≤ (n : Int) then some (h : Int).toNat else none) = _
  rw [if_pos (by omega)]; simp
theorem slcAV_get {H : Heap} {b off ver len cap esz : Nat} {k : Blk} {lo hi : Option Value} (hk : H[b]? = some k) (hv : ver = k.ver) (he : k.esz = esz) :
    slcAV H esz (slc b off ver len cap) lo hi none = (bnds len cap lo hi).map fun (q : Nat × Nat) => slc b (off + q.1 * esz) ver (q.2 - q.1) (cap - q.1) := by
  show (match H[b]? with
    | some k => if ver = k.ver ∧ k.esz = esz then (some cap).bind fun m => (bnds len m lo hi).map fun (q : Nat × Nat) => slc b (off + q.1 * esz) ver (q.2 - q.1) (m - q.1) else none
    | none => none) = _
  rw [hk]
  exact if_pos ⟨hv, he⟩
theorem slcAV_hi {H : Heap} {b off ver len cap esz hi : Nat} {kk : IntKind} {k : Blk} (hk : H[b]? = some k) (hv : ver = k.ver) (he : k.esz = esz) (h : hi ≤ cap) :
    slcAV H esz (slc b off ver len cap) none (some (.int kk (hi : Int))) none = some (slc b off ver hi cap) := by
  rw [slcAV_get hk hv he]
  simp [bnds, bnd_nat h]
theorem slcAV_lohi {H : Heap} {b off ver len cap esz lo hi : Nat} {kk kk' : IntKind} {k : Blk} (hk : H[b]? = some k) (hv : ver = k.ver) (he : k.esz = esz) (h : hi ≤ cap) (h2 : lo ≤ hi) :
    slcAV H esz (slc b off ver len cap) (some (.int kk (lo : Int))) (some (.int kk' (hi : Int))) none = some (slc b (off + lo * esz) ver (hi - lo) (cap - lo)) := by
  rw [slcAV_get hk hv he]
  simp [bnds, bnd_nat h, bnd_nat h2]
@[simp] theorem cellsOf_slc {b off ver n cap : Nat} : cellsOf (slc b off ver n cap) = [slc b off ver n cap] := rfl
@[simp] theorem cellsOf_nil {n cap : Nat} : cellsOf (.slice none n cap) = [.slice none n cap] := rfl
@[simp] theorem cellsOf_adr {b off ver : Nat} : cellsOf (adr b off ver) = [adr b off ver] := rfl
@[simp] theorem has_slc {b off ver n cap : Nat} : has (slc b off ver n cap) = true := Eq.trans rfl rfl
@[simp] theorem has_nil {n cap : Nat} : has (.slice none n cap) = true := Eq.trans rfl rfl
/-- So many steps. -/
def itN0 {α : Type} (f : Nat → α → α) (a : α) : Nat → α
  | 0 => a
  | k + 1 => f k (itN0 f a k)
@[irreducible] def itN {α : Type} (f : Nat → α → α) (a : α) (k : Nat) : α := itN0 f a k
theorem itN_zero {α : Type} {f : Nat → α → α} {a : α} : itN f a 0 = a := by unfold itN; rfl
theorem itN_succ {α : Type} {f : Nat → α → α} {a : α} {k : Nat} : itN f a (k + 1) = f k (itN f a k) := by unfold itN; rfl
/-- H' has what H has, and perhaps more. -/
def Pre (H H' : Heap) : Prop := ∃ L, H' = H ++ L
@[simp] theorem Pre.refl {H : Heap} : Pre H H := ⟨[], by simp⟩
theorem Pre.app {H H' L : Heap} (h : Pre H H') : Pre H (H' ++ L) := by obtain ⟨M, rfl⟩ := h; exact ⟨M ++ L, by simp⟩
theorem Pre.trans {A B C : Heap} (h : Pre A B) (h' : Pre B C) : Pre A C := by obtain ⟨L, rfl⟩ := h; obtain ⟨M, rfl⟩ := h'; exact ⟨L ++ M, by simp⟩
theorem Pre.one {H : Heap} {b : Blk} : Pre H (H ++ [b]) := ⟨_, rfl⟩
theorem Pre.rd {H G : Heap} {b off ver n : Nat} {vs : List Value} (p : Pre H G) (h : rd H b off ver n = some vs) : rd G b off ver n = some vs := by obtain ⟨L, rfl⟩ := p; exact rd_app h
theorem Pre.len {H H' : Heap} (h : Pre H H') : H.length ≤ H'.length := by obtain ⟨M, rfl⟩ := h; simp
theorem Pre.take {H H' : Heap} (h : Pre H H') : H'.take H.length = H := by obtain ⟨M, rfl⟩ := h; simp
/-- The first m numbers of l, then zeros. -/
def cp (l : List Int) (m : Nat) : List Int := l.take m ++ zr (l.length - m) 0
theorem cp_length {l : List Int} {m : Nat} (h : m ≤ l.length) : (cp l m).length = l.length := by simp [cp]; omega
theorem cp_zero {l : List Int} {n : Nat} (h : l.length = n) : cp l 0 = zr n 0 := by simp [cp, h]
theorem cp_all {l : List Int} {n : Nat} (h : l.length = n) : cp l n = l := by subst h; simp [cp, zr]
theorem nth_zr {n i : Nat} : nth (zr n 0) i = 0 := by
  unfold nth zr
  rw [List.getD_eq_getElem?_getD, List.getElem?_replicate]; split <;> rfl
theorem nth_cp {l : List Int} {m i : Nat} (h : m ≤ l.length) : nth (cp l m) i = if i < m then nth l i else 0 := by
  have e1 : (l.take m).length = m := by simp; omega
  unfold nth cp
  rw [List.getD_eq_getElem?_getD, List.getElem?_append]
  split
  · rw [if_pos (by omega), List.getElem?_take, if_pos (by omega), List.getD_eq_getElem?_getD]
  · rw [if_neg (by omega)]
    unfold zr; rw [List.getElem?_replicate]; split <;> rfl
theorem cp_set {l : List Int} {m : Nat} (h : m < l.length) : (cp l m).set m (nth l m) = cp l (m + 1) := by
  have e1 := cp_length (l := l) (m := m) (by omega)
  have e2 := cp_length (l := l) (m := m + 1) (by omega)
  refine ext_nth (by simp [e1, e2]) fun i hi => ?_
  rw [nth_set (by omega), nth_cp (by omega), nth_cp (by omega)]
  by_cases h1 : m = i
  · subst h1; rw [if_pos rfl, if_pos (by omega)]
  · rw [if_neg h1]
    by_cases h2 : i < m
    · rw [if_pos h2, if_pos (by omega)]
    · rw [if_neg h2, if_neg (by omega)]
theorem cp_wrt {l : List Int} {m n : Nat} (h : m + n ≤ l.length) : wrt (cp l m) m (sub l m n) = cp l (m + n) := by
  have e1 := cp_length (l := l) (m := m) (by omega)
  have e2 := cp_length (l := l) (m := m + n) (by omega)
  have e3 := sub_length (l := l) (o := m) (n := n) h
  refine ext_nth (by rw [wrt_length (by omega)]; omega) fun i hi => ?_
  rw [nth_wrt (by omega), nth_cp (by omega), nth_cp (by omega), e3]
  by_cases h1 : m ≤ i ∧ i < m + n
  · rw [if_pos h1, nth_sub (by omega), if_pos h1.2, show m + (i - m) = i by omega]
  · rw [if_neg h1]
    by_cases h2 : i < m
    · rw [if_pos h2, if_pos (by omega)]
    · rw [if_neg h2, if_neg (by omega)]
theorem all_nth {l : List Int} {p : Int → Bool} (h : ∀ j, j < l.length → p (nth l j) = true) : l.all p = true := by
  rw [List.all_eq_true]
  intro x hx
  obtain ⟨j, hj, rfl⟩ := mem_nth hx
  exact h j hj

end Fb
