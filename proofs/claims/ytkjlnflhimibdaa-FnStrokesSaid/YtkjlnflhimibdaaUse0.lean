/- What each function computes. -/
import Derived.Test.YtkjlnflhimibdaaTab
import Derived.Test.YtkjlnflhimibdaaPl
set_option linter.unusedVariables false
set_option linter.unusedSimpArgs false
namespace Fb
open Go
theorem call304 {pu : Bool} {a b c : Int} {H : Heap} : Call tab pu 304 [.int .i64 a, .int .i64 b, .int .i64 c] H = some (.bool (decide (b ≤ a ∧ a ≤ c)), H) := by
  refine Call_wp t304 (.inr rfl) rfl ?_
  by_cases h : b ≤ a <;> simp [c304, k304, h, skip]
theorem call295 {pu : Bool} {a b c : Int} {H : Heap} : Call tab pu 295 [.int .i64 a, .int .i64 b, .int .i64 c] H = some (.bool (decide (b ≤ a ∧ a ≤ c)), H) := by
  refine Call_wp t295 (.inr rfl) rfl ?_
  by_cases h : b ≤ a <;> simp [c295, k295, h, skip]
/-- A number that fits. -/
abbrev i16 (n : Int) : Prop := -32768 ≤ n ∧ n ≤ 32767
def okL (n : Int) : Bool := decide (0 ≤ n ∧ n ≤ 1000)
def okAll (l : List Int) : Bool := l.all okL
theorem upto_succ {p : Nat → Prop} {i : Nat} (h : ∀ j, j < i → p j) (hi : p i) : ∀ j, j < i + 1 → p j := by
  intro j hj
  rcases Nat.lt_or_ge j i with h1 | h1
  · exact h j h1
  · obtain rfl : j = i := by omega
    exact hi
theorem all_false {l : List Int} {p : Int → Bool} {x : Int} (h : x ∈ l) (hp : p x = false) : l.all p = false := by
  rw [List.all_eq_false]; exact ⟨x, h, by simp [hp]⟩
/-- The first m numbers of a row are turned. -/
def part (f : Int → Int) (m : Nat) (l : List Int) : List Int := (l.take m).map f ++ l.drop m
theorem stc_at {k : IntKind} {l l' : List Int} {i : Nat} {n : Int} (h : i < l.length) (hl : l.set i n = l') : stc (iv k l) i [.int k n] = some (iv k l') := by rw [stc_one h rfl, hl]
theorem stc_zr {k : IntKind} {n : Nat} {l : List Int} (h : l.length = n) : stc (iv k (zr n 0)) 0 (cs k l) = some (iv k l) := stc_all (by simp [h])
def bit (x : Nat) : Int := 2 ^ x
theorem bit_ok {x : Nat} (h : x < 12) : 0 < bit x ∧ bit x ≤ 2048 := by
  have : x = 0 ∨ x = 1 ∨ x = 2 ∨ x = 3 ∨ x = 4 ∨ x = 5 ∨ x = 6 ∨ x = 7 ∨ x = 8 ∨ x = 9 ∨ x = 10 ∨ x = 11 := by omega
  rcases this with rfl | rfl | rfl | rfl | rfl | rfl | rfl | rfl | rfl | rfl | rfl | rfl <;> decide
theorem shl_bit {x : Nat} (h : x < 12) : shiftOf .shl .u16 1 (x : Int) = some (.int .u16 (bit x)) := by
  have hb := bit_ok h
  unfold shiftOf
  rw [if_neg (by omega)]
  have e1 : min ((x : Int).toNat) (IntKind.bits .u16) = x := by
    have : IntKind.bits .u16 = 16 := rfl
    omega
  simp only [e1]
  show some (Value.int .u16 (IntKind.wrap .u16 (1 * bit x))) = _
  rw [Int.one_mul, wrapu16 (by omega)]
def putR (row : Int) (x : Nat) : Int := bitsOf .or .u16 row (bit x)
def putF (l : List Int) (x y : Nat) : List Int := l.set y (putR (nth l y) x)
theorem putR_eq {a : Int} {x : Nat} : bitsOf .or .u16 a (bit x) = putR a x := rfl
theorem putF_eq {l : List Int} {x y : Nat} : l.set y (putR (nth l y) x) = putF l x y := rfl
theorem putF_length {l : List Int} {x y : Nat} : (putF l x y).length = l.length := by simp [putF]
theorem call342 {pu : Bool} {H : Heap} {x y : Nat} (hx : x < 12) (hy : y < 12) : Call tab pu 342 [.int .i64 x, .int .i64 y] H = some (.bool true, H) := by
  refine Call_wp t342 (.inr rfl) rfl ?_
  have e1 : (x : Int) ≤ 11 := by omega
  have e2 : (y : Int) ≤ 11 := by omega
  simp [c342, k342, call304, e1, e2]
theorem call346 {pu : Bool} {H : Heap} {l : List Int} {x y : Nat} (hl : l.length = 12) (hx : x < 12) (hy : y < 12) : Call tab pu 346 [iv .u16 l, .int .i64 x, .int .i64 y] H = some (iv .u16 (putF l x y), H) := by
  refine Call_wp t346 (.inr rfl) rfl ?_
  have e9 := stc_at (k := .u16) (l := l) (i := y) (n := putR (nth l y) x) (l' := putF l x y) (by omega) rfl
  have hlp : (putF l x y).length = 12 := by rw [putF_length, hl]
  have hz := stc_zr (k := .u16) hlp
  simp (disch := omega) [c346, k346, zs_cs, agg_cs, hy, hx, hl, shl_bit, putR_eq, e9, hlp, hz]
theorem call305 {H : Heap} {b ver esz : Nat} {l : List Int} (hg : H[b]? = some ⟨cs .u16 l, esz, ver, false⟩) {x y : Nat} (hl : l.length = 12) (hx : x < 12) (hy : y < 12) :
    Call tab false 305 [adr b 0 ver, .int .i64 x, .int .i64 y] H = some (tup [], H.set b ⟨cs .u16 (putF l x y), esz, ver, false⟩) := by
  refine Call_wp t305 (.inl rfl) rfl ?_
  have hr := rd_at (off := 0) (n := 12) (ver := ver) hg rfl (by simp [hl])
  simp [take_all, hl] at hr
  have h1 := rd_one hr hy
  have h2 := fun v => wr_at (n0 := H.length) (wb := true) (off := y) (vs := [.int .u16 v]) (ver := ver) hg rfl rfl (may_ints (l := [v])) (by simp [hl]; omega)
  have h3 : ∀ v, splice (cs .u16 l) y [.int .u16 v] = cs .u16 (l.set y v) := fun v => by rw [splice_one (by simp [hl]; omega)]; simp [cs, List.map_set]
  rw [Nat.zero_add] at h1
  simp (disch := omega) [c305, k305, call342 hx hy, hy, hx, shl_bit, h1, h2, h3, wbOf, take_all, putR_eq, putF_eq, hl]
def whereN (p : Nat → Nat → Bool) (k : Nat) : List Int := itN (fun k f => if p (k % 12) (k / 12) = true then putF f (k % 12) (k / 12) else f) (zr 12 0) k
theorem whereN_zero {p : Nat → Nat → Bool} : whereN p 0 = zr 12 0 := itN_zero
theorem whereN_succ {p : Nat → Nat → Bool} {x y : Nat} (hx : x < 12) : whereN p (y * 12 + x + 1) = if p x y = true then putF (whereN p (y * 12 + x)) x y else whereN p (y * 12 + x) := by
  have := itN_succ (f := fun k f => if p (k % 12) (k / 12) = true then putF f (k % 12) (k / 12) else f) (a := zr 12 0) (k := y * 12 + x)
  simp only [show (y * 12 + x) % 12 = x by omega, show (y * 12 + x) / 12 = y by omega] at this
  exact this
theorem whereN_length {p : Nat → Nat → Bool} {k : Nat} : (whereN p k).length = 12 := by
  induction k with
  | zero => rw [whereN_zero]; simp
  | succ k ih =>
    rw [whereN, itN_succ]
    split
    · rw [putF_length]; exact ih
    · exact ih
theorem call306 {pu : Bool} {H : Heap} {F : Value} {p : Nat → Nat → Bool} (hF : ∀ x y : Nat, x < 12 → y < 12 → callV (Call tab) H F [.int .i64 x, .int .i64 y] = some (.bool (p x y), H)) : Call tab pu 306 [F] H = some (iv .u16 (whereN p 144), H) := by
  refine Call_wp t306 (.inr rfl) rfl ?_
  have hz := stc_zr (k := .u16) (n := 12) (l := zr 12 0) (by simp)
  simp [c306, k306, zs_cs, agg_cs, fill, hz]
  refine WP_forH 7 12 12 rfl (by omega) (fun y e => e 0 = F ∧ e 2 = iv .u16 (zr 12 0) ∧ e 3 = iv .u16 (whereN p (y * 12))) ?_ ?_ (by simp) (by simp [whereN_zero])
  · rintro y e hy hyy e5 h7 ⟨h0, h2, h3⟩
    simp [b306_2, h7, hyy]
    refine WP_forH 10 12 12 rfl (by omega) (fun x e => e 0 = F ∧ e 2 = iv .u16 (zr 12 0) ∧ e 7 = .int .i64 y ∧ e 4 = .int .i64 y ∧ e 3 = iv .u16 (whereN p (y * 12 + x))) ?_ ?_ (by simp) (by simp [h0, h2, h3, h7])
    · rintro x e hx hxx e6 h10 ⟨h0, h2, h7, h4, h3⟩
      have hl := whereN_length (p := p) (k := y * 12 + x)
      have hs := whereN_succ (p := p) (y := y) hx
      have hc := hF x y hx hy
      cases hp : p x y with
      | true =>
        rw [hp] at hs hc
        have hlp : (putF (whereN p (y * 12 + x)) x y).length = 12 := by rw [putF_length, hl]
        have hst : stc (iv .u16 (whereN p (y * 12 + x))) 0 (cs .u16 (putF (whereN p (y * 12 + x)) x y)) = some (iv .u16 (putF (whereN p (y * 12 + x)) x y)) := stc_all (by rw [hlp, hl])
        simp [b306_1, h10, hxx, h0, h2, h7, h4, h3, hc, hl, call346 hl hx hy, hst, hlp, e6, ← Nat.add_assoc, hs]
      | false =>
        rw [hp] at hs hc
        simp [b306_1, h10, hxx, h0, h2, h7, h4, h3, hc, e6, ← Nat.add_assoc, hs]
    · rintro e h10 ⟨h0, h2, h7, h4, h3⟩
      simp [b306_1, h10, h0, h2, h7, h3, e5, Nat.add_mul]
  · rintro e h7 ⟨h0, h2, h3⟩
    have hl := whereN_length (p := p) (k := 144)
    have hz := stc_zr (k := .u16) (n := 12) hl
    simp [b306_2, h7, h2, h3, hl, hz, agg_cs]
def roomN (n : Nat) : Nat := if n % 6 = 5 then 0 else if n % 3 = 0 then 1 else n
/-- The i-th of a row of things. -/
def elem (vs : List Value) (esz i : Nat) : List Value := (vs.drop (i * esz)).take esz
theorem mul_next {i n esz : Nat} (h : i < n) : i * esz + esz ≤ n * esz := by
  have := Nat.mul_le_mul_right esz (show i + 1 ≤ n from h)
  rwa [Nat.succ_mul] at this
/-- A slice that can be read. -/
structure SlR (H : Heap) (x : Value) (esz n : Nat) (vs : List Value) : Prop where
  size : vs.length = n * esz
  is : (x = .slice none 0 0 ∧ n = 0) ∨ ∃ b off ver cap, x = slc b off ver n cap ∧ n ≤ cap ∧ rd H b off ver (n * esz) = some vs ∧ ∃ k, H[b]? = some k ∧ ver = k.ver ∧ k.esz = esz
theorem SlR.lenV {H : Heap} {x : Value} {esz n : Nat} {vs : List Value} (h : SlR H x esz n vs) : lenV x = some (.int .i64 n) := by
  rcases h.is with ⟨rfl, rfl⟩ | ⟨b, off, ver, cap, rfl, _⟩ <;> rfl
theorem SlR.app {H L : Heap} {x : Value} {esz n : Nat} {vs : List Value} (h : SlR H x esz n vs) : SlR (H ++ L) x esz n vs :=
  ⟨h.size, h.is.imp id fun ⟨b, off, ver, cap, h1, h2, h3, k, h4, h5⟩ => ⟨b, off, ver, cap, h1, h2, rd_app h3, k, by rw [List.getElem?_append_left (List.getElem?_eq_some_iff.1 h4).1]; exact h4, h5⟩⟩
theorem SlR.get {H : Heap} {x : Value} {esz n : Nat} {vs : List Value} (h : SlR H x esz n vs) {i : Nat} (hi : i < n) : ∃ a, idxAV esz x (.int .i64 (i : Int)) = some a ∧ ldH H esz true a = some (agg (elem vs esz i)) := by
  rcases h.is with ⟨rfl, rfl⟩ | ⟨b, off, ver, cap, rfl, h2, h3, _⟩
  · omega
  · refine ⟨adr b (off + i * esz) ver, by rw [idxAV_slc, at_nat hi]; rfl, ?_⟩
    rw [ldH_adr, rd_part h3 (mul_next hi)]; rfl
theorem SlR.of {H : Heap} {x : Value} {esz n : Nat} {vs : List Value} (h1 : vs.length = n * esz) (h : (x = .slice none 0 0 ∧ n = 0) ∨ ∃ b cap, x = slc b 0 0 n cap ∧ n ≤ cap ∧ rd H b 0 0 (n * esz) = some vs ∧ ∃ k, H[b]? = some k ∧ 0 = k.ver ∧ k.esz = esz) : SlR H x esz n vs :=
  ⟨h1, h.imp id fun ⟨b, cap, h1, h2, h3⟩ => ⟨b, 0, 0, cap, h1, h2, h3⟩⟩
theorem rep_len {n : Nat} {z : List Value} : (rep n z).length = n * z.length := by
  induction n with
  | zero => simp [rep]
  | succ n ih => simp [rep, ih, Nat.succ_mul]; omega
/-- What leads nowhere. -/
def NoRef (vs : List Value) : Prop := ∀ v ∈ vs, ∀ n, old0 n v = true
theorem NoRef.all {vs : List Value} (h : NoRef vs) {n : Nat} : vs.all (old0 n) = true := List.all_eq_true.2 fun v hv => h v hv n
theorem NoRef.app {vs ws : List Value} (h : NoRef vs) (h' : NoRef ws) : NoRef (vs ++ ws) := fun v hv n => (List.mem_append.1 hv).elim (fun h1 => h v h1 n) (fun h1 => h' v h1 n)
theorem finish_slc {H G : Heap} {b ver len cap : Nat} {k : Blk} (hp : Pre H G) (hb : H.length ≤ b) (hk : G[b]? = some k) (hv : ver = k.ver) (hr : k.ro = false) (ho : k.cells.all (old0 H.length) = true) :
    finish H.length G [slc b 0 ver len cap] = (slc H.length 0 0 len cap, H ++ [{ k with ver := 0 }]) := by
  have hne : old1 H.length (slc b 0 ver len cap) = false := by
    show (true && decide (b < H.length)) = false
    simp; omega
  have : pack H.length G [slc b 0 ver len cap] [] [] = some ([slc H.length 0 0 len cap], [{ k with ver := 0 }]) := by
    rw [pack, if_neg (by rw [hne]; decide)]
    show (match G[b]? with
      | some k => if ([] : List Nat).contains b = false ∧ ver = k.ver ∧ k.ro = false ∧ k.cells.all (old0 H.length) = true then _ else none
      | none => none) = _
    rw [hk]
    simp only []
    rw [if_pos ⟨by simp, hv, hr, ho⟩]
    rfl
  rw [finish_some this, hp.take]; rfl
/-- The cells of a copy: with room behind. -/
def room (vs : List Value) (n : Nat) (fc : List Value) : List Value := vs ++ rep (roomN n) fc
theorem room_length {vs fc : List Value} {n esz : Nat} (hl : vs.length = n * esz) (hf : fc.length = esz) : (room vs n fc).length = (n + roomN n) * esz := by
  simp [room, rep_len, hl, hf, Nat.add_mul]
/-- What a copy looks like. -/
def IsCp (H : Heap) (x : Value) (esz n : Nat) (vs fc : List Value) : Prop := ∃ b ver, x = slc b 0 ver n (n + roomN n) ∧ H[b]? = some ⟨room vs n fc, esz, ver, false⟩
theorem IsCp.sl {H : Heap} {x : Value} {esz n : Nat} {vs fc : List Value} (h : IsCp H x esz n vs fc) (hl : vs.length = n * esz) (hf : fc.length = esz) : SlR H x esz n vs := by
  obtain ⟨b, ver, rfl, h⟩ := h
  refine ⟨hl, .inr ⟨b, 0, ver, _, rfl, by omega, ?_, _, h, rfl, rfl⟩⟩
  have := room_length hl hf
  rw [Nat.add_mul] at this
  rw [rd_at h rfl (by simp; omega)]
  simp [room, hl]
theorem IsCp.app {H L : Heap} {x : Value} {esz n : Nat} {vs fc : List Value} (h : IsCp H x esz n vs fc) : IsCp (H ++ L) x esz n vs fc := by
  obtain ⟨b, ver, rfl, h⟩ := h
  exact ⟨b, ver, rfl, by rw [List.getElem?_append_left (List.getElem?_eq_some_iff.1 h).1]; exact h⟩
theorem IsCp.mk {H : Heap} {esz n : Nat} {vs fc : List Value} : IsCp (H ++ [⟨room vs n fc, esz, 0, false⟩]) (slc H.length 0 0 n (n + roomN n)) esz n vs fc := ⟨_, _, rfl, get_last⟩
theorem SlR.pre {H G : Heap} {x : Value} {esz n : Nat} {vs : List Value} (p : Pre H G) (h : SlR H x esz n vs) : SlR G x esz n vs := by obtain ⟨L, rfl⟩ := p; exact h.app
theorem IsCp.pre {H G : Heap} {x : Value} {esz n : Nat} {vs fc : List Value} (p : Pre H G) (h : IsCp H x esz n vs fc) : IsCp G x esz n vs fc := by obtain ⟨L, rfl⟩ := p; exact h.app
/-- Things of a kind, one behind the other. -/
def rowsC {α : Type} (f : α → List Value) : List α → List Value
  | [] => []
  | a :: r => f a ++ rowsC f r
def at0 {α : Type} [Inhabited α] (l : List α) (i : Nat) : α := l.getD i default
theorem at0_mem {α : Type} [Inhabited α] {l : List α} {i : Nat} (h : i < l.length) : at0 l i ∈ l := by
  rw [at0, List.getD_eq_getElem?_getD, List.getElem?_eq_getElem h]; exact List.getElem_mem h
theorem at0_get {α : Type} [Inhabited α] {l : List α} {i : Nat} (h : i < l.length) : l[i]? = some (at0 l i) := by
  rw [at0, List.getD_eq_getElem?_getD, List.getElem?_eq_getElem h]; rfl
theorem rows_length {α : Type} {f : α → List Value} {esz : Nat} {l : List α} (hf : ∀ a ∈ l, (f a).length = esz) : (rowsC f l).length = l.length * esz := by
  induction l with
  | nil => simp [rowsC]
  | cons a r ih =>
    have h1 := ih fun b hb => hf b (by simp [hb])
    have h2 := hf a (by simp)
    simp [rowsC, h1, h2, Nat.succ_mul]; omega
theorem rows_elem {α : Type} [Inhabited α] {f : α → List Value} {esz : Nat} {l : List α} (hf : ∀ a ∈ l, (f a).length = esz) {i : Nat} (hi : i < l.length) : elem (rowsC f l) esz i = f (at0 l i) := by
  induction l generalizing i with
  | nil => simp at hi
  | cons a r ih =>
    have h2 := hf a (by simp)
    cases i with
    | zero => simp [elem, rowsC, at0, ← h2]
    | succ i =>
      have h1 := ih (fun b hb => hf b (by simp [hb])) (i := i) (by simpa using hi)
      rw [show at0 (a :: r) (i + 1) = at0 r i by simp [at0], ← h1]
      unfold elem
      rw [Nat.succ_mul, Nat.add_comm, ← List.drop_drop, rowsC, ← h2, List.drop_left]
theorem rows_flat {α : Type} {f : α → List Value} {l : List α} (hf : ∀ a ∈ l, NoRef (f a)) : NoRef (rowsC f l) := by
  induction l with
  | nil => intro v hv; simp [rowsC] at hv
  | cons a r ih => exact (hf a (by simp)).app (ih fun b hb => hf b (by simp [hb]))
theorem flat2 {k k' : IntKind} {a b : Int} : NoRef [.int k a, .int k' b] := by
  intro v hv n
  simp only [List.mem_cons, List.not_mem_nil, or_false] at hv
  rcases hv with rfl | rfl <;> exact old0_int
theorem SlR.lo {H : Heap} {x : Value} {esz n : Nat} {vs : List Value} (h : SlR H x esz n vs) {lo : Nat} (h2 : lo ≤ n) {k' : IntKind} :
    ∃ y, slcAV H esz x (some (.int k' (lo : Int))) none none = some y ∧ SlR H y esz (n - lo) (vs.drop (lo * esz)) := by
  have hsz := h.size
  have e1 : lo * esz ≤ n * esz := Nat.mul_le_mul_right _ h2
  have hlen : (vs.drop (lo * esz)).length = (n - lo) * esz := by rw [Nat.sub_mul]; simp; omega
  rcases h.is with ⟨rfl, rfl⟩ | ⟨b, off, ver, cap, rfl, g2, g3, kk, g4, g5, g6⟩
  · obtain rfl : lo = 0 := by omega
    exact ⟨.slice none 0 0, by simp [slcAV, mxOf, bnds, bnd], hlen, .inl ⟨rfl, rfl⟩⟩
  · refine ⟨slc b (off + lo * esz) ver (n - lo) (cap - lo), ?_, hlen, .inr ⟨b, _, ver, _, rfl, by omega, ?_, kk, g4, g5, g6⟩⟩
    · rw [slcAV_get g4 g5 g6]; simp [bnds, bnd_nat h2]
    · have e2 : (n - lo) * esz + lo * esz = n * esz := by rw [← Nat.add_mul]; congr 1; omega
      rw [rd_part g3 (by omega), List.take_of_length_le (by omega)]
abbrev i8 (n : Int) : Prop := -128 ≤ n ∧ n ≤ 127
/-- A move. -/
def mvC (m : Int × Int) : List Value := [.int .i8 m.1, .int .i8 m.2]
def mvsC (l : List (Int × Int)) : List Value := rowsC mvC l
def mv (l : List (Int × Int)) (i : Nat) : Int × Int := at0 l i
theorem mvsC_length {l : List (Int × Int)} : (mvsC l).length = l.length * 2 := rows_length (f := mvC) (esz := 2) fun _ _ => rfl
theorem mvsC_elem {l : List (Int × Int)} {i : Nat} (hi : i < l.length) : elem (mvsC l) 2 i = mvC (mv l i) := rows_elem (f := mvC) (esz := 2) (fun _ _ => rfl) hi
theorem mvsC_flat {l : List (Int × Int)} : NoRef (mvsC l) := rows_flat fun _ _ => flat2
theorem stc2c {v w u x : Value} : stc (agg [v, w]) 0 [u, x] = some (agg [u, x]) := by simp [stc, agg, splice]
theorem ldc2 {v w : Value} : ldc 1 false (agg [v, w]) 0 = some v := by simp [ldc]
theorem ldc2b {v w : Value} : ldc 1 false (agg [v, w]) 1 = some w := by simp [ldc]
theorem SlR.get1 {H : Heap} {x : Value} {esz n : Nat} {vs : List Value} (h : SlR H x esz n vs) {i : Nat} (hi : i < n) : ∃ b off ver, idxAV esz x (.int .i64 (i : Int)) = some (adr b off ver) ∧ rd H b off ver esz = some (elem vs esz i) := by
  rcases h.is with ⟨rfl, rfl⟩ | ⟨b, off, ver, cap, rfl, h2, h3, _⟩
  · omega
  · exact ⟨b, _, ver, by rw [idxAV_slc, at_nat hi]; rfl, rd_part h3 (mul_next hi)⟩
def chC (m : Int × Int) : List Value := [.int .i8 m.1, .int .u16 m.2]
def chsC (l : List (Int × Int)) : List Value := rowsC chC l
theorem chsC_length {l : List (Int × Int)} : (chsC l).length = l.length * 2 := rows_length (f := chC) (esz := 2) fun _ _ => rfl
def chF : List Value := [.int .i8 (-101), .int .u16 60201]
theorem old0_slc {n0 b off ver len cap : Nat} : old0 n0 (slc b off ver len cap) = decide (b < n0) := Bool.true_and _
def ixFB1 (esz : Nat) (g : Bool) : Cd :=
  (.seq
   (.reg [9] [
     ⟨none, (some 9), .bin .lss (.t 8) (.t 7), []⟩])
   (.seq
    (.cond (.t 9)
     .skip
     (.exit 0))
    (.seq
     (.block 1
      (.seq
       (.reg [5] [
         ⟨none, (some 10), .mov (.t 8), []⟩,
         ⟨none, (some 5), .mov (.t 10), []⟩])
       (.seq
        (.reg [16] [
          ⟨none, (some 11), .mov (.t 1), []⟩,
          ⟨none, (some 12), .mov (.t 0), []⟩,
          ⟨none, (some 13), .mov (.t 5), []⟩,
          ⟨none, (some 14), .idxA esz (.t 12) (.t 13), []⟩,
          ⟨none, (some 15), .ld esz g (.t 14), []⟩,
          ⟨none, (some 16), .callv (.t 11) [.t 15], []⟩])
        (.cond (.t 16)
         (.seq
          (.reg [4] [
            ⟨none, (some 17), .mov (.t 5), []⟩,
            ⟨none, (some 4), .mov (.t 17), []⟩])
          .ret)
         .skip))))
     (.reg [8] [
       ⟨none, (some 18), .bin .add (.t 8) (.c (.int .i64 1)), []⟩,
       ⟨none, (some 8), .mov (.t 18), []⟩]))))
def ixFK (esz : Nat) (g : Bool) : Cd :=
  (.seq
   (.reg [4] [
     ⟨none, (some 4), .mov (.c (.int .i64 0)), []⟩])
   (.seq
    (.seq
     (.reg [7, 8] [
       ⟨none, (some 6), .mov (.t 0), []⟩,
       ⟨none, (some 7), .len (.t 6), []⟩,
       ⟨none, (some 8), .mov (.c (.int .i64 0)), []⟩])
     (.block 0
      (.loop (ixFB1 esz g))))
    (.seq
     (.reg [4] [
       ⟨none, (some 4), .mov (.c (.int .i64 (-1))), []⟩])
     .ret)))
def ixFC (esz : Nat) (g : Bool) : Fn := { np := 2, nt := 19, kind := .pure, res := [.t 4], body := ixFK esz g }
def ctFK (ix : Nat) : Cd :=
  (.seq
   (.reg [4] [
     ⟨none, (some 4), .mov (.c (.bool false)), []⟩])
   (.seq
    (.reg [4] [
      ⟨none, (some 5), .mov (.t 0), []⟩,
      ⟨none, (some 6), .mov (.t 1), []⟩,
      ⟨none, (some 7), .call true ix [.t 5, .t 6], []⟩,
      ⟨none, (some 8), .bin .geq (.t 7) (.c (.int .i64 0)), []⟩,
      ⟨none, (some 4), .mov (.t 8), []⟩])
    .ret))
def ctFC (ix : Nat) : Fn := { np := 2, nt := 9, kind := .pure, res := [.t 4], body := ctFK ix }
/-- The first place with p below n, or -1. -/
def findN (p : Nat → Bool) (n : Nat) : Int := match (List.range n).find? p with
  | some i => i
  | none => -1
def anyN (p : Nat → Bool) (n : Nat) : Bool := (List.range n).any p
theorem findN_some {p : Nat → Bool} {n i : Nat} (hi : i < n) (hn : ∀ j, j < i → p j = false) (hp : p i = true) : findN p n = i := by
  unfold findN
  have : (List.range n).find? p = some i := by
    rw [List.find?_range_eq_some]
    exact ⟨hp, by simpa using hi, fun j hj => by simpa using hn j hj⟩
  rw [this]
theorem findN_none {p : Nat → Bool} {n : Nat} (hn : ∀ j, j < n → p j = false) : findN p n = -1 := by
  unfold findN
  have : (List.range n).find? p = none := by
    rw [List.find?_eq_none]
    intro x hx
    simp [hn x (by simpa using hx)]
  rw [this]
theorem findN_ge {p : Nat → Bool} {n : Nat} : decide (0 ≤ findN p n) = anyN p n := by
  unfold findN anyN
  cases h : (List.range n).find? p with
  | none =>
    rw [List.find?_eq_none] at h
    have : (List.range n).any p = false := by rw [List.any_eq_false]; exact h
    rw [this]; decide
  | some i =>
    have h1 := List.find?_some h
    have : (List.range n).any p = true := List.any_eq_true.2 ⟨i, List.mem_of_find?_eq_some h, h1⟩
    rw [this]; simp
theorem ixF_call {f esz : Nat} {g : Bool} (hf : tab f = some (.fn (ixFC esz g))) {pu : Bool} {H : Heap} {x F : Value} {n : Nat} {vs : List Value} (hx : SlR H x esz n vs) (hn : n ≤ 9223372036854775806) {p : Nat → Bool}
    (hF : ∀ i, i < n → ∃ v, ldv g (elem vs esz i) = some v ∧ callV (Call tab) H F [v] = some (.bool (p i), H)) : Call tab pu f [x, F] H = some (.int .i64 (findN p n), H) := by
  refine Call_wp hf (.inr rfl) rfl ?_
  simp [ixFC, ixFK, hx.lenV]
  refine WP_forH 8 n n rfl (by omega) (fun i e => e 0 = x ∧ e 1 = F ∧ e 7 = .int .i64 n ∧ ∀ j, j < i → p j = false) ?_ ?_ (by simp) (by simp)
  · rintro i e hi hlt e4 h8 ⟨h0, h1, h7, hnp⟩
    obtain ⟨b, off, ver, ha, hr⟩ := hx.get1 hi
    obtain ⟨v, hv, hc⟩ := hF i hi
    cases hp : p i with
    | true =>
      rw [hp] at hc
      simp [ixFB1, h8, h0, h1, h7, hlt, ha, hr, hv, hc, findN_some hi hnp hp]
    | false =>
      rw [hp] at hc
      simp [ixFB1, h8, h0, h1, h7, hlt, ha, hr, hv, hc, e4]
      exact upto_succ hnp hp
  · rintro e h8 ⟨h0, h1, h7, hnp⟩
    simp [ixFB1, h8, h7, findN_none hnp]
theorem ctF_call {f ix esz : Nat} {g : Bool} (hf : tab f = some (.fn (ctFC ix))) (hf2 : tab ix = some (.fn (ixFC esz g))) {pu : Bool} {H : Heap} {x F : Value} {n : Nat} {vs : List Value} (hx : SlR H x esz n vs) (hn : n ≤ 9223372036854775806) {p : Nat → Bool}
    (hF : ∀ i, i < n → ∃ v, ldv g (elem vs esz i) = some v ∧ callV (Call tab) H F [v] = some (.bool (p i), H)) : Call tab pu f [x, F] H = some (.bool (anyN p n), H) := by
  refine Call_wp hf (.inr rfl) rfl ?_
  simp [ctFC, ctFK, ixF_call hf2 hx hn hF, findN_ge]
theorem s547 : tab 547 = some (.fn (ixFC 1 false)) := t547
theorem s445 : tab 445 = some (.fn (ctFC 547)) := t445
abbrev u16' (n : Int) : Prop := 0 ≤ n ∧ n ≤ 65535
/-- A frame's form. -/
structure FrW (f : List Int) : Prop where
  len : f.length = 12
  ok : ∀ n ∈ f, u16' n
theorem FrW.nth {f : List Int} (h : FrW f) {i : Nat} (hi : i < 12) : u16' (nth f i) := h.ok _ (nth_mem (by rw [h.len]; exact hi))
def okRow (n : Int) : Bool := decide (n ≤ 4095)
def okF (f : List Int) : Bool := f.all okRow
theorem okF_true {f : List Int} (hl : f.length = 12) (h : ∀ i, i < 12 → okRow (nth f i) = true) : okF f = true := all_nth fun j hj => h j (by omega)
theorem okF_false {f : List Int} (hl : f.length = 12) {i : Nat} (hi : i < 12) (h : okRow (nth f i) = false) : okF f = false := all_false (nth_mem (by omega)) h
theorem call359 {pu : Bool} {H : Heap} {b off ver : Nat} {f : List Int} (hl : f.length = 12) (hr : rd H b off ver 12 = some (cs .u16 f)) : Call tab pu 359 [adr b off ver] H = some (.bool (okF f), H) := by
  refine Call_wp t359 (.inr rfl) rfl ?_
  simp [c359, k359]
  refine WP_forH 3 12 12 rfl (by omega) (fun i e => e 0 = adr b off ver ∧ ∀ j, j < i → okRow (nth f j) = true) ?_ ?_ (by simp) (by simp)
  · rintro i e hi hlt e4 h3 ⟨h0, hn⟩
    have d1 := rd_one hr hi
    cases hk : okRow (nth f i) with
    | true =>
      have : ¬ (4095 < nth f i) := by simp [okRow] at hk; omega
      simp [b359_1, h3, h0, hlt, hi, d1, this, e4]
      exact upto_succ hn hk
    | false =>
      have : 4095 < nth f i := by simp [okRow] at hk; omega
      simp [b359_1, h3, h0, hlt, hi, d1, this, okF_false hl hi hk]
  · rintro e h3 ⟨h0, hn⟩
    simp [b359_1, h3, okF_true hl hn]
theorem call446 {pu : Bool} {H : Heap} {n : Int} : Call tab pu 446 [.int .u16 n] H = some (.bool (!okRow n), H) := by
  refine Call_wp t446 (.inr rfl) rfl ?_
  have : decide (4095 < n) = !okRow n := by unfold okRow; by_cases h : n ≤ 4095 <;> simp [h] <;> omega
  simp [c446, k446, this]
theorem anyN_okF {f : List Int} (hl : f.length = 12) : anyN (fun i => !okRow (nth f i)) 12 = !okF f := by
  cases hk : okF f with
  | true =>
    have : anyN (fun i => !okRow (nth f i)) 12 = false := by
      unfold anyN
      rw [List.any_eq_false]
      intro i hi
      have := List.all_eq_true.1 (show f.all okRow = true from hk) _ (nth_mem (i := i) (by rw [hl]; simpa using hi))
      simp [this]
    rw [this]; rfl
  | false =>
    obtain ⟨x, hx, hp⟩ := List.all_eq_false.1 (show f.all okRow = false from hk)
    obtain ⟨i, hi, rfl⟩ := mem_nth hx
    have : anyN (fun i => !okRow (nth f i)) 12 = true := List.any_eq_true.2 ⟨i, by simp; omega, by simpa using hp⟩
    rw [this]; rfl
theorem call234 {pu : Bool} {H : Heap} {f : List Int} (hl : f.length = 12) : Call tab pu 234 [iv .u16 f] H = some (.bool (okF f), H) := by
  refine Call_wp t234 (.inr rfl) rfl ?_
  obtain ⟨G, hG⟩ : ∃ G, G = H ++ [⟨cs .u16 f, 1, 0, false⟩] := ⟨_, rfl⟩
  have hT : G.take H.length = H := by rw [hG]; simp
  have hs : slcPV G 12 1 (adr H.length 0 0) = some (slc H.length 0 0 12 12) := by rw [hG]; exact slcP_last rfl rfl (by simp [hl])
  have hr : SlR G (slc H.length 0 0 12 12) 1 12 (cs .u16 f) := ⟨by simp [hl], .inr ⟨_, 0, 0, 12, rfl, Nat.le_refl _, by rw [hG]; exact rd_last rfl (by simp [hl]), _, by rw [hG]; exact get_last, rfl, rfl⟩⟩
  have hc := ctF_call s445 s547 (pu := true) (F := .func (.func 446) #[] #[]) (p := fun i => !okRow (nth f i)) hr (by omega) fun i hi => ⟨.int .u16 (nth f i), by
    unfold elem; rw [Nat.mul_one, cs_one (by omega)]; rfl, by simp [call446]⟩
  rw [anyN_okF hl] at hc
  simp [c234, k234, hl, ← hG, hT, hs, hc]
def frC (f : List Int) : List Value := cs .u16 f
def bkC (b : List (List Int)) : List Value := rowsC frC b
/-- A book's form. -/
def BkW (b : List (List Int)) : Prop := ∀ f ∈ b, FrW f
def fr (b : List (List Int)) (i : Nat) : List Int := at0 b i
theorem BkW.fr {b : List (List Int)} (h : BkW b) {i : Nat} (hi : i < b.length) : FrW (fr b i) := h _ (at0_mem hi)
theorem bkC_elem {b : List (List Int)} (h : BkW b) {i : Nat} (hi : i < b.length) : elem (bkC b) 12 i = cs .u16 (fr b i) := rows_elem (f := frC) (esz := 12) (fun f hf => by simp [frC, (h f hf).len]) hi
/-- A book in memory. -/
abbrev Bk (H : Heap) (x : Value) (b : List (List Int)) : Prop := SlR H x 12 b.length (bkC b)
theorem Bk.get {H : Heap} {x : Value} {b : List (List Int)} (h : Bk H x b) (hw : BkW b) {i : Nat} (hi : i < b.length) : ∃ q off ver, idxAV 12 x (.int .i64 (i : Int)) = some (adr q off ver) ∧ rd H q off ver 12 = some (cs .u16 (fr b i)) := by
  obtain ⟨q, off, ver, h1, h2⟩ := SlR.get1 h hi
  rw [bkC_elem hw hi] at h2
  exact ⟨q, off, ver, h1, h2⟩
def okFs (b : List (List Int)) : Bool := b.all okF
def okB (b : List (List Int)) : Bool := okFs b && decide (b.length ≤ 40)
/-- A row told place by place. -/
def tabN (n : Nat) (g : Nat → Int) : List Int := (List.range n).map g
theorem nth_tabN {n : Nat} {g : Nat → Int} {i : Nat} (h : i < n) : nth (tabN n g) i = g i := by
  apply nth_of; simp [tabN, h]
def orI (a b : Int) : Int := bitsOf .or .u16 a b
def bkF : List Int := [60201, 0, 0, 0, 0, 0, 0, 0, 0, 0, 0, 0]
theorem zz : stc (iv .u16 (zr 12 0)) 0 (cs .u16 (zr 12 0)) = some (iv .u16 (zr 12 0)) := stc_zr (by simp)
theorem eqCells_cs {k : IntKind} {n : Nat} {f g : List Int} (hf : f.length = n) (hg : g.length = n) : eqCells (rb n (some k)) (cs k f) (cs k g) = some (decide (f = g)) := by
  induction n generalizing f g with
  | zero =>
    obtain rfl := List.length_eq_zero_iff.1 hf
    obtain rfl := List.length_eq_zero_iff.1 hg
    simp [rb, cs, eqCells]
  | succ n ih =>
    obtain _ | ⟨a, f⟩ := f
    · cases hf
    obtain _ | ⟨b, g⟩ := g
    · cases hg
    have := ih (f := f) (g := g) (by simpa using hf) (by simpa using hg)
    simp only [rb, cs, List.replicate_succ, List.map_cons, eqCells, and_self, if_true] at this ⊢
    by_cases h : a = b
    · rw [if_pos h, this]; simp [h]
    · rw [if_neg h]; simp [h]
theorem eqV_iv {k : IntKind} {n : Nat} {f g : List Int} (hf : f.length = n) (hg : g.length = n) : eqV (.a (rb n (some k))) (iv k f) (iv k g) = some (decide (f = g)) := by
  show (if (cs k f).toArray.size = (rb n (some k)).length ∧ (cs k g).toArray.size = (rb n (some k)).length then eqCells (rb n (some k)) (cs k f).toArray.toList (cs k g).toArray.toList else none) = _
  rw [if_pos ⟨by simp [rb, hf], by simp [rb, hg]⟩]
  exact eqCells_cs hf hg
def allN (p : Nat → Bool) (n : Nat) : Bool := (List.range n).all p
theorem allN_get {p : Nat → Bool} {n : Nat} (h : allN p n = true) {i : Nat} (hi : i < n) : p i = true := List.all_eq_true.1 h i (by simpa using hi)
theorem elem_take {vs : List Value} {esz hi i : Nat} (h : i < hi) : elem (vs.take (hi * esz)) esz i = elem vs esz i := by
  have := mul_next (esz := esz) h
  unfold elem
  rw [List.drop_take, List.take_take, Nat.min_eq_left (by omega)]
/-- A stroke: where, how long, down or not. -/
structure Sk where
  x : Int
  y : Int
  n : Int
  d : Bool
instance : Inhabited Sk := ⟨⟨0, 0, 0, false⟩⟩
def skC (s : Sk) : List Value := [.int .i8 s.x, .int .i8 s.y, .int .i8 s.n, .bool s.d]
structure SkW (s : Sk) : Prop where
  x : i8 s.x
  y : i8 s.y
  n : i8 s.n
def sksC (l : List Sk) : List Value := rowsC skC l
theorem sksC_length {l : List Sk} : (sksC l).length = l.length * 4 := rows_length (f := skC) (esz := 4) fun _ _ => rfl
theorem sksC_elem {l : List Sk} {i : Nat} (hi : i < l.length) : elem (sksC l) 4 i = skC (at0 l i) := rows_elem (f := skC) (esz := 4) (fun _ _ => rfl) hi
theorem skC_flat {s : Sk} : NoRef (skC s) := by
  intro v hv n
  simp only [skC, List.mem_cons, List.not_mem_nil, or_false] at hv
  rcases hv with rfl | rfl | rfl | rfl
  · exact old0_int
  · exact old0_int
  · exact old0_int
  · exact old0_bool
theorem sksC_flat {l : List Sk} : NoRef (sksC l) := rows_flat fun _ _ => skC_flat
theorem ldc4a {a b c d : Value} : ldc 1 false (agg [a, b, c, d]) 0 = some a := by simp [ldc]
theorem ldc4b {a b c d : Value} : ldc 1 false (agg [a, b, c, d]) 1 = some b := by simp [ldc]
theorem ldc4c {a b c d : Value} : ldc 1 false (agg [a, b, c, d]) 2 = some c := by simp [ldc]
theorem ldc4d {a b c d : Value} : ldc 1 false (agg [a, b, c, d]) 3 = some d := by simp [ldc]
theorem stc4 {a b c d u v w y : Value} : stc (agg [a, b, c, d]) 0 [u, v, w, y] = some (agg [u, v, w, y]) := by simp [stc, agg, splice]
/- Drawing. -/
def pX (s : Sk) (k : Nat) : Int := if s.d = true then s.x else s.x + k
def pY (s : Sk) (k : Nat) : Int := if s.d = true then s.y + k else s.y
def okP (a b : Int) : Bool := decide (0 ≤ a ∧ a ≤ 11) && decide (0 ≤ b ∧ b ≤ 11)
def skN (s : Sk) (f : List Int) (k : Nat) : Option (List Int) := itN (fun k o => o.bind fun f => if okP (pX s k) (pY s k) = true then some (putF f (pX s k).toNat (pY s k).toNat) else none) (some f) k
theorem skN_zero {s : Sk} {f : List Int} : skN s f 0 = some f := itN_zero
theorem skN_succ {s : Sk} {f : List Int} {k : Nat} : skN s f (k + 1) = (skN s f k).bind fun f => if okP (pX s k) (pY s k) = true then some (putF f (pX s k).toNat (pY s k).toNat) else none := itN_succ
theorem skN_none {s : Sk} {f : List Int} {k m : Nat} (h : skN s f k = none) (hm : k ≤ m) : skN s f m = none := by
  obtain ⟨d, rfl⟩ := Nat.le.dest hm
  clear hm
  induction d with
  | zero => exact h
  | succ d ih => rw [← Nat.add_assoc, skN_succ, ih]; rfl
theorem skN_length {s : Sk} {f g : List Int} {k : Nat} (hf : f.length = 12) (h : skN s f k = some g) : g.length = 12 := by
  induction k generalizing g with
  | zero => rw [skN_zero] at h; cases h; exact hf
  | succ k ih =>
    rw [skN_succ] at h
    obtain ⟨g', h1, h2⟩ := Option.bind_eq_some_iff.1 h
    split at h2
    · cases h2; rw [putF_length]; exact ih h1
    · cases h2
def inkN (l : List Sk) (k : Nat) : Option (List Int) := itN (fun k o => o.bind fun f => if (at0 l k).n < 1 then none else skN (at0 l k) f (at0 l k).n.toNat) (some (zr 12 0)) k
theorem inkN_zero {l : List Sk} : inkN l 0 = some (zr 12 0) := itN_zero
theorem inkN_succ {l : List Sk} {k : Nat} : inkN l (k + 1) = (inkN l k).bind fun f => if (at0 l k).n < 1 then none else skN (at0 l k) f (at0 l k).n.toNat := itN_succ
theorem inkN_none {l : List Sk} {k m : Nat} (h : inkN l k = none) (hm : k ≤ m) : inkN l m = none := by
  obtain ⟨d, rfl⟩ := Nat.le.dest hm
  clear hm
  induction d with
  | zero => exact h
  | succ d ih => rw [← Nat.add_assoc, inkN_succ, ih]; rfl
theorem inkN_length {l : List Sk} : ∀ {k : Nat} {g : List Int}, inkN l k = some g → g.length = 12
  | 0, g, h => by rw [inkN_zero] at h; cases h; simp
  | k + 1, g, h => by
    rw [inkN_succ] at h
    obtain ⟨g', h1, h2⟩ := Option.bind_eq_some_iff.1 h
    split at h2
    · cases h2
    · exact skN_length (inkN_length h1) h2
def inkR (l : List Sk) : Value := if 80 < l.length then tup [iv .u16 (zr 12 0), .int .i64 2] else match inkN l l.length with
  | some g => tup [iv .u16 g, .int .i64 0]
  | none => tup [iv .u16 (zr 12 0), .int .i64 2]
theorem inkR_none {l : List Sk} (h0 : ¬ 80 < l.length) {k : Nat} (h : inkN l k = none) (hk : k ≤ l.length) : inkR l = tup [iv .u16 (zr 12 0), .int .i64 2] := by
  rw [inkR, if_neg h0, inkN_none h hk]
theorem inkR_some {l : List Sk} (h0 : ¬ 80 < l.length) {g : List Int} (h : inkN l l.length = some g) : inkR l = tup [iv .u16 g, .int .i64 0] := by
  rw [inkR, if_neg h0, h]
theorem placeS {pu : Bool} {H : Heap} {a b : Int} : Call tab pu 342 [.int .i64 a, .int .i64 b] H = some (.bool (okP a b), H) := by
  refine Call_wp t342 (.inr rfl) rfl ?_
  have e1 : ∀ x : Int, (decide (0 ≤ x) && decide (x ≤ 11)) = decide (0 ≤ x ∧ x ≤ 11) := fun x => by simp
  cases h : decide (0 ≤ a ∧ a ≤ 11) <;> simp [c342, k342, call304, e1, h, okP, skip, -Bool.decide_and, -decide_eq_true_eq, -decide_eq_false_iff_not]
theorem placeI {pu : Bool} {H : Heap} {a b : Int} : Call tab pu 345 [.int .i64 a, .int .i64 b] H = some (.bool (okP a b), H) := by
  refine Call_wp t345 (.inr rfl) rfl ?_
  have e1 : ∀ x : Int, (decide (0 ≤ x) && decide (x ≤ 11)) = decide (0 ≤ x ∧ x ≤ 11) := fun x => by simp
  cases h : decide (0 ≤ a ∧ a ≤ 11) <;> simp [c345, k345, call295, e1, h, okP, skip, -Bool.decide_and, -decide_eq_true_eq, -decide_eq_false_iff_not]
theorem okP_get {a b : Int} (h : okP a b = true) : ∃ x y : Nat, a = x ∧ b = y ∧ x < 12 ∧ y < 12 := by
  simp [okP] at h
  exact ⟨a.toNat, b.toNat, by omega, by omega, by omega, by omega⟩
theorem call115 {pu : Bool} {H : Heap} {x : Value} {l : List Sk} (hs : SlR H x 4 l.length (sksC l)) (hn : l.length ≤ 1000000) (hw : ∀ s ∈ l, SkW s) : Call tab pu 115 [x] H = some (inkR l, H) := by
  refine Call_wp t115 (.inr rfl) rfl ?_
  by_cases h80 : 80 < l.length
  · have : (80 : Int) < (l.length : Int) := by omega
    simp [c115, k115, hs.lenV, this, zs_cs, agg_cs, fill, zz, inkR, h80]
  · have : ¬ ((80 : Int) < (l.length : Int)) := by omega
    simp [c115, k115, hs.lenV, this, zs_cs, agg_cs, fill, zz]
    refine WP_forH 17 l.length _ rfl (by omega) (fun i e => e 2 = iv .u16 (zr 12 0) ∧ e 15 = x ∧ e 16 = .int .i64 l.length ∧ ∃ g, inkN l i = some g ∧ e 4 = iv .u16 g) ?_ ?_ (by simp) (by simp; exact ⟨_, inkN_zero, rfl⟩)
    · rintro i e hi hlt e4 h17 ⟨h2, h15, h16, g, hg, h4⟩
      obtain ⟨q, off, ver, ha, hr⟩ := hs.get1 hi
      rw [sksC_elem hi] at hr
      obtain ⟨s, hsk⟩ : ∃ s, s = at0 l i := ⟨_, rfl⟩
      have hsw : SkW s := hsk ▸ hw _ (at0_mem hi)
      obtain ⟨b1, b2, b3⟩ := hsw
      rw [← hsk] at hr
      have hsucc := inkN_succ (l := l) (k := i)
      rw [hg, ← hsk] at hsucc
      simp only [Option.bind_some] at hsucc
      have hgl := inkN_length hg
      by_cases h1 : s.n < 1
      · rw [if_pos h1] at hsucc
        simp [b115_2, h17, h2, h15, h16, h4, hlt, ha, hr, skC, stc4, ldc4c, h1, zs_cs, agg_cs, fill, zz, inkR_none h80 hsucc (by omega)]
      · rw [if_neg h1] at hsucc
        simp (disch := omega) [b115_2, h17, h2, h15, h16, h4, hlt, ha, hr, skC, stc4, ldc4c, h1]
        refine WP_forH 28 s.n.toNat s.n (by omega) (by omega) (fun k e => e 2 = iv .u16 (zr 12 0) ∧ e 6 = agg (skC s) ∧ e 15 = x ∧ e 16 = .int .i64 l.length ∧ e 17 = .int .i64 i ∧ e 27 = .int .i64 s.n ∧ ∃ f, skN s g k = some f ∧ e 4 = iv .u16 f) ?_ ?_ (by simp) (by simp [h2, h15, h16, h17, h4, skC]; exact ⟨_, skN_zero, rfl⟩)
        · rintro k e hk hkk e5 h28 ⟨h2, h6, h15, h16, h17, h27, f, hf, h4⟩
          have hsk2 := skN_succ (s := s) (f := g) (k := k)
          rw [hf] at hsk2
          simp only [Option.bind_some] at hsk2
          have hfl := skN_length hgl hf
          have c1 : IntKind.wrap .i64 (s.x + (k : Int)) = s.x + k := wrap64 (by omega)
          have c2 : IntKind.wrap .i64 (s.y + (k : Int)) = s.y + k := wrap64 (by omega)
          cases hd : s.d with
          | true =>
            have p1 : pX s k = s.x := if_pos hd
            have p2 : pY s k = s.y + k := if_pos hd
            rw [p1, p2] at hsk2
            cases ho : okP s.x (s.y + k) with
            | true =>
              rw [if_pos ho] at hsk2
              obtain ⟨u, v, hu, hv, hu1, hv1⟩ := okP_get ho
              have hc := call346 (pu := true) (H := H) hfl hu1 hv1
              rw [← hu, ← hv] at hc
              rw [hu, hv] at hsk2
              simp only [Int.toNat_natCast] at hsk2
              have hpl : (putF f u v).length = 12 := by rw [putF_length, hfl]
              have hst : stc (iv .u16 f) 0 (cs .u16 (putF f u v)) = some (iv .u16 (putF f u v)) := stc_all (by rw [hpl, hfl])
              simp (disch := omega) [b115_1, h28, h2, h6, h15, h16, h17, h27, h4, hkk, skC, ldc4a, ldc4b, ldc4d, c1, c2, hd, placeI, ho, hfl, hc, hpl, hst, e5, hsk2]
            | false =>
              rw [ho, if_neg (by simp)] at hsk2
              have hno : inkN l (i + 1) = none := by rw [hsucc]; exact skN_none hsk2 (by omega)
              simp (disch := omega) [b115_1, h28, h2, h6, h15, h16, h17, h27, h4, hkk, skC, ldc4a, ldc4b, ldc4d, c1, c2, hd, placeI, ho, zs_cs, agg_cs, fill, zz, inkR_none h80 hno (by omega)]
          | false =>
            have p1 : pX s k = s.x + k := if_neg (by simp [hd])
            have p2 : pY s k = s.y := if_neg (by simp [hd])
            rw [p1, p2] at hsk2
            cases ho : okP (s.x + k) s.y with
            | true =>
              rw [if_pos ho] at hsk2
              obtain ⟨u, v, hu, hv, hu1, hv1⟩ := okP_get ho
              have hc := call346 (pu := true) (H := H) hfl hu1 hv1
              rw [← hu, ← hv] at hc
              rw [hu, hv] at hsk2
              simp only [Int.toNat_natCast] at hsk2
              have hpl : (putF f u v).length = 12 := by rw [putF_length, hfl]
              have hst : stc (iv .u16 f) 0 (cs .u16 (putF f u v)) = some (iv .u16 (putF f u v)) := stc_all (by rw [hpl, hfl])
              simp (disch := omega) [b115_1, h28, h2, h6, h15, h16, h17, h27, h4, hkk, skC, ldc4a, ldc4b, ldc4d, c1, c2, hd, placeI, ho, hfl, hc, hpl, hst, e5, hsk2]
            | false =>
              rw [ho, if_neg (by simp)] at hsk2
              have hno : inkN l (i + 1) = none := by rw [hsucc]; exact skN_none hsk2 (by omega)
              simp (disch := omega) [b115_1, h28, h2, h6, h15, h16, h17, h27, h4, hkk, skC, ldc4a, ldc4b, ldc4d, c1, c2, hd, placeI, ho, zs_cs, agg_cs, fill, zz, inkR_none h80 hno (by omega)]
        · rintro e h28 ⟨h2, h6, h15, h16, h17, h27, f, hf, h4⟩
          rw [hf] at hsucc
          simp [b115_1, h28, h2, h15, h16, h17, h27, h4, e4, hsucc]
    · rintro e h17 ⟨h2, h15, h16, g, hg, h4⟩
      have hgl := inkN_length hg
      have hz := stc_zr (k := .u16) hgl
      simp [b115_2, h17, h2, h16, h4, hgl, hz, agg_cs, inkR_some h80 hg]
theorem Pre.set {H G : Heap} {b : Nat} {k : Blk} (p : Pre H G) (hb : H.length ≤ b) : Pre H (G.set b k) := by
  obtain ⟨L, rfl⟩ := p
  exact ⟨L.set (b - H.length) k, by rw [List.set_append_right _ _ hb]⟩
/-- A list of a call's own that grows. -/
def Gr (H G : Heap) (x : Value) (esz n : Nat) (vs : List Value) : Prop := ∃ b ver, x = slc b 0 ver n n ∧ G[b]? = some ⟨vs, esz, ver, false⟩ ∧ H.length ≤ b ∧ vs.length = n * esz ∧ Pre H G
theorem Gr.new {H G : Heap} {esz : Nat} (p : Pre H G) : Gr H (G ++ [⟨[], esz, 0, false⟩]) (slc G.length 0 0 0 0) esz 0 [] := ⟨_, _, rfl, get_last, p.len, by simp, p.app⟩
theorem Gr.pre {H G : Heap} {x : Value} {esz n : Nat} {vs : List Value} (g : Gr H G x esz n vs) : Pre H G := by obtain ⟨b, ver, _, _, _, _, p⟩ := g; exact p
theorem Gr.app {H G L : Heap} {x : Value} {esz n : Nat} {vs : List Value} (g : Gr H G x esz n vs) : Gr H (G ++ L) x esz n vs := by
  obtain ⟨b, ver, rfl, h1, h2, h3, h4⟩ := g
  exact ⟨b, ver, rfl, by rw [List.getElem?_append_left (List.getElem?_eq_some_iff.1 h1).1]; exact h1, h2, h3, h4.app⟩
theorem Gr.sl {H G : Heap} {x : Value} {esz n : Nat} {vs : List Value} (g : Gr H G x esz n vs) : SlR G x esz n vs := by
  obtain ⟨b, ver, rfl, h1, h2, h3, h4⟩ := g
  exact ⟨h3, .inr ⟨b, 0, ver, n, rfl, Nat.le_refl _, by rw [rd_at h1 rfl (by simp [h3])]; simp [take_all (Nat.le_of_eq h3)], _, h1, rfl, rfl⟩⟩
theorem appendTo_grow {n0 : Nat} {wb : Bool} {G : Heap} {esz bytes b ver len n : Nat} {cs : List Value} {k : Blk} (h : G[b]? = some k) (hv : ver = k.ver) (hr : k.ro = false) (hm : may n0 wb b cs = true) (he : k.esz = esz) (hl : len * esz = k.cells.length) (hn : 0 < n)
    (hb : (len + n) * bytes ≤ roomMax) : appendTo n0 wb esz bytes G (slc b 0 ver len len) n cs = some (slc b 0 (ver + 1) (len + n) (len + n), G.set b { k with cells := k.cells ++ cs, ver := ver + 1 }) := by
  unfold appendTo slc
  simp only []
  rw [if_neg (by omega), h]
  simp only []
  exact if_pos ⟨hv, hr, hm, he, trivial, hl, hb⟩
theorem Gr.push {H G : Heap} {x : Value} {esz n bytes : Nat} {vs c : List Value} (g : Gr H G x esz n vs) (hc : c.length = esz) (hb : (n + 1) * bytes ≤ roomMax) {wb : Bool} :
    ∃ x' G', ((srcOf esz (G ++ [⟨c, esz, 0, false⟩]) (slc G.length 0 0 1 1)).bind fun q => appendTo H.length wb esz bytes (G ++ [⟨c, esz, 0, false⟩]) x q.1 q.2) = some (x', G') ∧ Gr H G' x' esz (n + 1) (vs ++ c) := by
  obtain ⟨b, ver, rfl, h1, h2, h3, h4⟩ := g
  have h1' : (G ++ [(⟨c, esz, 0, false⟩ : Blk)])[b]? = some ⟨vs, esz, ver, false⟩ := by rw [List.getElem?_append_left (List.getElem?_eq_some_iff.1 h1).1]; exact h1
  have e1 : srcOf esz (G ++ [⟨c, esz, 0, false⟩]) (slc G.length 0 0 1 1) = some (1, c) := by
    show (rd (G ++ [⟨c, esz, 0, false⟩]) G.length 0 0 (1 * esz)).map (fun cs => (1, cs)) = _
    rw [Nat.one_mul, rd_last rfl (by simpa using hc)]; rfl
  refine ⟨slc b 0 (ver + 1) (n + 1) (n + 1), (G ++ [(⟨c, esz, 0, false⟩ : Blk)]).set b ⟨vs ++ c, esz, ver + 1, false⟩, ?_, b, ver + 1, rfl, get_set h1', h2, by simp [h3, hc, Nat.succ_mul], (h4.app).set h2⟩
  rw [e1, Option.bind_some]
  exact appendTo_grow h1' rfl rfl (by simp [may, h2]) rfl h3.symm (by omega) hb
theorem fill_one {z : List Value} {v : Value} {esz : Nat} (hv : (cellsOf v).length = esz) (hz : z.length = esz) : fill (rep 1 z) [(0, esz, v)] = some (cellsOf v) := by
  have e1 : rep 1 z = z := by simp [rep]
  rw [e1]
  show (if (cellsOf v).length = esz ∧ 0 + esz ≤ z.length then fill (splice z 0 (cellsOf v)) [] else none) = _
  rw [if_pos ⟨hv, by omega⟩]
  have : splice z 0 (cellsOf v) = cellsOf v := by simp [splice, hv, ← hz]
  rw [this]; rfl
theorem Gr.fin {H G : Heap} {x : Value} {esz n : Nat} {vs : List Value} (g : Gr H G x esz n vs) (hn : NoRef vs) : finish H.length G [x] = (slc H.length 0 0 n n, H ++ [⟨vs, esz, 0, false⟩]) := by
  obtain ⟨b, ver, rfl, h1, h2, h3, h4⟩ := g
  exact finish_slc h4 h2 h1 rfl rfl hn.all
/- Has a frame a dot there? -/
def dotB (row : Int) (x : Nat) : Bool := decide ((row / bit x) % 2 = 1)
theorem shr_bit {row : Int} {x : Nat} (h : x < 12) : shiftOf .shr .u16 row (x : Int) = some (.int .u16 (row / bit x)) := by
  have hb := bit_ok h
  unfold shiftOf
  rw [if_neg (by omega)]
  have e1 : min ((x : Int).toNat) (IntKind.bits .u16) = x := by
    have : IntKind.bits .u16 = 16 := rfl
    omega
  simp only [e1]
  show some (Value.int .u16 (row.fdiv (bit x))) = _
  rw [Int.fdiv_eq_ediv_of_nonneg _ (by omega)]
theorem and_one {v : Int} (h : 0 ≤ v ∧ v ≤ 65535) : bitsOf .and .u16 v 1 = v % 2 := by
  obtain ⟨n, rfl⟩ := Int.eq_ofNat_of_zero_le h.1
  have e0 : IntKind.bits .u16 = 16 := rfl
  unfold bitsOf
  simp only []
  have e1 : (BitVec.ofInt (IntKind.bits .u16) (n : Int) &&& BitVec.ofInt (IntKind.bits .u16) 1).toNat = n % 2 := by
    have e2 : n % 2 ^ 16 = n := Nat.mod_eq_of_lt (by omega)
    rw [BitVec.toNat_and, e0, BitVec.ofInt_natCast, BitVec.toNat_ofNat, show (BitVec.ofInt 16 1).toNat = 1 from rfl, Nat.and_one_is_mod, e2]
  rw [e1, wrapu16 (by omega)]; omega
theorem row_div {row : Int} {x : Nat} (h : u16' row) (hx : x < 12) : 0 ≤ row / bit x ∧ row / bit x ≤ 65535 := by
  have hb := bit_ok hx
  have h1 : 0 ≤ row / bit x := Int.ediv_nonneg h.1 (by omega)
  have h2 : row / bit x ≤ row := Int.ediv_le_self _ h.1
  omega
theorem tmod_two {v : Int} (h : 0 ≤ v) : v.tmod 2 = v % 2 := Int.tmod_eq_emod_of_nonneg h
def hasF (f : List Int) (x y : Nat) : Bool := dotB (nth f y) x
theorem okP_nat {x y : Nat} (hx : x < 12) (hy : y < 12) : okP (x : Int) (y : Int) = true := by simp [okP]; omega
theorem call395 {pu : Bool} {H : Heap} {f : List Int} {x y : Nat} (hw : FrW f) (hx : x < 12) (hy : y < 12) : Call tab pu 395 [iv .u16 f, .int .i64 x, .int .i64 y] H = some (.bool (hasF f x y), H) := by
  refine Call_wp t395 (.inr rfl) rfl ?_
  have hl := hw.len
  have hd := row_div (hw.nth hy) hx
  have e1 : ((nth f y / bit x) % 2 == 1) = hasF f x y := rfl
  simp (disch := omega) [c395, k395, placeI, okP_nat hx hy, hy, hx, hl, shr_bit, and_one hd, e1]
theorem call456 {pu : Bool} {H : Heap} {q off ver : Nat} {f : List Int} {x y : Nat} (hw : FrW f) (hr : rd H q off ver 12 = some (cs .u16 f)) (hx : x < 12) (hy : y < 12) : Call tab pu 456 [adr q off ver, .int .i64 x, .int .i64 y] H = some (.bool (hasF f x y), H) := by
  refine Call_wp t456 (.inr rfl) rfl ?_
  have hd := row_div (hw.nth hy) hx
  have e1 : ((nth f y / bit x) % 2 == 1) = hasF f x y := rfl
  simp (disch := omega) [c456, k456, placeS, okP_nat hx hy, hy, hx, rd_one hr hy, shr_bit, tmod_two hd.1, e1]
/- The dots, one behind the other. -/
def hasK (f : List Int) (k : Nat) : Bool := hasF f (k % 12) (k / 12)
def dotL (f : List Int) (k : Nat) : List Nat := (List.range k).filter (hasK f)
def dotM (k : Nat) : Int × Int := (((k % 12 : Nat) : Int), ((k / 12 : Nat) : Int))
def dotC (f : List Int) (k : Nat) : List Value := mvsC ((dotL f k).map dotM)
theorem dotL_zero {f : List Int} : dotL f 0 = [] := rfl
theorem dotL_succ {f : List Int} {k : Nat} : dotL f (k + 1) = dotL f k ++ if hasK f k = true then [k] else [] := by
  rw [dotL, List.range_succ, List.filter_append, ← dotL]
  congr 1
  cases h : hasK f k <;> simp [h]
theorem hasK_yx {f : List Int} {x y : Nat} (hx : x < 12) : hasK f (y * 12 + x) = hasF f x y := by
  rw [hasK, show (y * 12 + x) % 12 = x by omega, show (y * 12 + x) / 12 = y by omega]
theorem dotM_yx {x y : Nat} (hx : x < 12) : dotM (y * 12 + x) = ((x : Int), (y : Int)) := by
  rw [dotM, show (y * 12 + x) % 12 = x by omega, show (y * 12 + x) / 12 = y by omega]
theorem mvsC_app {a b : List (Int × Int)} : mvsC (a ++ b) = mvsC a ++ mvsC b := by
  induction a with
  | nil => rfl
  | cons m r ih => simp only [mvsC, List.cons_append, rowsC, List.append_assoc] at ih ⊢; rw [ih]
theorem dotC_succ {f : List Int} {x y : Nat} (hx : x < 12) : dotC f (y * 12 + x + 1) = if hasF f x y = true then dotC f (y * 12 + x) ++ mvC ((x : Int), (y : Int)) else dotC f (y * 12 + x) := by
  unfold dotC
  rw [dotL_succ, hasK_yx hx]
  split
  · rw [List.map_append, mvsC_app]
    simp [mvsC, rowsC, dotM_yx hx]
  · simp
theorem dotL_len {f : List Int} {k : Nat} : (dotL f k).length ≤ k := by
  have := List.length_filter_le (hasK f) (List.range k)
  simpa [dotL] using this
theorem dotL_succ_len {f : List Int} {x y : Nat} (hx : x < 12) : (dotL f (y * 12 + x + 1)).length = if hasF f x y = true then (dotL f (y * 12 + x)).length + 1 else (dotL f (y * 12 + x)).length := by
  rw [dotL_succ, hasK_yx hx]
  split <;> simp
theorem call449 {pu : Bool} {H : Heap} {f : List Int} (hw : FrW f) : Call tab pu 449 [iv .u16 f] H = some (slc H.length 0 0 (dotL f 144).length (dotL f 144).length, H ++ [⟨dotC f 144, 2, 0, false⟩]) := by
  refine Call_wp t449 (.inr rfl) rfl ?_
  have hl := hw.len
  simp [c449, k449, fill, rep]
  refine WP_count 7 12 12 rfl (fun y e G => e 1 = iv .u16 f ∧ ∃ g, e 3 = g ∧ Gr H G g 2 (dotL f (y * 12)).length (dotC f (y * 12))) (by omega) ?_ ?_ (by simp) (by simp; exact Gr.new .refl)
  · rintro y e G _ hy hyy e4 h7 ⟨h1, g, h3, hg⟩
    simp [b449_2, h7, hyy]
    refine WP_count 10 12 12 rfl (fun x e G => e 1 = iv .u16 f ∧ e 4 = .int .i64 y ∧ e 7 = .int .i64 y ∧ ∃ g, e 3 = g ∧ Gr H G g 2 (dotL f (y * 12 + x)).length (dotC f (y * 12 + x))) (by omega) ?_ ?_ (by simp) (by simp [h1, h7, h3]; exact hg)
    · rintro x e G _ hx hxx e5 h10 ⟨h1, h4, h7, g, h3, hg⟩
      have hc := call395 (pu := true) (H := G) hw hx hy
      have hs := dotC_succ (f := f) (y := y) hx
      have hs2 := dotL_succ_len (f := f) (y := y) hx
      have hle := dotL_len (f := f) (k := y * 12 + x)
      have w1 : IntKind.wrap .i8 (x : Int) = x := wrap8 (by omega)
      have w2 : IntKind.wrap .i8 (y : Int) = y := wrap8 (by omega)
      cases hp : hasF f x y with
      | true =>
        rw [hp] at hc hs hs2
        rw [if_pos rfl] at hs hs2
        obtain ⟨g', G', hpush, hg'⟩ := hg.push (c := mvC ((x : Int), (y : Int))) (bytes := 2) rfl (by have : roomMax = 140737488355328 := rfl; omega) (wb := false)
        have hfa : fill [.int .i8 0, .int .i8 0] [(0, 1, .int .i8 (x : Int)), (1, 1, .int .i8 (y : Int))] = some (mvC ((x : Int), (y : Int))) := rfl
        have hf1 := fill_one (z := [.int .i8 0, .int .i8 0]) (v := agg (mvC ((x : Int), (y : Int)))) (esz := 2) rfl rfl
        simp [b449_1, h10, hxx, h1, h4, h7, h3, hl, hc, w1, w2, hfa, hf1, hpush, wbOf, e5, ← Nat.add_assoc, hs, hs2]
        exact hg'
      | false =>
        rw [hp] at hc hs hs2
        rw [if_neg (by simp)] at hs hs2
        simp [b449_1, h10, hxx, h1, h4, h7, h3, hl, hc, e5, ← Nat.add_assoc, hs, hs2]
        exact hg
    · rintro e G _ h10 ⟨h1, h4, h7, g, h3, hg⟩
      simp [b449_1, h10, h1, h7, h3, e4, Nat.add_mul]
      exact hg
  · rintro e G _ h7 ⟨h1, g, h3, hg⟩
    have := hg.fin mvsC_flat
    simp [b449_2, h7, h3, this]
theorem dotL_nodup {f : List Int} {k : Nat} : (dotL f k).Nodup := List.nodup_range.sublist List.filter_sublist
theorem dotL_at {f : List Int} {j : Nat} (h : j < (dotL f 144).length) : ∃ y x, at0 (dotL f 144) j = y * 12 + x ∧ y < 12 ∧ x < 12 ∧ y * 12 + x ∉ (dotL f 144).take j ∧ (dotL f 144).take (j + 1) = (dotL f 144).take j ++ [y * 12 + x] := by
  have hm := at0_mem h
  have h1 : at0 (dotL f 144) j < 144 := by
    have := List.mem_filter.1 (show at0 (dotL f 144) j ∈ (List.range 144).filter (hasK f) from hm)
    simpa using this.1
  have hg := at0_get h
  have ht : (dotL f 144).take (j + 1) = (dotL f 144).take j ++ [at0 (dotL f 144) j] := by
    rw [List.take_add_one, hg]; rfl
  have hnd : ((dotL f 144).take (j + 1)).Nodup := dotL_nodup.sublist (List.take_sublist _ _)
  rw [ht] at hnd
  have hni : at0 (dotL f 144) j ∉ (dotL f 144).take j := fun hi => by
    rw [List.nodup_append] at hnd
    exact hnd.2.2 _ hi _ (by simp) rfl
  refine ⟨at0 (dotL f 144) j / 12, at0 (dotL f 144) j % 12, by omega, by omega, by omega, ?_, ?_⟩
  · rw [show at0 (dotL f 144) j / 12 * 12 + at0 (dotL f 144) j % 12 = at0 (dotL f 144) j by omega]; exact hni
  · rw [show at0 (dotL f 144) j / 12 * 12 + at0 (dotL f 144) j % 12 = at0 (dotL f 144) j by omega]; exact ht
theorem mv_map {α : Type} [Inhabited α] {g : α → Int × Int} {l : List α} {i : Nat} (h : i < l.length) : mv (l.map g) i = g (at0 l i) := by
  have h2 := at0_get (l := l.map g) (i := i) (by simpa using h)
  rw [List.getElem?_map, at0_get h] at h2
  exact (Option.some.inj h2).symm
def onesT : ByteArray := ⟨#[0, 1, 1, 2, 1, 2, 2, 3, 1, 2, 2, 3, 2, 3, 3, 4, 1, 2, 2, 3, 2, 3, 3, 4, 2, 3, 3, 4, 3, 4, 4, 5, 1, 2, 2, 3, 2, 3, 3, 4, 2, 3, 3, 4, 3, 4, 4, 5, 2, 3, 3, 4, 3, 4, 4, 5, 3, 4, 4, 5, 4, 5, 5, 6, 1, 2, 2, 3, 2, 3, 3, 4, 2, 3, 3, 4, 3, 4, 4, 5, 2, 3, 3, 4, 3, 4, 4, 5, 3, 4, 4, 5, 4, 5, 5, 6, 2, 3, 3, 4, 3, 4, 4, 5, 3, 4, 4, 5, 4, 5, 5, 6, 3, 4, 4, 5, 4, 5, 5, 6, 4, 5, 5, 6, 5, 6, 6, 7, 1, 2, 2, 3, 2, 3, 3, 4, 2, 3, 3, 4, 3, 4, 4, 5, 2, 3, 3, 4, 3, 4, 4, 5, 3, 4, 4, 5, 4, 5, 5, 6, 2, 3, 3, 4, 3, 4, 4, 5, 3, 4, 4, 5, 4, 5, 5, 6, 3, 4, 4, 5, 4, 5, 5, 6, 4, 5, 5, 6, 5, 6, 6, 7, 2, 3, 3, 4, 3, 4, 4, 5, 3, 4, 4, 5, 4, 5, 5, 6, 3, 4, 4, 5, 4, 5, 5, 6, 4, 5, 5, 6, 5, 6, 6, 7, 3, 4, 4, 5, 4, 5, 5, 6, 4, 5, 5, 6, 5, 6, 6, 7, 4, 5, 5, 6, 5, 6, 6, 7, 5, 6, 6, 7, 6, 7, 7, 8]⟩
def onK (s : ByteArray) : Cd :=
  (.seq
   (.reg [2] [
     ⟨none, (some 2), .mov (.c (.int .i64 0)), []⟩])
   (.seq
    (.reg [2] [
      ⟨none, (some 3), .mov (.t 0), []⟩,
      ⟨none, (some 4), .bin .shr (.t 3) (.c (.int .u64 8)), []⟩,
      ⟨none, (some 5), .idxs (.c (.string s)) (.t 4), []⟩,
      ⟨none, (some 6), .mov (.t 0), []⟩,
      ⟨none, (some 7), .bin .and (.t 6) (.c (.int .u16 255)), []⟩,
      ⟨none, (some 8), .idxs (.c (.string s)) (.t 7), []⟩,
      ⟨none, (some 9), .bin .add (.t 5) (.t 8), []⟩,
      ⟨none, (some 10), .conv .i64 (.t 9), []⟩,
      ⟨none, (some 2), .mov (.t 10), []⟩])
    .ret))
def onC (s : ByteArray) : Fn := { np := 1, nt := 11, kind := .pure, res := [.t 2], body := onK s }
def idxsV (x i : Value) : Option Value := match x with
  | .string s => (at' s.size i).map fun j => .int .u8 (s.data.toList.getD j 0).toNat
  | _ => none
theorem ev1_idxs {cl : Cl} {n0 : Nat} {wb : Bool} {e : Env} {H : Heap} {x i : Opd} : ev1 cl n0 wb e H (.idxs x i) = (idxsV (x.ev e) (i.ev e)).map (·, H) := rfl
def tg (j : Nat) : Nat := (onesT.data.toList.getD j 0).toNat
theorem onesT_size : onesT.size = 256 := by decide +kernel
theorem tg_le : ∀ j, j < 256 → tg j ≤ 8 := by
  have : (List.range 256).all (fun j => decide (tg j ≤ 8)) = true := by decide +kernel
  intro j hj
  simpa using List.all_eq_true.1 this j (by simpa using hj)
theorem idxsV_ones {v : Int} {j : Nat} {k : IntKind} (h : v = j) (hj : j < 256) : idxsV (.string onesT) (.int k v) = some (.int .u8 (tg j)) := by
  subst h
  show (at' onesT.size (.int k (j : Int))).map (fun j => Value.int .u8 (onesT.data.toList.getD j 0).toNat) = _
  rw [onesT_size, at_nat hj]; rfl
def onesN (v : Nat) : Nat := tg (v / 256) + tg (v % 256)
def cntN (v : Nat) : Nat := ((List.range 12).filter fun x => v.testBit x).length
theorem onesN_cnt : ∀ v, v < 4096 → onesN v = cntN v := by
  have : (List.range 4096).all (fun v => onesN v == cntN v) = true := by decide +kernel
  intro v hv
  simpa using List.all_eq_true.1 this v (by simpa using hv)
theorem and_255 {n : Nat} (h : n ≤ 65535) : bitsOf .and .u16 (n : Int) 255 = ((n % 256 : Nat) : Int) := by
  have e0 : IntKind.bits .u16 = 16 := rfl
  unfold bitsOf
  simp only []
  have e1 : (BitVec.ofInt (IntKind.bits .u16) (n : Int) &&& BitVec.ofInt (IntKind.bits .u16) 255).toNat = n % 256 := by
    have e2 : n % 2 ^ 16 = n := Nat.mod_eq_of_lt (by omega)
    rw [BitVec.toNat_and, e0, BitVec.ofInt_natCast, BitVec.toNat_ofNat, show (BitVec.ofInt 16 255).toNat = 2 ^ 8 - 1 from rfl, e2, Nat.and_two_pow_sub_one_eq_mod]
  rw [e1, wrapu16 (by omega)]
theorem shr_8 {n : Nat} : shiftOf .shr .u16 (n : Int) 8 = some (.int .u16 ((n / 256 : Nat) : Int)) := by
  unfold shiftOf
  rw [if_neg (by omega)]
  show some (Value.int .u16 ((n : Int).fdiv 256)) = _
  rw [Int.fdiv_eq_ediv_of_nonneg _ (by omega)]; rfl
theorem s530 : tab 530 = some (.fn (onC onesT)) := t530
theorem call530 {pu : Bool} {H : Heap} {n : Nat} (h : n ≤ 65535) : Call tab pu 530 [.int .u16 n] H = some (.int .i64 (onesN n), H) := by
  refine Call_wp s530 (.inr rfl) rfl ?_
  have h1 := tg_le (n / 256) (by omega)
  have h2 := tg_le (n % 256) (by omega)
  have e1 := idxsV_ones (k := .u16) (v := ((n / 256 : Nat) : Int)) rfl (by omega)
  have e2 := idxsV_ones (k := .u16) (v := ((n % 256 : Nat) : Int)) rfl (by omega)
  generalize hA : ((n / 256 : Nat) : Int) = A at *
  generalize hB : ((n % 256 : Nat) : Int) = B at *
  have e3 := shr_8 (n := n)
  have e4 := and_255 h
  rw [hA] at e3
  rw [hB] at e4
  have e5 : IntKind.wrap .u8 ((tg (n / 256) : Int) + (tg (n % 256) : Int)) = ((onesN n : Nat) : Int) := by rw [wrapu8 (by omega)]; rfl
  have e6 : IntKind.wrap .i64 ((onesN n : Nat) : Int) = ((onesN n : Nat) : Int) := wrap64 (by unfold onesN; omega)
  simp [onC, onK, e3, e4, ev1_idxs, e1, e2, e5, e6]
theorem dotB_bit {n x : Nat} : dotB (n : Int) x = n.testBit x := by
  unfold dotB bit
  rw [Nat.testBit_eq_decide_div_mod_eq]
  apply decide_eq_decide.2
  have : ((n : Int) / 2 ^ x) = ((n / 2 ^ x : Nat) : Int) := by rw [Int.natCast_ediv]; simp
  rw [this]; omega
/-- How many dots. -/
def cntF (f : List Int) : Int := ((dotL f 144).length : Int)
theorem dotL_row {f : List Int} {y x : Nat} (hx : x ≤ 12) : (dotL f (y * 12 + x)).length = (dotL f (y * 12)).length + ((List.range x).filter fun x => hasF f x y).length := by
  induction x with
  | zero => simp
  | succ x ih =>
    have h1 := dotL_succ_len (f := f) (y := y) (show x < 12 by omega)
    rw [← Nat.add_assoc, h1, ih (by omega), List.range_succ, List.filter_append]
    cases hp : hasF f x y <;> simp [hp]; omega
theorem row_cnt {f : List Int} {y n : Nat} (h : nth f y = n) : ((List.range 12).filter fun x => hasF f x y).length = cntN n := by
  unfold cntN
  congr 1
  apply List.filter_congr
  intro x _
  rw [hasF, h, dotB_bit]
theorem okF_row {f : List Int} (h : okF f = true) (hw : FrW f) {y : Nat} (hy : y < 12) : ∃ n : Nat, nth f y = n ∧ n < 4096 := by
  have h1 := hw.nth hy
  have h2 := List.all_eq_true.1 (show f.all okRow = true from h) _ (nth_mem (i := y) (by rw [hw.len]; exact hy))
  simp [okRow] at h2
  exact ⟨(nth f y).toNat, by omega, by omega⟩
theorem call393 {pu : Bool} {H : Heap} {f : List Int} (hw : FrW f) (hk : okF f = true) : Call tab pu 393 [iv .u16 f] H = some (.int .i64 (cntF f), H) := by
  refine Call_wp t393 (.inr rfl) rfl ?_
  have hl := hw.len
  simp [c393, k393, hl]
  refine WP_forH 7 12 12 rfl (by omega) (fun y e => e 6 = iv .u16 f ∧ e 3 = .int .i64 ((dotL f (y * 12)).length : Nat)) ?_ ?_ (by simp) (by simp [dotL_zero])
  · rintro y e hy hyy e4 h7 ⟨h6, h3⟩
    obtain ⟨n, hn, hlt⟩ := okF_row hk hw hy
    have h1 := dotL_row (f := f) (y := y) (x := 12) (by omega)
    rw [row_cnt hn, ← onesN_cnt n hlt] at h1
    have h2 := dotL_len (f := f) (k := y * 12 + 12)
    have e5 : IntKind.wrap .i64 (((dotL f (y * 12)).length : Int) + (onesN n : Int)) = ((dotL f (y * 12 + 12)).length : Int) := by rw [wrap64 (by omega)]; omega
    simp [b393_1, h7, h6, h3, hyy, hy, hl, hn, call530 (show n ≤ 65535 by omega), e5, e4, Nat.add_mul]
  · rintro e h7 ⟨h6, h3⟩
    simp [b393_1, h7, h3, cntF]
theorem cntF_ok {f : List Int} : 0 ≤ cntF f ∧ cntF f ≤ 144 := by have := dotL_len (f := f) (k := 144); unfold cntF; omega
/-- A list of which one knows the block. -/
def Own (G : Heap) (r : Value) (β : Option Nat) (n0 esz n : Nat) (vs : List Value) : Prop := vs.length = n * esz ∧ match β with
  | none => r = .slice none 0 0 ∧ n = 0
  | some b => n0 ≤ b ∧ ∃ ver cap rest, r = slc b 0 ver n cap ∧ n ≤ cap ∧ G[b]? = some ⟨vs ++ rest, esz, ver, false⟩
theorem Own.sl {G : Heap} {r : Value} {β : Option Nat} {n0 esz n : Nat} {vs : List Value} (h : Own G r β n0 esz n vs) : SlR G r esz n vs := by
  obtain ⟨hl, h⟩ := h
  cases β with
  | none => exact ⟨hl, .inl h⟩
  | some b =>
    obtain ⟨_, ver, cap, rest, rfl, hc, hg⟩ := h
    exact ⟨hl, .inr ⟨b, 0, ver, cap, rfl, hc, by rw [rd_at hg rfl (by simp [hl])]; simp [← hl], _, hg, rfl, rfl⟩⟩
theorem Own.pre {G G' : Heap} {r : Value} {β : Option Nat} {n0 esz n : Nat} {vs : List Value} (p : Pre G G') (h : Own G r β n0 esz n vs) : Own G' r β n0 esz n vs := by
  obtain ⟨L, rfl⟩ := p
  obtain ⟨hl, h⟩ := h
  refine ⟨hl, ?_⟩
  cases β with
  | none => exact h
  | some b =>
    obtain ⟨hb, ver, cap, rest, rfl, hc, hg⟩ := h
    exact ⟨hb, ver, cap, rest, rfl, hc, by rw [List.getElem?_append_left (List.getElem?_eq_some_iff.1 hg).1]; exact hg⟩
theorem Own.lt {G : Heap} {r : Value} {b : Nat} {n0 esz n : Nat} {vs : List Value} (h : Own G r (some b) n0 esz n vs) : n0 ≤ b ∧ b < G.length := by
  obtain ⟨hl, hb, ver, cap, rest, rfl, hc, hg⟩ := h
  exact ⟨hb, (List.getElem?_eq_some_iff.1 hg).1⟩
/-- Two heaps that differ in one block at most. -/
structure SameB (G G' : Heap) (β : Option Nat) : Prop where
  len : G'.length = G.length
  get : ∀ b, β ≠ some b → G'[b]? = G[b]?
theorem SameB.refl {G : Heap} {β : Option Nat} : SameB G G β := ⟨rfl, fun _ _ => rfl⟩
theorem SameB.set {G : Heap} {b : Nat} {k : Blk} : SameB G (G.set b k) (some b) := ⟨by simp, fun b' h => by rw [List.getElem?_set_ne]; intro h2; exact h (by rw [h2])⟩
theorem pre_of_get {H G : Heap} (hl : H.length ≤ G.length) (h : ∀ i, i < H.length → G[i]? = H[i]?) : Pre H G := by
  refine ⟨G.drop H.length, ?_⟩
  have : G.take H.length = H := List.ext_getElem? fun i => by
    rcases Nat.lt_or_ge i H.length with h1 | h1
    · rw [List.getElem?_take, if_pos h1, h i h1]
    · rw [List.getElem?_eq_none (by simp; omega), List.getElem?_eq_none h1]
  conv => lhs; rw [← List.take_append_drop H.length G, this]
theorem Pre.get {H G : Heap} (p : Pre H G) {i : Nat} (hi : i < H.length) : G[i]? = H[i]? := by
  obtain ⟨L, rfl⟩ := p
  rw [List.getElem?_append_left hi]
theorem SameB.pre {H G G' : Heap} {β : Option Nat} (s : SameB G G' β) (p : Pre H G) (hb : ∀ b, β = some b → H.length ≤ b) : Pre H G' :=
  pre_of_get (by rw [s.len]; exact p.len) fun i hi => by rw [s.get i fun h => by have := hb i h; omega, p.get hi]
theorem set_self {G : Heap} {b : Nat} {k : Blk} (h : G[b]? = some k) : G.set b k = G := by
  apply List.ext_getElem?
  intro i
  rw [List.getElem?_set]
  split
  · rename_i h1; subst h1; rw [if_pos (List.getElem?_eq_some_iff.1 h).1, h]
  · rfl
def mkL (ms : Nat → Value) (m : Nat) : List Value := (List.range m).map ms
/-- A list that has grown, handed back with a code. -/
theorem Gr.fin2 {H G : Heap} {x : Value} {esz n : Nat} {vs : List Value} (g : Gr H G x esz n vs) (hn : NoRef vs) {c : Int} : finish H.length G [x, .int .i64 c] = (tup [slc H.length 0 0 n n, .int .i64 c], H ++ [⟨vs, esz, 0, false⟩]) := by
  obtain ⟨b, ver, rfl, h1, h2, h3, h4⟩ := g
  have hne : old1 H.length (slc b 0 ver n n) = false := by
    show (true && decide (b < H.length)) = false
    simp; omega
  have : pack H.length G [slc b 0 ver n n, .int .i64 c] [] [] = some ([slc H.length 0 0 n n, .int .i64 c], [⟨vs, esz, 0, false⟩]) := by
    rw [pack, if_neg (by rw [hne]; decide)]
    show (match G[b]? with
      | some k => if ([] : List Nat).contains b = false ∧ ver = k.ver ∧ k.ro = false ∧ k.cells.all (old0 H.length) = true then (pack H.length G [.int .i64 c] [b] ([] ++ [{ k with ver := 0 }])).map fun (q : List Value × List Blk) => (slc (H.length + ([] : List Blk).length) 0 0 n n :: q.1, q.2) else none
      | none => none) = _
    rw [h1]
    simp only []
    rw [if_pos ⟨by simp, trivial, trivial, hn.all⟩]
    simp
  rw [finish_some this, h4.take]; rfl
theorem own_new {H : Heap} {esz n : Nat} {vs : List Value} (hl : vs.length = n * esz) : Own (H ++ [⟨vs, esz, 0, false⟩]) (slc H.length 0 0 n n) (some H.length) H.length esz n vs :=
  ⟨hl, Nat.le_refl _, 0, n, [], rfl, Nat.le_refl _, by rw [List.append_nil]; exact get_last⟩
theorem finish_nil2 {H G : Heap} {c : Int} : finish H.length G [.slice none 0 0, .int .i64 c] = (tup [.slice none 0 0, .int .i64 c], G.take H.length) := finish_vs (by simp)
theorem rowsC_app {α : Type} {f : α → List Value} {a b : List α} : rowsC f (a ++ b) = rowsC f a ++ rowsC f b := by
  induction a with
  | nil => rfl
  | cons m r ih => simp only [List.cons_append, rowsC, List.append_assoc, ih]
def hasI (f : List Int) (a b : Int) : Bool := okP a b && hasF f a.toNat b.toNat
theorem hasI_nat {f : List Int} {x y : Nat} (hx : x < 12) (hy : y < 12) : hasI f x y = hasF f x y := by simp [hasI, okP_nat hx hy]
theorem has395 {pu : Bool} {H : Heap} {f : List Int} {a b : Int} (hw : FrW f) : Call tab pu 395 [iv .u16 f, .int .i64 a, .int .i64 b] H = some (.bool (hasI f a b), H) := by
  cases ho : okP a b with
  | true =>
    obtain ⟨x, y, rfl, rfl, hx, hy⟩ := okP_get ho
    rw [call395 hw hx hy, hasI_nat hx hy]
  | false =>
    refine Call_wp t395 (.inr rfl) rfl ?_
    simp [c395, k395, hw.len, placeI, ho, skip, hasI]
theorem has456 {pu : Bool} {H : Heap} {q off ver : Nat} {f : List Int} {a b : Int} (hw : FrW f) (hr : rd H q off ver 12 = some (cs .u16 f)) : Call tab pu 456 [adr q off ver, .int .i64 a, .int .i64 b] H = some (.bool (hasI f a b), H) := by
  cases ho : okP a b with
  | true =>
    obtain ⟨x, y, rfl, rfl, hx, hy⟩ := okP_get ho
    rw [call456 hw hr hx hy, hasI_nat hx hy]
  | false =>
    refine Call_wp t456 (.inr rfl) rfl ?_
    simp [c456, k456, placeS, ho, skip, hasI]
def dX (d : Bool) : Int := if d = true then 0 else 1
def dY (d : Bool) : Int := if d = true then 1 else 0
theorem dXY {d : Bool} : (dX d = 0 ∧ dY d = 1) ∨ (dX d = 1 ∧ dY d = 0) := by cases d <;> simp [dX, dY]
def goB (f : List Int) (d : Bool) (x y n : Nat) : Bool := hasI f (x + n * dX d) (y + n * dY d)
/-- How long the stroke is that begins there. -/
def runN (f : List Int) (d : Bool) (x y : Nat) : Int := findN (fun n => decide (1 ≤ n) && !goB f d x y n) 13
theorem goB_end {f : List Int} {d : Bool} {x y : Nat} : goB f d x y 12 = false := by
  have h : okP ((x : Int) + (12 : Nat) * dX d) ((y : Int) + (12 : Nat) * dY d) = false := by
    rcases dXY (d := d) with ⟨h1, h2⟩ | ⟨h1, h2⟩ <;> rw [h1, h2] <;> simp [okP] <;> omega
  unfold goB hasI
  rw [h]; rfl
theorem runN_is {f : List Int} {d : Bool} {x y n : Nat} (h1 : 1 ≤ n) (h2 : n ≤ 12) (hn : ∀ j, j < n → 1 ≤ j → goB f d x y j = true) (hg : goB f d x y n = false) : runN f d x y = n :=
  findN_some (by omega) (fun j hj => by
    by_cases h : 1 ≤ j
    · simp [hn j hj h]
    · simp [h]) (by simp [h1, hg])
theorem dXm {d : Bool} {n : Nat} (h : n ≤ 12) : 0 ≤ (n : Int) * dX d ∧ (n : Int) * dX d ≤ 12 ∧ 0 ≤ (n : Int) * dY d ∧ (n : Int) * dY d ≤ 12 := by
  rcases dXY (d := d) with ⟨h1, h2⟩ | ⟨h1, h2⟩ <;> rw [h1, h2] <;> omega
def begB (f : List Int) (d : Bool) (x y : Nat) : Bool := !hasI f (x - dX d) (y - dY d)
def begK (f : List Int) (d : Bool) (p : Nat) : Bool := begB f d (p % 12) (p / 12)
def mkSk (f : List Int) (d : Bool) (p : Nat) : Sk := ⟨((p % 12 : Nat) : Int), ((p / 12 : Nat) : Int), runN f d (p % 12) (p / 12), d⟩
def skS (f : List Int) (d : Bool) (k : Nat) : List Sk := ((List.range k).filter fun p => hasK f p && begK f d p).map (mkSk f d)
theorem skS_succ {f : List Int} {d : Bool} {x y : Nat} (hx : x < 12) : skS f d (y * 12 + x + 1) = skS f d (y * 12 + x) ++ if hasF f x y && begB f d x y = true then [⟨x, y, runN f d x y, d⟩] else [] := by
  unfold skS
  rw [List.range_succ, List.filter_append, List.map_append]
  congr 1
  have e1 : (y * 12 + x) % 12 = x := by omega
  have e2 : (y * 12 + x) / 12 = y := by omega
  cases h : hasF f x y && begB f d x y <;> simp [hasK, begK, mkSk, e1, e2, h]
theorem sksC_app {a b : List Sk} : sksC (a ++ b) = sksC a ++ sksC b := rowsC_app
theorem skS_len {f : List Int} {d : Bool} {k : Nat} : (skS f d k).length ≤ k := by
  unfold skS
  rw [List.length_map]
  have := List.length_filter_le (fun p => hasK f p && begK f d p) (List.range k)
  simpa using this
theorem room4 {n : Nat} (h : n ≤ 1000000) : (n + 1) * 4 ≤ roomMax := by have : roomMax = 140737488355328 := rfl; omega
theorem fillS {s : Sk} : fill (rep 1 [.int .i8 0, .int .i8 0, .int .i8 0, .bool false]) [(0, 4, agg (skC s))] = some (skC s) := fill_one (v := agg (skC s)) rfl rfl
theorem sksC_one {s : Sk} : sksC [s] = skC s := by simp [sksC, rowsC]
/-- Strokes of the first dots of a list of dots. -/
theorem loop362 {H G : Heap} {f : List Int} {q off ver : Nat} {d : Bool} (hw : FrW f) (hr : rd H q off ver 12 = some (cs .u16 f)) {fs : List Fr} {Q : Ex → Env → Heap → Prop} {e : Env} {g0 : Value}
    (h0 : e 0 = adr q off ver) (h1 : e 1 = .bool d) (h5 : e 5 = .int .i64 (dX d)) (h6 : e 6 = .int .i64 (dY d)) (h7 : e 7 = g0) (hg : Gr H G g0 4 0 []) (h8 : e 8 = .int .i64 0)
    (hq : ∀ e' G' g, e' 7 = g → Gr H G' g 4 (skS f d 144).length (sksC (skS f d 144)) → KK tab H.length false (.exit 0) fs e' G' Q) : WK tab H.length false (.loop b362_3) fs e G Q := by
  refine WP_count 8 12 12 rfl (fun y e G => e 0 = adr q off ver ∧ e 1 = .bool d ∧ e 5 = .int .i64 (dX d) ∧ e 6 = .int .i64 (dY d) ∧ ∃ g, e 7 = g ∧ Gr H G g 4 (skS f d (y * 12)).length (sksC (skS f d (y * 12)))) (by omega) ?_ ?_ h8 ⟨h0, h1, h5, h6, g0, h7, hg⟩
  · rintro y e G _ hy hyy e4 h8 ⟨h0, h1, h5, h6, g, h7, hg⟩
    simp [b362_3, h8, hyy]
    refine WP_count 9 12 12 rfl (fun x e G => e 0 = adr q off ver ∧ e 1 = .bool d ∧ e 5 = .int .i64 (dX d) ∧ e 6 = .int .i64 (dY d) ∧ e 8 = .int .i64 y ∧ ∃ g, e 7 = g ∧ Gr H G g 4 (skS f d (y * 12 + x)).length (sksC (skS f d (y * 12 + x)))) (by omega) ?_ ?_ (by simp) (by simp [h0, h1, h5, h6, h7, h8]; exact hg)
    · rintro x e G _ hx hxx e5 h9 ⟨h0, h1, h5, h6, h8, g, h7, hg⟩
      have hr' := hg.pre.rd hr
      have hc := call456 (pu := true) hw hr' hx hy
      have hs := skS_succ (f := f) (d := d) (y := y) hx
      have hle := skS_len (f := f) (d := d) (k := y * 12 + x)
      have hdd : -1 ≤ dX d ∧ dX d ≤ 1 ∧ -1 ≤ dY d ∧ dY d ≤ 1 := by rcases dXY (d := d) with h | h <;> omega
      have c1 : IntKind.wrap .i64 ((x : Int) - dX d) = (x : Int) - dX d := wrap64 (by omega)
      have c2 : IntKind.wrap .i64 ((y : Int) - dY d) = (y : Int) - dY d := wrap64 (by omega)
      have hc2 := has456 (pu := true) (a := (x : Int) - dX d) (b := (y : Int) - dY d) hw hr'
      cases hp : hasF f x y with
      | false =>
        rw [hp] at hc hs
        simp at hs
        simp [b362_2, h9, h0, h1, h5, h6, h7, h8, hxx, hc, skip, e5, ← Nat.add_assoc, hs]
        exact hg
      | true =>
        rw [hp] at hc hs
        cases hb : hasI f ((x : Int) - dX d) ((y : Int) - dY d) with
        | true =>
          rw [hb] at hc2
          have : begB f d x y = false := by simp [begB, hb]
          rw [this] at hs
          simp at hs
          simp [b362_2, h9, h0, h1, h5, h6, h7, h8, hxx, hc, c1, c2, hc2, skip, e5, ← Nat.add_assoc, hs]
          exact hg
        | false =>
          rw [hb] at hc2
          have : begB f d x y = true := by simp [begB, hb]
          rw [this] at hs
          simp only [Bool.and_self, if_true] at hs
          simp [b362_2, h9, h0, h1, h5, h6, h7, h8, hxx, hc, c1, c2, hc2, skip]
          refine WK_loop (fun i e G' => G' = G ∧ e 0 = adr q off ver ∧ e 1 = .bool d ∧ e 5 = .int .i64 (dX d) ∧ e 6 = .int .i64 (dY d) ∧ e 7 = g ∧ e 8 = .int .i64 y ∧ e 9 = .int .i64 x ∧ e 10 = .int .i64 ((i : Int) + 1) ∧ ∀ j, j < i + 1 → 1 ≤ j → goB f d x y j = true) 11 ?_ (Nat.zero_le _) ⟨rfl, by simp [h0], by simp [h1], by simp [h5], by simp [h6], by simp [h7], by simp [h8], by simp [h9], by simp, fun j h1 h2 => by omega⟩
          rintro i e G' _ hi ⟨hG, h0, h1, h5, h6, h7, h8, h9, h10, hgo⟩
          obtain rfl := hG.symm
          obtain ⟨m1, m2, m3, m4⟩ := dXm (d := d) (n := i + 1) (by omega)
          have n1 : IntKind.wrap .i64 (((i : Int) + 1) * dX d) = ((i + 1 : Nat) : Int) * dX d := by rw [show (i : Int) + 1 = ((i + 1 : Nat) : Int) by omega, wrap64 (by omega)]
          have n2 : IntKind.wrap .i64 (((i : Int) + 1) * dY d) = ((i + 1 : Nat) : Int) * dY d := by rw [show (i : Int) + 1 = ((i + 1 : Nat) : Int) by omega, wrap64 (by omega)]
          have n3 : IntKind.wrap .i64 ((x : Int) + ((i + 1 : Nat) : Int) * dX d) = (x : Int) + ((i + 1 : Nat) : Int) * dX d := wrap64 (by omega)
          have n4 : IntKind.wrap .i64 ((y : Int) + ((i + 1 : Nat) : Int) * dY d) = (y : Int) + ((i + 1 : Nat) : Int) * dY d := wrap64 (by omega)
          have hc3 := has456 (pu := true) (a := (x : Int) + ((i + 1 : Nat) : Int) * dX d) (b := (y : Int) + ((i + 1 : Nat) : Int) * dY d) hw hr'
          have hgd : hasI f ((x : Int) + ((i + 1 : Nat) : Int) * dX d) ((y : Int) + ((i + 1 : Nat) : Int) * dY d) = goB f d x y (i + 1) := rfl
          rw [hgd] at hc3
          cases hgi : goB f d x y (i + 1) with
          | true =>
            rw [hgi] at hc3
            have hne : i + 1 ≠ 12 := fun h => by rw [h, goB_end] at hgi; cases hgi
            have n5 : IntKind.wrap .i64 ((i : Int) + 1 + 1) = (i : Int) + 1 + 1 := wrap64 (by omega)
            simp [b362_1, h0, h1, h5, h6, h7, h8, h9, h10, n1, n2, n3, n4, hc3, n5, -Int.natCast_add]
            refine ⟨by omega, by omega, fun j hj h1 => ?_⟩
            rcases Nat.lt_or_ge j (i + 1) with h3 | h3
            · exact hgo j h3 h1
            · obtain rfl : j = i + 1 := by omega
              exact hgi
          | false =>
            rw [hgi] at hc3
            have hrun := runN_is (f := f) (d := d) (x := x) (y := y) (n := i + 1) (by omega) (by omega) hgo hgi
            rw [hrun] at hs
            obtain ⟨g', G', hpush, hg'⟩ := hg.push (c := skC ⟨x, y, ((i + 1 : Nat) : Int), d⟩) (bytes := 4) rfl (room4 (by omega)) (wb := false)
            have w1 : IntKind.wrap .i8 (x : Int) = x := wrap8 (by omega)
            have w2 : IntKind.wrap .i8 (y : Int) = y := wrap8 (by omega)
            have w3 : IntKind.wrap .i8 ((i : Int) + 1) = ((i + 1 : Nat) : Int) := by rw [wrap8 (by omega)]; omega
            have hfa : fill [.int .i8 0, .int .i8 0, .int .i8 0, .bool false] [(0, 1, .int .i8 (x : Int)), (1, 1, .int .i8 (y : Int)), (2, 1, .int .i8 ((i + 1 : Nat) : Int)), (3, 1, .bool d)] = some (skC ⟨x, y, ((i + 1 : Nat) : Int), d⟩) := rfl
            simp [b362_1, h0, h1, h5, h6, h7, h8, h9, h10, n1, n2, n3, n4, hc3, w1, w2, w3, hfa, fillS, hpush, e5, ← Nat.add_assoc, hs, sksC_app, sksC_one, -Int.natCast_add]
            exact hg'
    · rintro e G _ h9 ⟨h0, h1, h5, h6, h8, g, h7, hg⟩
      simp [b362_2, h9, h0, h1, h5, h6, h7, h8, e4, Nat.add_mul]
      exact hg
  · rintro e G _ h8 ⟨h0, h1, h5, h6, g, h7, hg⟩
    simp [b362_3, h8]
    exact hq _ _ g (by simp [h7]) hg
theorem call362 {pu : Bool} {H : Heap} {f : List Int} {q off ver : Nat} {d : Bool} (hw : FrW f) (hr : rd H q off ver 12 = some (cs .u16 f)) :
    Call tab pu 362 [adr q off ver, .bool d] H = some (slc H.length 0 0 (skS f d 144).length (skS f d 144).length, H ++ [⟨sksC (skS f d 144), 4, 0, false⟩]) := by
  refine Call_wp t362 (.inr rfl) rfl ?_
  cases d
  · simp [c362, k362, fill, rep]
    refine loop362 (d := false) hw hr (by simp) (by simp) (by simp [dX]) (by simp [dY]) rfl (by simp; exact Gr.new .refl) (by simp) fun e' G' g h7 hg => ?_
    simp [h7, hg.fin sksC_flat]
  · simp [c362, k362, fill, rep]
    refine loop362 (d := true) hw hr (by simp) (by simp) (by simp [dX]) (by simp [dY]) rfl (by simp; exact Gr.new .refl) (by simp) fun e' G' g h7 hg => ?_
    simp [h7, hg.fin sksC_flat]
/-- Strokes of the first dots. -/
def skD (f : List Int) (d : Bool) (j : Nat) : List Sk := (((dotL f 144).take j).filter (begK f d)).map (mkSk f d)
theorem skD_all {f : List Int} {d : Bool} : skD f d (dotL f 144).length = skS f d 144 := by
  unfold skD skS dotL
  rw [List.take_length, List.filter_filter]
  congr 1
  apply List.filter_congr
  intro p _
  rw [Bool.and_comm]
theorem skD_len {f : List Int} {d : Bool} {j : Nat} : (skD f d j).length ≤ j := by
  unfold skD
  rw [List.length_map]
  have h1 := List.length_filter_le (begK f d) ((dotL f 144).take j)
  have h2 : ((dotL f 144).take j).length ≤ j := by simp; omega
  omega
/-- A list that grows, in a block that one knows. -/
def GrB (H G : Heap) (b : Nat) (x : Value) (esz n : Nat) (vs : List Value) : Prop := ∃ ver, x = slc b 0 ver n n ∧ G[b]? = some ⟨vs, esz, ver, false⟩ ∧ H.length ≤ b ∧ vs.length = n * esz ∧ Pre H G
theorem GrB.gr {H G : Heap} {b : Nat} {x : Value} {esz n : Nat} {vs : List Value} (g : GrB H G b x esz n vs) : Gr H G x esz n vs := by
  obtain ⟨ver, h⟩ := g
  exact ⟨b, ver, h⟩
theorem GrB.push {H G : Heap} {b : Nat} {x : Value} {esz n bytes : Nat} {vs c : List Value} (g : GrB H G b x esz n vs) (hc : c.length = esz) (hb : (n + 1) * bytes ≤ roomMax) {wb : Bool} :
    ∃ x' G', ((srcOf esz (G ++ [⟨c, esz, 0, false⟩]) (slc G.length 0 0 1 1)).bind fun q => appendTo H.length wb esz bytes (G ++ [⟨c, esz, 0, false⟩]) x q.1 q.2) = some (x', G') ∧ GrB H G' b x' esz (n + 1) (vs ++ c) ∧ ∀ b', b' ≠ b → b' < G.length → G'[b']? = G[b']? := by
  obtain ⟨ver, rfl, h1, h2, h3, h4⟩ := g
  have h1' : (G ++ [(⟨c, esz, 0, false⟩ : Blk)])[b]? = some ⟨vs, esz, ver, false⟩ := by rw [List.getElem?_append_left (List.getElem?_eq_some_iff.1 h1).1]; exact h1
  have e1 : srcOf esz (G ++ [⟨c, esz, 0, false⟩]) (slc G.length 0 0 1 1) = some (1, c) := by
    show (rd (G ++ [⟨c, esz, 0, false⟩]) G.length 0 0 (1 * esz)).map (fun cs => (1, cs)) = _
    rw [Nat.one_mul, rd_last rfl (by simpa using hc)]; rfl
  refine ⟨slc b 0 (ver + 1) (n + 1) (n + 1), (G ++ [(⟨c, esz, 0, false⟩ : Blk)]).set b ⟨vs ++ c, esz, ver + 1, false⟩, ?_, ⟨ver + 1, rfl, get_set h1', h2, by simp [h3, hc, Nat.succ_mul], (h4.app).set h2⟩, fun b' hne hlt => ?_⟩
  · rw [e1, Option.bind_some]
    exact appendTo_grow h1' rfl rfl (by simp [may, h2]) rfl h3.symm (by omega) hb
  · rw [List.getElem?_set_ne (fun h => hne h.symm), List.getElem?_append_left hlt]
theorem loop363 {H G : Heap} {f : List Int} {x0 : Value} {d : Bool} (hw : FrW f) {bl bd : Nat} (hne : bd ≠ bl) (hx0 : x0 = slc bd 0 0 (dotL f 144).length (dotL f 144).length) {fs : List Fr} {Q : Ex → Env → Heap → Prop} {e : Env} {g0 : Value} (pG : G[bd]? = some ⟨dotC f 144, 2, 0, false⟩)
    (h1 : e 1 = .bool d) (h2 : e 2 = iv .u16 f) (h5 : e 5 = .int .i64 (dX d)) (h6 : e 6 = .int .i64 (dY d)) (h7 : e 7 = g0) (hg : GrB H G bl g0 4 0 []) (h16 : e 16 = x0) (h17 : e 17 = .int .i64 (dotL f 144).length) (h18 : e 18 = .int .i64 0)
    (hq : ∀ e' G' g, e' 7 = g → Gr H G' g 4 (skS f d 144).length (sksC (skS f d 144)) → KK tab H.length false (.exit 0) fs e' G' Q) : WK tab H.length false (.loop b363_2) fs e G Q := by
  have hle := dotL_len (f := f) (k := 144)
  refine WP_count 18 (dotL f 144).length _ rfl (fun j e G => e 1 = .bool d ∧ e 2 = iv .u16 f ∧ e 5 = .int .i64 (dX d) ∧ e 6 = .int .i64 (dY d) ∧ e 16 = x0 ∧ e 17 = .int .i64 (dotL f 144).length ∧ G[bd]? = some ⟨dotC f 144, 2, 0, false⟩ ∧ ∃ g, e 7 = g ∧ GrB H G bl g 4 (skD f d j).length (sksC (skD f d j))) (by omega) ?_ ?_ h18 ⟨h1, h2, h5, h6, h16, h17, pG, g0, h7, hg⟩
  · rintro j e G _ hj hjj e5 h18 ⟨h1, h2, h5, h6, h16, h17, pG, g, h7, hg⟩
    obtain ⟨y, x, hp, hy, hx, hni, htk⟩ := dotL_at hj
    have hcl : (dotC f 144).length = (dotL f 144).length * 2 := by rw [dotC, mvsC_length]; simp
    have hs0 : SlR G x0 2 (dotL f 144).length (dotC f 144) := ⟨hcl, .inr ⟨bd, 0, 0, _, hx0, Nat.le_refl _, by rw [rd_at pG rfl (by simp [hcl])]; simp [take_all (Nat.le_of_eq hcl)], _, pG, rfl, rfl⟩⟩
    obtain ⟨b, off, ver, ha, hr⟩ := hs0.get1 hj
    have hel : elem (dotC f 144) 2 j = mvC ((x : Int), (y : Int)) := by
      rw [dotC, mvsC_elem (by simpa using hj), mv_map hj, hp, dotM_yx hx]
    rw [hel] at hr
    have hlen := skD_len (f := f) (d := d) (j := j)
    have hdd : -1 ≤ dX d ∧ dX d ≤ 1 ∧ -1 ≤ dY d ∧ dY d ≤ 1 := by rcases dXY (d := d) with h | h <;> omega
    have c1 : IntKind.wrap .i64 ((x : Int) - dX d) = (x : Int) - dX d := wrap64 (by omega)
    have c2 : IntKind.wrap .i64 ((y : Int) - dY d) = (y : Int) - dY d := wrap64 (by omega)
    have w1 : IntKind.wrap .i64 (x : Int) = x := wrap64 (by omega)
    have w2 : IntKind.wrap .i64 (y : Int) = y := wrap64 (by omega)
    have hc2 := has395 (pu := true) (H := G) (a := (x : Int) - dX d) (b := (y : Int) - dY d) hw
    have hs : skD f d (j + 1) = skD f d j ++ if begB f d x y = true then [⟨x, y, runN f d x y, d⟩] else [] := by
      unfold skD
      rw [htk, List.filter_append, List.map_append]
      congr 1
      have e1 : (y * 12 + x) % 12 = x := by omega
      have e2 : (y * 12 + x) / 12 = y := by omega
      cases h : begB f d x y <;> simp [begK, mkSk, e1, e2, h]
    cases hb : hasI f ((x : Int) - dX d) ((y : Int) - dY d) with
    | true =>
      rw [hb] at hc2
      have : begB f d x y = false := by simp [begB, hb]
      rw [this] at hs
      simp at hs
      simp [b363_2, h18, h1, h2, h5, h6, h7, h16, h17, hjj, ha, hr, mvC, stc2c, ldc2, ldc2b, w1, w2, hw.len, c1, c2, hc2, e5, hs]
      exact ⟨pG, hg⟩
    | false =>
      rw [hb] at hc2
      have : begB f d x y = true := by simp [begB, hb]
      rw [this] at hs
      simp only [if_true] at hs
      simp [b363_2, h18, h1, h2, h5, h6, h7, h16, h17, hjj, ha, hr, mvC, stc2c, ldc2, ldc2b, w1, w2, hw.len, c1, c2, hc2]
      refine WK_loop (fun i e G' => G' = G ∧ e 1 = .bool d ∧ e 2 = iv .u16 f ∧ e 5 = .int .i64 (dX d) ∧ e 6 = .int .i64 (dY d) ∧ e 7 = g ∧ e 9 = agg (mvC ((x : Int), (y : Int))) ∧ e 10 = .int .i64 x ∧ e 11 = .int .i64 y ∧ e 16 = x0 ∧ e 17 = .int .i64 (dotL f 144).length ∧ e 18 = .int .i64 j ∧ e 12 = .int .i64 ((i : Int) + 1) ∧ ∀ j, j < i + 1 → 1 ≤ j → goB f d x y j = true) 11 ?_ (Nat.zero_le _) ⟨rfl, by simp [h1], by simp [h2], by simp [h5], by simp [h6], by simp [h7], by simp [mvC], by simp, by simp, by simp [h16], by simp [h17], by simp [h18], by simp, fun j h1 h2 => by omega⟩
      rintro i e G' _ hi ⟨hG, h1, h2, h5, h6, h7, h9, h10, h11, h16, h17, h18, h12, hgo⟩
      obtain rfl := hG.symm
      obtain ⟨m1, m2, m3, m4⟩ := dXm (d := d) (n := i + 1) (by omega)
      have n1 : IntKind.wrap .i64 (((i : Int) + 1) * dX d) = ((i + 1 : Nat) : Int) * dX d := by rw [show (i : Int) + 1 = ((i + 1 : Nat) : Int) by omega, wrap64 (by omega)]
      have n2 : IntKind.wrap .i64 (((i : Int) + 1) * dY d) = ((i + 1 : Nat) : Int) * dY d := by rw [show (i : Int) + 1 = ((i + 1 : Nat) : Int) by omega, wrap64 (by omega)]
      have n3 : IntKind.wrap .i64 ((x : Int) + ((i + 1 : Nat) : Int) * dX d) = (x : Int) + ((i + 1 : Nat) : Int) * dX d := wrap64 (by omega)
      have n4 : IntKind.wrap .i64 ((y : Int) + ((i + 1 : Nat) : Int) * dY d) = (y : Int) + ((i + 1 : Nat) : Int) * dY d := wrap64 (by omega)
      have hc3 := has395 (pu := true) (H := G) (a := (x : Int) + ((i + 1 : Nat) : Int) * dX d) (b := (y : Int) + ((i + 1 : Nat) : Int) * dY d) hw
      have hgd : hasI f ((x : Int) + ((i + 1 : Nat) : Int) * dX d) ((y : Int) + ((i + 1 : Nat) : Int) * dY d) = goB f d x y (i + 1) := rfl
      rw [hgd] at hc3
      cases hgi : goB f d x y (i + 1) with
      | true =>
        rw [hgi] at hc3
        have hne : i + 1 ≠ 12 := fun h => by rw [h, goB_end] at hgi; cases hgi
        have n5 : IntKind.wrap .i64 ((i : Int) + 1 + 1) = (i : Int) + 1 + 1 := wrap64 (by omega)
        simp [b363_1, h1, h2, h5, h6, h7, h9, h10, h11, h12, h16, h17, h18, hw.len, n1, n2, n3, n4, hc3, n5, -Int.natCast_add]
        refine ⟨by omega, by omega, fun j hj h1 => ?_⟩
        rcases Nat.lt_or_ge j (i + 1) with h3 | h3
        · exact hgo j h3 h1
        · obtain rfl : j = i + 1 := by omega
          exact hgi
      | false =>
        rw [hgi] at hc3
        have hrun := runN_is (f := f) (d := d) (x := x) (y := y) (n := i + 1) (by omega) (by omega) hgo hgi
        rw [hrun] at hs
        obtain ⟨g', G', hpu, hg', pk⟩ := hg.push (c := skC ⟨x, y, ((i + 1 : Nat) : Int), d⟩) (bytes := 4) rfl (room4 (by omega)) (wb := false)
        have pG' : G'[bd]? = some ⟨dotC f 144, 2, 0, false⟩ := by rw [pk bd hne (List.getElem?_eq_some_iff.1 pG).1]; exact pG
        have w3 : IntKind.wrap .i8 ((i : Int) + 1) = ((i + 1 : Nat) : Int) := by rw [wrap8 (by omega)]; omega
        have hfa : fill [.int .i8 0, .int .i8 0, .int .i8 0, .bool false] [(0, 1, .int .i8 (x : Int)), (1, 1, .int .i8 (y : Int)), (2, 1, .int .i8 ((i + 1 : Nat) : Int)), (3, 1, .bool d)] = some (skC ⟨x, y, ((i + 1 : Nat) : Int), d⟩) := rfl
        simp [b363_1, h1, h2, h5, h6, h7, h9, h10, h11, h12, h16, h17, h18, hw.len, n1, n2, n3, n4, hc3, mvC, ldc2, ldc2b, w3, hfa, fillS, hpu, e5, hs, sksC_app, sksC_one, -Int.natCast_add]
        exact ⟨pG', hg'⟩
  · rintro e G _ h18 ⟨h1, h2, h5, h6, h16, h17, pG, g, h7, hg⟩
    rw [skD_all] at hg
    simp [b363_2, h18, h17]
    exact hq _ _ g (by simp [h7]) hg.gr
theorem call363 {pu : Bool} {H : Heap} {f : List Int} {d : Bool} (hw : FrW f) :
    Call tab pu 363 [iv .u16 f, .bool d] H = some (slc H.length 0 0 (skS f d 144).length (skS f d 144).length, H ++ [⟨sksC (skS f d 144), 4, 0, false⟩]) := by
  refine Call_wp t363 (.inr rfl) rfl ?_
  have hc := call449 (pu := true) (H := H ++ [⟨[], 4, 0, false⟩]) hw
  have hl : (H ++ [(⟨[], 4, 0, false⟩ : Blk)]).length = H.length + 1 := by simp
  obtain ⟨G0, hG0⟩ : ∃ G, G = H ++ [(⟨[], 4, 0, false⟩ : Blk)] := ⟨_, rfl⟩
  rw [← hG0] at hc hl
  have hcl : (dotC f 144).length = (dotL f 144).length * 2 := by rw [dotC, mvsC_length]; simp
  have hs0 : SlR (G0 ++ [⟨dotC f 144, 2, 0, false⟩]) (slc G0.length 0 0 (dotL f 144).length (dotL f 144).length) 2 (dotL f 144).length (dotC f 144) :=
    ⟨hcl, .inr ⟨_, 0, 0, _, rfl, Nat.le_refl _, rd_last rfl hcl, _, get_last, rfl, rfl⟩⟩
  have hlast : (G0 ++ [(⟨dotC f 144, 2, 0, false⟩ : Blk)])[G0.length]? = some ⟨dotC f 144, 2, 0, false⟩ := get_last
  have hg0 : GrB H (G0 ++ [⟨dotC f 144, 2, 0, false⟩]) H.length (slc H.length 0 0 0 0) 4 0 [] := ⟨0, rfl, by rw [hG0, List.getElem?_append_left (by simp)]; exact get_last, Nat.le_refl _, rfl, by rw [hG0]; exact Pre.one.app⟩
  generalize hx0 : slc G0.length 0 0 (dotL f 144).length (dotL f 144).length = x0 at hc hs0
  cases d
  · simp [c363, k363, fill, rep, ← hG0, hw.len, hc, hs0.lenV]
    refine loop363 (d := false) hw (bl := H.length) (bd := G0.length) (by omega) hx0.symm hlast (by simp) (by simp) (by simp [dX]) (by simp [dY]) rfl (by simp; exact hg0) (by simp) (by simp) (by simp) fun e' G' g h7 hg => ?_
    simp [h7, hg.fin sksC_flat]
  · simp [c363, k363, fill, rep, ← hG0, hw.len, hc, hs0.lenV]
    refine loop363 (d := true) hw (bl := H.length) (bd := G0.length) (by omega) hx0.symm hlast (by simp) (by simp) (by simp [dX]) (by simp [dY]) rfl (by simp; exact hg0) (by simp) (by simp) (by simp) fun e' G' g h7 hg => ?_
    simp [h7, hg.fin sksC_flat]
/-- What a function makes of some arguments: a list of its own, and a code. -/
def RsV (f : Nat) (args : List Value) (eszR nR : Nat) (vsR : List Value) (c : Int) : Prop := ∀ (G : Heap), ∃ r G' β, Call tab true f args G = some (tup [r, .int .i64 c], G') ∧ Pre G G' ∧ Own G' r β G.length eszR nR vsR
def skR (f : List Int) (d : Bool) : List Sk := if okF f = true then skS f d 144 else []
def frCode (f : List Int) : Int := if okF f = true then 0 else 1
theorem call137 {f : List Int} {d : Bool} (hw : FrW f) : RsV 137 [iv .u16 f, .bool d] 4 (skR f d).length (sksC (skR f d)) (frCode f) := by
  intro H
  cases hk : okF f with
  | false =>
    refine ⟨.slice none 0 0, H, none, Call_wp t137 (.inr rfl) rfl ?_, .refl, by rw [sksC_length], rfl, by simp [skR, hk]⟩
    simp [c137, k137, hw.len, call234 hw.len, hk, finish_nil2, frCode]
  | true =>
    have hr : skR f d = skS f d 144 := if_pos hk
    refine ⟨slc H.length 0 0 (skR f d).length (skR f d).length, H ++ [⟨sksC (skR f d), 4, 0, false⟩], some H.length, Call_wp t137 (.inr rfl) rfl ?_, Pre.one, own_new (sksC_length)⟩
    have hg : Gr H (H ++ [⟨sksC (skS f d 144), 4, 0, false⟩]) (slc H.length 0 0 (skS f d 144).length (skS f d 144).length) 4 (skS f d 144).length (sksC (skS f d 144)) := ⟨_, _, rfl, get_last, Nat.le_refl _, sksC_length, Pre.one⟩
    have hf := hg.fin2 sksC_flat (c := 0)
    simp [c137, k137, hw.len, call234 hw.len, hk, call363 hw, hf, hr, frCode]
theorem call136 {f : List Int} {d : Bool} (hw : FrW f) : RsV 136 [iv .u16 f, .bool d] 4 (skR f d).length (sksC (skR f d)) (frCode f) := by
  intro H
  obtain ⟨G, hG⟩ : ∃ G, G = H ++ [⟨cs .u16 f, 1, 0, false⟩] := ⟨_, rfl⟩
  have hP : Pre H G := by rw [hG]; exact Pre.one
  have hrd : rd G H.length 0 0 12 = some (cs .u16 f) := by rw [hG]; exact rd_last rfl (by simp [hw.len])
  have hc := call359 (pu := true) hw.len hrd
  refine ⟨slc H.length 0 0 (skR f d).length (skR f d).length, H ++ [⟨sksC (skR f d), 4, 0, false⟩], some H.length, Call_wp t136 (.inr rfl) rfl ?_, Pre.one, own_new (sksC_length)⟩
  cases hk : okF f with
  | false =>
    have hfin := (Gr.new (H := H) (G := G) (esz := 4) hP).fin2 (c := 1) (by intro v hv; simp at hv)
    simp [c136, k136, hw.len, ← hG, hc, hk, fill, rep, hfin, skR, frCode, sksC, rowsC]
  | true =>
    have hr : skR f d = skS f d 144 := if_pos hk
    have hg : Gr H (G ++ [⟨sksC (skS f d 144), 4, 0, false⟩]) (slc G.length 0 0 (skS f d 144).length (skS f d 144).length) 4 (skS f d 144).length (sksC (skS f d 144)) := ⟨_, _, rfl, get_last, hP.len, sksC_length, hP.app⟩
    have hf := hg.fin2 sksC_flat (c := 0)
    simp [c136, k136, hw.len, ← hG, hc, hk, call362 hw hrd, hf, hr, frCode]
def fewR (f : List Int) : List Sk := if okF f = true then if (skS f true 144).length < (skS f false 144).length then skS f true 144 else skS f false 144 else []
end Fb
