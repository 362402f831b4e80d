/- What each function computes. -/
import Derived.Test.YtimijcjjmeemeaaTab
import Derived.Test.YtimijcjjmeemeaaPl
set_option linter.unusedVariables false
set_option linter.unusedSimpArgs false
namespace Fb
open Go
theorem call304 {pu : Bool} {a b c : Int} {H : Heap} : Call tab pu 304 [.int .i64 a, .int .i64 b, .int .i64 c] H = some (.bool (decide (b ≤ a ∧ a ≤ c)), H) := by
  refine Call_wp t304 (.inr rfl) rfl ?_
  by_cases h : b ≤ a <;> simp [c304, k304, h, skip]
theorem call295 {pu : Bool} {a b c : Int} {H : Heap} : Call tab pu 295 [.int .i64 a, .int .i64 b, .int .i64 c] H = some (.bool (decide (b ≤ a ∧ a ≤ c)), H) := by
  refine Call_wp t295 (.inr rfl) rfl ?_
  by_cases h : b ≤ a <;> simp [c295, k295, h, skip]
/-- A number that fits. -/
abbrev i16 (n : Int) : Prop := -32768 ≤ n ∧ n ≤ 32767
def okL (n : Int) : Bool := decide (0 ≤ n ∧ n ≤ 1000)
def okAll (l : List Int) : Bool := l.all okL
theorem upto_succ {p : Nat → Prop} {i : Nat} (h : ∀ j, j < i → p j) (hi : p i) : ∀ j, j < i + 1 → p j := by
  intro j hj
  rcases Nat.lt_or_ge j i with h1 | h1
  · exact h j h1
  · obtain rfl : j = i := by omega
    exact hi
theorem all_false {l : List Int} {p : Int → Bool} {x : Int} (h : x ∈ l) (hp : p x = false) : l.all p = false := by
  rw [List.all_eq_false]; exact ⟨x, h, by simp [hp]⟩
/-- The first m numbers of a row are turned. -/
def part (f : Int → Int) (m : Nat) (l : List Int) : List Int := (l.take m).map f ++ l.drop m
theorem stc_at {k : IntKind} {l l' : List Int} {i : Nat} {n : Int} (h : i < l.length) (hl : l.set i n = l') : stc (iv k l) i [.int k n] = some (iv k l') := by rw [stc_one h rfl, hl]
theorem stc_zr {k : IntKind} {n : Nat} {l : List Int} (h : l.length = n) : stc (iv k (zr n 0)) 0 (cs k l) = some (iv k l) := stc_all (by simp [h])
def bit (x : Nat) : Int := 2 ^ x
theorem bit_ok {x : Nat} (h : x < 12) : 0 < bit x ∧ bit x ≤ 2048 := by
  have : x = 0 ∨ x = 1 ∨ x = 2 ∨ x = 3 ∨ x = 4 ∨ x = 5 ∨ x = 6 ∨ x = 7 ∨ x = 8 ∨ x = 9 ∨ x = 10 ∨ x = 11 := by omega
  rcases this with rfl | rfl | rfl | rfl | rfl | rfl | rfl | rfl | rfl | rfl | rfl | rfl <;> decide
theorem shl_bit {x : Nat} (h : x < 12) : shiftOf .shl .u16 1 (x : Int) = some (.int .u16 (bit x)) := by
  have hb := bit_ok h
  unfold shiftOf
  rw [if_neg (by omega)]
  have e1 : min ((x : Int).toNat) (IntKind.bits .u16) = x := by
    have : IntKind.bits .u16 = 16 := rfl
    omega
  simp only [e1]
  show some (Value.int .u16 (IntKind.wrap .u16 (1 * bit x))) = _
  rw [Int.one_mul, wrapu16 (by omega)]
def putR (row : Int) (x : Nat) : Int := bitsOf .or .u16 row (bit x)
def putF (l : List Int) (x y : Nat) : List Int := l.set y (putR (nth l y) x)
theorem putR_eq {a : Int} {x : Nat} : bitsOf .or .u16 a (bit x) = putR a x := rfl
theorem putF_eq {l : List Int} {x y : Nat} : l.set y (putR (nth l y) x) = putF l x y := rfl
theorem putF_length {l : List Int} {x y : Nat} : (putF l x y).length = l.length := by simp [putF]
theorem call342 {pu : Bool} {H : Heap} {x y : Nat} (hx : x < 12) (hy : y < 12) : Call tab pu 342 [.int .i64 x, .int .i64 y] H = some (.bool true, H) := by
  refine Call_wp t342 (.inr rfl) rfl ?_
  have e1 : (x : Int) ≤ 11 := by omega
  have e2 : (y : Int) ≤ 11 := by omega
  simp [c342, k342, call304, e1, e2]
theorem call305 {H : Heap} {b ver esz : Nat} {l : List Int} (hg : H[b]? = some ⟨cs .u16 l, esz, ver, false⟩) {x y : Nat} (hl : l.length = 12) (hx : x < 12) (hy : y < 12) :
    Call tab false 305 [adr b 0 ver, .int .i64 x, .int .i64 y] H = some (tup [], H.set b ⟨cs .u16 (putF l x y), esz, ver, false⟩) := by
  refine Call_wp t305 (.inl rfl) rfl ?_
  have hr := rd_at (off := 0) (n := 12) (ver := ver) hg rfl (by simp [hl])
  simp [take_all, hl] at hr
  have h1 := rd_one hr hy
  have h2 := fun v => wr_at (n0 := H.length) (wb := true) (off := y) (vs := [.int .u16 v]) (ver := ver) hg rfl rfl (may_ints (l := [v])) (by simp [hl]; omega)
  have h3 : ∀ v, splice (cs .u16 l) y [.int .u16 v] = cs .u16 (l.set y v) := fun v => by rw [splice_one (by simp [hl]; omega)]; simp [cs, List.map_set]
  rw [Nat.zero_add] at h1
  simp (disch := omega) [c305, k305, call342 hx hy, hy, hx, shl_bit, h1, h2, h3, wbOf, take_all, putR_eq, putF_eq, hl]
def roomN (n : Nat) : Nat := if n % 6 = 5 then 0 else if n % 3 = 0 then 1 else n
/-- The i-th of a row of things. -/
def elem (vs : List Value) (esz i : Nat) : List Value := (vs.drop (i * esz)).take esz
theorem mul_next {i n esz : Nat} (h : i < n) : i * esz + esz ≤ n * esz := by
  have := Nat.mul_le_mul_right esz (show i + 1 ≤ n from h)
  rwa [Nat.succ_mul] at this
/-- A slice that can be read. -/
structure SlR (H : Heap) (x : Value) (esz n : Nat) (vs : List Value) : Prop where
  size : vs.length = n * esz
  is : (x = .slice none 0 0 ∧ n = 0) ∨ ∃ b off ver cap, x = slc b off ver n cap ∧ n ≤ cap ∧ rd H b off ver (n * esz) = some vs ∧ ∃ k, H[b]? = some k ∧ ver = k.ver ∧ k.esz = esz
theorem SlR.lenV {H : Heap} {x : Value} {esz n : Nat} {vs : List Value} (h : SlR H x esz n vs) : lenV x = some (.int .i64 n) := by
  rcases h.is with ⟨rfl, rfl⟩ | ⟨b, off, ver, cap, rfl, _⟩ <;> rfl
theorem SlR.app {H L : Heap} {x : Value} {esz n : Nat} {vs : List Value} (h : SlR H x esz n vs) : SlR (H ++ L) x esz n vs :=
  ⟨h.size, h.is.imp id fun ⟨b, off, ver, cap, h1, h2, h3, k, h4, h5⟩ => ⟨b, off, ver, cap, h1, h2, rd_app h3, k, by rw [List.getElem?_append_left (List.getElem?_eq_some_iff.1 h4).1]; exact h4, h5⟩⟩
theorem SlR.get {H : Heap} {x : Value} {esz n : Nat} {vs : List Value} (h : SlR H x esz n vs) {i : Nat} (hi : i < n) : ∃ a, idxAV esz x (.int .i64 (i : Int)) = some a ∧ ldH H esz true a = some (agg (elem vs esz i)) := by
  rcases h.is with ⟨rfl, rfl⟩ | ⟨b, off, ver, cap, rfl, h2, h3, _⟩
  · omega
  · refine ⟨adr b (off + i * esz) ver, by rw [idxAV_slc, at_nat hi]; rfl, ?_⟩
    rw [ldH_adr, rd_part h3 (mul_next hi)]; rfl
theorem SlR.of {H : Heap} {x : Value} {esz n : Nat} {vs : List Value} (h1 : vs.length = n * esz) (h : (x = .slice none 0 0 ∧ n = 0) ∨ ∃ b cap, x = slc b 0 0 n cap ∧ n ≤ cap ∧ rd H b 0 0 (n * esz) = some vs ∧ ∃ k, H[b]? = some k ∧ 0 = k.ver ∧ k.esz = esz) : SlR H x esz n vs :=
  ⟨h1, h.imp id fun ⟨b, cap, h1, h2, h3⟩ => ⟨b, 0, 0, cap, h1, h2, h3⟩⟩
theorem rep_len {n : Nat} {z : List Value} : (rep n z).length = n * z.length := by
  induction n with
  | zero => simp [rep]
  | succ n ih => simp [rep, ih, Nat.succ_mul]; omega
/-- What leads nowhere. -/
def NoRef (vs : List Value) : Prop := ∀ v ∈ vs, ∀ n, old0 n v = true
theorem NoRef.all {vs : List Value} (h : NoRef vs) {n : Nat} : vs.all (old0 n) = true := List.all_eq_true.2 fun v hv => h v hv n
theorem NoRef.app {vs ws : List Value} (h : NoRef vs) (h' : NoRef ws) : NoRef (vs ++ ws) := fun v hv n => (List.mem_append.1 hv).elim (fun h1 => h v h1 n) (fun h1 => h' v h1 n)
theorem finish_slc {H G : Heap} {b ver len cap : Nat} {k : Blk} (hp : Pre H G) (hb : H.length ≤ b) (hk : G[b]? = some k) (hv : ver = k.ver) (hr : k.ro = false) (ho : k.cells.all (old0 H.length) = true) :
    finish H.length G [slc b 0 ver len cap] = (slc H.length 0 0 len cap, H ++ [{ k with ver := 0 }]) := by
  have hne : old1 H.length (slc b 0 ver len cap) = false := by
    show (true && decide (b < H.length)) = false
    simp; omega
  have : pack H.length G [slc b 0 ver len cap] [] [] = some ([slc H.length 0 0 len cap], [{ k with ver := 0 }]) := by
    rw [pack, if_neg (by rw [hne]; decide)]
    show (match G[b]? with
      | some k => if ([] : List Nat).contains b = false ∧ ver = k.ver ∧ k.ro = false ∧ k.cells.all (old0 H.length) = true then _ else none
      | none => none) = _
    rw [hk]
    simp only []
    rw [if_pos ⟨by simp, hv, hr, ho⟩]
    rfl
  rw [finish_some this, hp.take]; rfl
/-- The cells of a copy: with room behind. -/
def room (vs : List Value) (n : Nat) (fc : List Value) : List Value := vs ++ rep (roomN n) fc
theorem room_length {vs fc : List Value} {n esz : Nat} (hl : vs.length = n * esz) (hf : fc.length = esz) : (room vs n fc).length = (n + roomN n) * esz := by
  simp [room, rep_len, hl, hf, Nat.add_mul]
/-- What a copy looks like. -/
def IsCp (H : Heap) (x : Value) (esz n : Nat) (vs fc : List Value) : Prop := ∃ b ver, x = slc b 0 ver n (n + roomN n) ∧ H[b]? = some ⟨room vs n fc, esz, ver, false⟩
theorem IsCp.sl {H : Heap} {x : Value} {esz n : Nat} {vs fc : List Value} (h : IsCp H x esz n vs fc) (hl : vs.length = n * esz) (hf : fc.length = esz) : SlR H x esz n vs := by
  obtain ⟨b, ver, rfl, h⟩ := h
  refine ⟨hl, .inr ⟨b, 0, ver, _, rfl, by omega, ?_, _, h, rfl, rfl⟩⟩
  have := room_length hl hf
  rw [Nat.add_mul] at this
  rw [rd_at h rfl (by simp; omega)]
  simp [room, hl]
theorem IsCp.app {H L : Heap} {x : Value} {esz n : Nat} {vs fc : List Value} (h : IsCp H x esz n vs fc) : IsCp (H ++ L) x esz n vs fc := by
  obtain ⟨b, ver, rfl, h⟩ := h
  exact ⟨b, ver, rfl, by rw [List.getElem?_append_left (List.getElem?_eq_some_iff.1 h).1]; exact h⟩
theorem IsCp.mk {H : Heap} {esz n : Nat} {vs fc : List Value} : IsCp (H ++ [⟨room vs n fc, esz, 0, false⟩]) (slc H.length 0 0 n (n + roomN n)) esz n vs fc := ⟨_, _, rfl, get_last⟩
theorem SlR.pre {H G : Heap} {x : Value} {esz n : Nat} {vs : List Value} (p : Pre H G) (h : SlR H x esz n vs) : SlR G x esz n vs := by obtain ⟨L, rfl⟩ := p; exact h.app
theorem IsCp.pre {H G : Heap} {x : Value} {esz n : Nat} {vs fc : List Value} (p : Pre H G) (h : IsCp H x esz n vs fc) : IsCp G x esz n vs fc := by obtain ⟨L, rfl⟩ := p; exact h.app
/-- Things of a kind, one behind the other. -/
def rowsC {α : Type} (f : α → List Value) : List α → List Value
  | [] => []
  | a :: r => f a ++ rowsC f r
def at0 {α : Type} [Inhabited α] (l : List α) (i : Nat) : α := l.getD i default
theorem at0_mem {α : Type} [Inhabited α] {l : List α} {i : Nat} (h : i < l.length) : at0 l i ∈ l := by
  rw [at0, List.getD_eq_getElem?_getD, List.getElem?_eq_getElem h]; exact List.getElem_mem h
theorem at0_get {α : Type} [Inhabited α] {l : List α} {i : Nat} (h : i < l.length) : l[i]? = some (at0 l i) := by
  rw [at0, List.getD_eq_getElem?_getD, List.getElem?_eq_getElem h]; rfl
theorem rows_length {α : Type} {f : α → List Value} {esz : Nat} {l : List α} (hf : ∀ a ∈ l, (f a).length = esz) : (rowsC f l).length = l.length * esz := by
  induction l with
  | nil => simp [rowsC]
  | cons a r ih =>
    have h1 := ih fun b hb => hf b (by simp [hb])
    have h2 := hf a (by simp)
    simp [rowsC, h1, h2, Nat.succ_mul]; omega
theorem rows_elem {α : Type} [Inhabited α] {f : α → List Value} {esz : Nat} {l : List α} (hf : ∀ a ∈ l, (f a).length = esz) {i : Nat} (hi : i < l.length) : elem (rowsC f l) esz i = f (at0 l i) := by
  induction l generalizing i with
  | nil => simp at hi
  | cons a r ih =>
    have h2 := hf a (by simp)
    cases i with
    | zero => simp [elem, rowsC, at0, ← h2]
    | succ i =>
      have h1 := ih (fun b hb => hf b (by simp [hb])) (i := i) (by simpa using hi)
      rw [show at0 (a :: r) (i + 1) = at0 r i by simp [at0], ← h1]
      unfold elem
      rw [Nat.succ_mul, Nat.add_comm, ← List.drop_drop, rowsC, ← h2, List.drop_left]
theorem rows_flat {α : Type} {f : α → List Value} {l : List α} (hf : ∀ a ∈ l, NoRef (f a)) : NoRef (rowsC f l) := by
  induction l with
  | nil => intro v hv; simp [rowsC] at hv
  | cons a r ih => exact (hf a (by simp)).app (ih fun b hb => hf b (by simp [hb]))
theorem flat2 {k k' : IntKind} {a b : Int} : NoRef [.int k a, .int k' b] := by
  intro v hv n
  simp only [List.mem_cons, List.not_mem_nil, or_false] at hv
  rcases hv with rfl | rfl <;> exact old0_int
theorem flat_cs {k : IntKind} {l : List Int} : NoRef (cs k l) := by
  intro v hv n
  obtain ⟨a, _, rfl⟩ := List.mem_map.1 hv
  exact old0_int
theorem SlR.sub {H : Heap} {x : Value} {esz n : Nat} {vs : List Value} (h : SlR H x esz n vs) {lo hi : Nat} (h1 : lo ≤ hi) (h2 : hi ≤ n) {k k' : IntKind} :
    ∃ y, slcAV H esz x (some (.int k (lo : Int))) (some (.int k' (hi : Int))) none = some y ∧ SlR H y esz (hi - lo) ((vs.drop (lo * esz)).take ((hi - lo) * esz)) := by
  have hsz := h.size
  have e1 : hi * esz ≤ n * esz := Nat.mul_le_mul_right _ h2
  have e2 : (hi - lo) * esz + lo * esz = hi * esz := by rw [← Nat.add_mul]; congr 1; omega
  have hlen : ((vs.drop (lo * esz)).take ((hi - lo) * esz)).length = (hi - lo) * esz := by simp; omega
  rcases h.is with ⟨rfl, rfl⟩ | ⟨b, off, ver, cap, rfl, g2, g3, kk, g4, g5, g6⟩
  · obtain rfl : hi = 0 := by omega
    obtain rfl : lo = 0 := by omega
    exact ⟨.slice none 0 0, by simp [slcAV, mxOf, bnds, bnd], hlen, .inl ⟨rfl, rfl⟩⟩
  · refine ⟨_, slcAV_lohi g4 g5 g6 (by omega) h1, hlen, .inr ⟨b, _, ver, _, rfl, by omega, rd_part g3 (by omega), kk, g4, g5, g6⟩⟩
theorem SlR.lo {H : Heap} {x : Value} {esz n : Nat} {vs : List Value} (h : SlR H x esz n vs) {lo : Nat} (h2 : lo ≤ n) {k' : IntKind} :
    ∃ y, slcAV H esz x (some (.int k' (lo : Int))) none none = some y ∧ SlR H y esz (n - lo) (vs.drop (lo * esz)) := by
  have hsz := h.size
  have e1 : lo * esz ≤ n * esz := Nat.mul_le_mul_right _ h2
  have hlen : (vs.drop (lo * esz)).length = (n - lo) * esz := by rw [Nat.sub_mul]; simp; omega
  rcases h.is with ⟨rfl, rfl⟩ | ⟨b, off, ver, cap, rfl, g2, g3, kk, g4, g5, g6⟩
  · obtain rfl : lo = 0 := by omega
    exact ⟨.slice none 0 0, by simp [slcAV, mxOf, bnds, bnd], hlen, .inl ⟨rfl, rfl⟩⟩
  · refine ⟨slc b (off + lo * esz) ver (n - lo) (cap - lo), ?_, hlen, .inr ⟨b, _, ver, _, rfl, by omega, ?_, kk, g4, g5, g6⟩⟩
    · rw [slcAV_get g4 g5 g6]; simp [bnds, bnd_nat h2]
    · have e2 : (n - lo) * esz + lo * esz = n * esz := by rw [← Nat.add_mul]; congr 1; omega
      rw [rd_part g3 (by omega), List.take_of_length_le (by omega)]
abbrev i8 (n : Int) : Prop := -128 ≤ n ∧ n ≤ 127
/-- A move. -/
def mvC (m : Int × Int) : List Value := [.int .i8 m.1, .int .i8 m.2]
def mvsC (l : List (Int × Int)) : List Value := rowsC mvC l
def mv (l : List (Int × Int)) (i : Nat) : Int × Int := at0 l i
theorem mvsC_length {l : List (Int × Int)} : (mvsC l).length = l.length * 2 := rows_length (f := mvC) (esz := 2) fun _ _ => rfl
theorem mvsC_elem {l : List (Int × Int)} {i : Nat} (hi : i < l.length) : elem (mvsC l) 2 i = mvC (mv l i) := rows_elem (f := mvC) (esz := 2) (fun _ _ => rfl) hi
theorem mvsC_flat {l : List (Int × Int)} : NoRef (mvsC l) := rows_flat fun _ _ => flat2
theorem SlR.get1 {H : Heap} {x : Value} {esz n : Nat} {vs : List Value} (h : SlR H x esz n vs) {i : Nat} (hi : i < n) : ∃ b off ver, idxAV esz x (.int .i64 (i : Int)) = some (adr b off ver) ∧ rd H b off ver esz = some (elem vs esz i) := by
  rcases h.is with ⟨rfl, rfl⟩ | ⟨b, off, ver, cap, rfl, h2, h3, _⟩
  · omega
  · exact ⟨b, _, ver, by rw [idxAV_slc, at_nat hi]; rfl, rd_part h3 (mul_next hi)⟩
def chC (m : Int × Int) : List Value := [.int .i8 m.1, .int .u16 m.2]
def chsC (l : List (Int × Int)) : List Value := rowsC chC l
theorem chsC_length {l : List (Int × Int)} : (chsC l).length = l.length * 2 := rows_length (f := chC) (esz := 2) fun _ _ => rfl
def chF : List Value := [.int .i8 (-101), .int .u16 60201]
theorem old0_slc {n0 b off ver len cap : Nat} : old0 n0 (slc b off ver len cap) = decide (b < n0) := Bool.true_and _
def howC (a : Int) : Int := nth [1, 2, 4] a.toNat
def costV (a : Int) (n : Nat) : Int := howC a + 3 * n
def ixFB1 (esz : Nat) (g : Bool) : Cd :=
  (.seq
   (.reg [9] [
     ⟨none, (some 9), .bin .lss (.t 8) (.t 7), []⟩])
   (.seq
    (.cond (.t 9)
     .skip
     (.exit 0))
    (.seq
     (.block 1
      (.seq
       (.reg [5] [
         ⟨none, (some 10), .mov (.t 8), []⟩,
         ⟨none, (some 5), .mov (.t 10), []⟩])
       (.seq
        (.reg [16] [
          ⟨none, (some 11), .mov (.t 1), []⟩,
          ⟨none, (some 12), .mov (.t 0), []⟩,
          ⟨none, (some 13), .mov (.t 5), []⟩,
          ⟨none, (some 14), .idxA esz (.t 12) (.t 13), []⟩,
          ⟨none, (some 15), .ld esz g (.t 14), []⟩,
          ⟨none, (some 16), .callv (.t 11) [.t 15], []⟩])
        (.cond (.t 16)
         (.seq
          (.reg [4] [
            ⟨none, (some 17), .mov (.t 5), []⟩,
            ⟨none, (some 4), .mov (.t 17), []⟩])
          .ret)
         .skip))))
     (.reg [8] [
       ⟨none, (some 18), .bin .add (.t 8) (.c (.int .i64 1)), []⟩,
       ⟨none, (some 8), .mov (.t 18), []⟩]))))
def ixFK (esz : Nat) (g : Bool) : Cd :=
  (.seq
   (.reg [4] [
     ⟨none, (some 4), .mov (.c (.int .i64 0)), []⟩])
   (.seq
    (.seq
     (.reg [7, 8] [
       ⟨none, (some 6), .mov (.t 0), []⟩,
       ⟨none, (some 7), .len (.t 6), []⟩,
       ⟨none, (some 8), .mov (.c (.int .i64 0)), []⟩])
     (.block 0
      (.loop (ixFB1 esz g))))
    (.seq
     (.reg [4] [
       ⟨none, (some 4), .mov (.c (.int .i64 (-1))), []⟩])
     .ret)))
def ixFC (esz : Nat) (g : Bool) : Fn := { np := 2, nt := 19, kind := .pure, res := [.t 4], body := ixFK esz g }
def ctFK (ix : Nat) : Cd :=
  (.seq
   (.reg [4] [
     ⟨none, (some 4), .mov (.c (.bool false)), []⟩])
   (.seq
    (.reg [4] [
      ⟨none, (some 5), .mov (.t 0), []⟩,
      ⟨none, (some 6), .mov (.t 1), []⟩,
      ⟨none, (some 7), .call true ix [.t 5, .t 6], []⟩,
      ⟨none, (some 8), .bin .geq (.t 7) (.c (.int .i64 0)), []⟩,
      ⟨none, (some 4), .mov (.t 8), []⟩])
    .ret))
def ctFC (ix : Nat) : Fn := { np := 2, nt := 9, kind := .pure, res := [.t 4], body := ctFK ix }
/-- The first place with p below n, or -1. -/
def findN (p : Nat → Bool) (n : Nat) : Int := match (List.range n).find? p with
  | some i => i
  | none => -1
def anyN (p : Nat → Bool) (n : Nat) : Bool := (List.range n).any p
theorem findN_some {p : Nat → Bool} {n i : Nat} (hi : i < n) (hn : ∀ j, j < i → p j = false) (hp : p i = true) : findN p n = i := by
  unfold findN
  have : (List.range n).find? p = some i := by
    rw [List.find?_range_eq_some]
    exact ⟨hp, by simpa using hi, fun j hj => by simpa using hn j hj⟩
  rw [this]
theorem findN_none {p : Nat → Bool} {n : Nat} (hn : ∀ j, j < n → p j = false) : findN p n = -1 := by
  unfold findN
  have : (List.range n).find? p = none := by
    rw [List.find?_eq_none]
    intro x hx
    simp [hn x (by simpa using hx)]
  rw [this]
theorem findN_ge {p : Nat → Bool} {n : Nat} : decide (0 ≤ findN p n) = anyN p n := by
  unfold findN anyN
  cases h : (List.range n).find? p with
  | none =>
    rw [List.find?_eq_none] at h
    have : (List.range n).any p = false := by rw [List.any_eq_false]; exact h
    rw [this]; decide
  | some i =>
    have h1 := List.find?_some h
    have : (List.range n).any p = true := List.any_eq_true.2 ⟨i, List.mem_of_find?_eq_some h, h1⟩
    rw [this]; simp
theorem ixF_call {f esz : Nat} {g : Bool} (hf : tab f = some (.fn (ixFC esz g))) {pu : Bool} {H : Heap} {x F : Value} {n : Nat} {vs : List Value} (hx : SlR H x esz n vs) (hn : n ≤ 9223372036854775806) {p : Nat → Bool}
    (hF : ∀ i, i < n → ∃ v, ldv g (elem vs esz i) = some v ∧ callV (Call tab) H F [v] = some (.bool (p i), H)) : Call tab pu f [x, F] H = some (.int .i64 (findN p n), H) := by
  refine Call_wp hf (.inr rfl) rfl ?_
  simp [ixFC, ixFK, hx.lenV]
  refine WP_forH 8 n n rfl (by omega) (fun i e => e 0 = x ∧ e 1 = F ∧ e 7 = .int .i64 n ∧ ∀ j, j < i → p j = false) ?_ ?_ (by simp) (by simp)
  · rintro i e hi hlt e4 h8 ⟨h0, h1, h7, hnp⟩
    obtain ⟨b, off, ver, ha, hr⟩ := hx.get1 hi
    obtain ⟨v, hv, hc⟩ := hF i hi
    cases hp : p i with
    | true =>
      rw [hp] at hc
      simp [ixFB1, h8, h0, h1, h7, hlt, ha, hr, hv, hc, findN_some hi hnp hp]
    | false =>
      rw [hp] at hc
      simp [ixFB1, h8, h0, h1, h7, hlt, ha, hr, hv, hc, e4]
      exact upto_succ hnp hp
  · rintro e h8 ⟨h0, h1, h7, hnp⟩
    simp [ixFB1, h8, h7, findN_none hnp]
theorem ctF_call {f ix esz : Nat} {g : Bool} (hf : tab f = some (.fn (ctFC ix))) (hf2 : tab ix = some (.fn (ixFC esz g))) {pu : Bool} {H : Heap} {x F : Value} {n : Nat} {vs : List Value} (hx : SlR H x esz n vs) (hn : n ≤ 9223372036854775806) {p : Nat → Bool}
    (hF : ∀ i, i < n → ∃ v, ldv g (elem vs esz i) = some v ∧ callV (Call tab) H F [v] = some (.bool (p i), H)) : Call tab pu f [x, F] H = some (.bool (anyN p n), H) := by
  refine Call_wp hf (.inr rfl) rfl ?_
  simp [ctFC, ctFK, ixF_call hf2 hx hn hF, findN_ge]
theorem s547 : tab 547 = some (.fn (ixFC 1 false)) := t547
theorem s445 : tab 445 = some (.fn (ctFC 547)) := t445
theorem s474 : tab 474 = some (.fn (ixFC 12 true)) := t474
theorem s505 : tab 505 = some (.fn (ctFC 474)) := t505
abbrev u16' (n : Int) : Prop := 0 ≤ n ∧ n ≤ 65535
/-- A frame's form. -/
structure FrW (f : List Int) : Prop where
  len : f.length = 12
  ok : ∀ n ∈ f, u16' n
theorem FrW.nth {f : List Int} (h : FrW f) {i : Nat} (hi : i < 12) : u16' (nth f i) := h.ok _ (nth_mem (by rw [h.len]; exact hi))
def okRow (n : Int) : Bool := decide (n ≤ 4095)
def okF (f : List Int) : Bool := f.all okRow
theorem okF_true {f : List Int} (hl : f.length = 12) (h : ∀ i, i < 12 → okRow (nth f i) = true) : okF f = true := all_nth fun j hj => h j (by omega)
theorem okF_false {f : List Int} (hl : f.length = 12) {i : Nat} (hi : i < 12) (h : okRow (nth f i) = false) : okF f = false := all_false (nth_mem (by omega)) h
theorem call359 {pu : Bool} {H : Heap} {b off ver : Nat} {f : List Int} (hl : f.length = 12) (hr : rd H b off ver 12 = some (cs .u16 f)) : Call tab pu 359 [adr b off ver] H = some (.bool (okF f), H) := by
  refine Call_wp t359 (.inr rfl) rfl ?_
  simp [c359, k359]
  refine WP_forH 3 12 12 rfl (by omega) (fun i e => e 0 = adr b off ver ∧ ∀ j, j < i → okRow (nth f j) = true) ?_ ?_ (by simp) (by simp)
  · rintro i e hi hlt e4 h3 ⟨h0, hn⟩
    have d1 := rd_one hr hi
    cases hk : okRow (nth f i) with
    | true =>
      have : ¬ (4095 < nth f i) := by simp [okRow] at hk; omega
      simp [b359_1, h3, h0, hlt, hi, d1, this, e4]
      exact upto_succ hn hk
    | false =>
      have : 4095 < nth f i := by simp [okRow] at hk; omega
      simp [b359_1, h3, h0, hlt, hi, d1, this, okF_false hl hi hk]
  · rintro e h3 ⟨h0, hn⟩
    simp [b359_1, h3, okF_true hl hn]
theorem call446 {pu : Bool} {H : Heap} {n : Int} : Call tab pu 446 [.int .u16 n] H = some (.bool (!okRow n), H) := by
  refine Call_wp t446 (.inr rfl) rfl ?_
  have : decide (4095 < n) = !okRow n := by unfold okRow; by_cases h : n ≤ 4095 <;> simp [h] <;> omega
  simp [c446, k446, this]
theorem anyN_okF {f : List Int} (hl : f.length = 12) : anyN (fun i => !okRow (nth f i)) 12 = !okF f := by
  cases hk : okF f with
  | true =>
    have : anyN (fun i => !okRow (nth f i)) 12 = false := by
      unfold anyN
      rw [List.any_eq_false]
      intro i hi
      have := List.all_eq_true.1 (show f.all okRow = true from hk) _ (nth_mem (i := i) (by rw [hl]; simpa using hi))
      simp [this]
    rw [this]; rfl
  | false =>
    obtain ⟨x, hx, hp⟩ := List.all_eq_false.1 (show f.all okRow = false from hk)
    obtain ⟨i, hi, rfl⟩ := mem_nth hx
    have : anyN (fun i => !okRow (nth f i)) 12 = true := List.any_eq_true.2 ⟨i, by simp; omega, by simpa using hp⟩
    rw [this]; rfl
theorem call234 {pu : Bool} {H : Heap} {f : List Int} (hl : f.length = 12) : Call tab pu 234 [iv .u16 f] H = some (.bool (okF f), H) := by
  refine Call_wp t234 (.inr rfl) rfl ?_
  obtain ⟨G, hG⟩ : ∃ G, G = H ++ [⟨cs .u16 f, 1, 0, false⟩] := ⟨_, rfl⟩
  have hT : G.take H.length = H := by rw [hG]; simp
  have hs : slcPV G 12 1 (adr H.length 0 0) = some (slc H.length 0 0 12 12) := by rw [hG]; exact slcP_last rfl rfl (by simp [hl])
  have hr : SlR G (slc H.length 0 0 12 12) 1 12 (cs .u16 f) := ⟨by simp [hl], .inr ⟨_, 0, 0, 12, rfl, Nat.le_refl _, by rw [hG]; exact rd_last rfl (by simp [hl]), _, by rw [hG]; exact get_last, rfl, rfl⟩⟩
  have hc := ctF_call s445 s547 (pu := true) (F := .func (.func 446) #[] #[]) (p := fun i => !okRow (nth f i)) hr (by omega) fun i hi => ⟨.int .u16 (nth f i), by
    unfold elem; rw [Nat.mul_one, cs_one (by omega)]; rfl, by simp [call446]⟩
  rw [anyN_okF hl] at hc
  simp [c234, k234, hl, ← hG, hT, hs, hc]
theorem call506 {pu : Bool} {H : Heap} {f : List Int} (hl : f.length = 12) : Call tab pu 506 [iv .u16 f] H = some (.bool (!okF f), H) := by
  refine Call_wp t506 (.inr rfl) rfl ?_
  simp [c506, k506, hl, call234 hl]
def frC (f : List Int) : List Value := cs .u16 f
def bkC (b : List (List Int)) : List Value := rowsC frC b
/-- A book's form. -/
def BkW (b : List (List Int)) : Prop := ∀ f ∈ b, FrW f
def fr (b : List (List Int)) (i : Nat) : List Int := at0 b i
theorem BkW.fr {b : List (List Int)} (h : BkW b) {i : Nat} (hi : i < b.length) : FrW (fr b i) := h _ (at0_mem hi)
theorem bkC_length {b : List (List Int)} (h : BkW b) : (bkC b).length = b.length * 12 := rows_length (f := frC) (esz := 12) fun f hf => by simp [frC, (h f hf).len]
theorem bkC_elem {b : List (List Int)} (h : BkW b) {i : Nat} (hi : i < b.length) : elem (bkC b) 12 i = cs .u16 (fr b i) := rows_elem (f := frC) (esz := 12) (fun f hf => by simp [frC, (h f hf).len]) hi
theorem bkC_flat {b : List (List Int)} : NoRef (bkC b) := rows_flat fun _ _ => flat_cs
/-- A book in memory. -/
abbrev Bk (H : Heap) (x : Value) (b : List (List Int)) : Prop := SlR H x 12 b.length (bkC b)
theorem Bk.get {H : Heap} {x : Value} {b : List (List Int)} (h : Bk H x b) (hw : BkW b) {i : Nat} (hi : i < b.length) : ∃ q off ver, idxAV 12 x (.int .i64 (i : Int)) = some (adr q off ver) ∧ rd H q off ver 12 = some (cs .u16 (fr b i)) := by
  obtain ⟨q, off, ver, h1, h2⟩ := SlR.get1 h hi
  rw [bkC_elem hw hi] at h2
  exact ⟨q, off, ver, h1, h2⟩
def okFs (b : List (List Int)) : Bool := b.all okF
def okB (b : List (List Int)) : Bool := okFs b && decide (b.length ≤ 40)
theorem okFs_nth {b : List (List Int)} (h : okFs b = true) {i : Nat} (hi : i < b.length) : okF (fr b i) = true := List.all_eq_true.1 (show b.all okF = true from h) _ (at0_mem hi)
theorem anyN_okFs {b : List (List Int)} : anyN (fun i => !okF (fr b i)) b.length = !okFs b := by
  cases hk : okFs b with
  | true =>
    have : anyN (fun i => !okF (fr b i)) b.length = false := by
      unfold anyN
      rw [List.any_eq_false]
      intro i hi
      simp [okFs_nth hk (i := i) (by simpa using hi)]
    rw [this]; rfl
  | false =>
    obtain ⟨f, hf, hp⟩ := List.all_eq_false.1 (show b.all okF = false from hk)
    obtain ⟨i, hi, rfl⟩ := List.getElem_of_mem hf
    have : anyN (fun i => !okF (fr b i)) b.length = true := List.any_eq_true.2 ⟨i, by simpa using hi, by
      rw [show fr b i = b[i] from Option.some.inj ((at0_get hi).symm.trans (List.getElem?_eq_getElem hi))]; simpa using hp⟩
    rw [this]; rfl
theorem call351 {pu : Bool} {H : Heap} {x : Value} {b : List (List Int)} (h : Bk H x b) (hw : BkW b) (hn : b.length ≤ 9223372036854775806) : Call tab pu 351 [x] H = some (.bool (okFs b), H) := by
  refine Call_wp t351 (.inr rfl) rfl ?_
  have hc := ctF_call s505 s474 (pu := true) (F := .func (.func 506) #[] #[]) (p := fun i => !okF (fr b i)) h hn fun i hi => ⟨iv .u16 (fr b i), by rw [bkC_elem hw hi]; rfl, by simp [call506 (hw.fr hi).len]⟩
  rw [anyN_okFs] at hc
  simp [c351, k351, hc]
/-- A row told place by place. -/
def tabN (n : Nat) (g : Nat → Int) : List Int := (List.range n).map g
theorem tabN_length {n : Nat} {g : Nat → Int} : (tabN n g).length = n := by simp [tabN]
theorem nth_tabN {n : Nat} {g : Nat → Int} {i : Nat} (h : i < n) : nth (tabN n g) i = g i := by
  apply nth_of; simp [tabN, h]
theorem tabN_ext {n : Nat} {g h : Nat → Int} (e : ∀ i, i < n → g i = h i) : tabN n g = tabN n h := by
  apply List.map_congr_left
  intro i hi
  exact e i (by simpa using hi)
theorem tabN_of {n : Nat} {g : Nat → Int} {l : List Int} (hl : l.length = n) (e : ∀ i, i < n → nth l i = g i) : l = tabN n g :=
  ext_nth (by rw [hl, tabN_length]) fun i hi => by rw [e i (by omega), nth_tabN (by omega)]
theorem tabN_set {n : Nat} {g h : Nat → Int} {r : Nat} {v : Int} (hr : r < n) (hv : h r = v) (e : ∀ i, i < n → i ≠ r → g i = h i) : (tabN n g).set r v = tabN n h :=
  tabN_of (by simp [tabN_length]) fun i hi => by
    rw [nth_set (by rw [tabN_length]; exact hr)]
    split
    · rename_i h1; subst h1; exact hv.symm
    · rename_i h1; rw [nth_tabN hi, e i hi (Ne.symm h1)]
theorem zr_tabN {n : Nat} : zr n 0 = tabN n fun _ => 0 := tabN_of (by simp) fun i _ => nth_zr
/-- Two frames, row by row. -/
def mixF (op : Int → Int → Int) (a b : List Int) : List Int := tabN 12 fun j => op (nth a j) (nth b j)
theorem mixF_length {op : Int → Int → Int} {a b : List Int} : (mixF op a b).length = 12 := tabN_length
def mixU (op : Int → Int → Int) (a b : List Int) (i : Nat) : List Int := tabN 12 fun j => if j < i then op (nth a j) (nth b j) else nth a j
theorem mixU_length {op : Int → Int → Int} {a b : List Int} {i : Nat} : (mixU op a b i).length = 12 := tabN_length
theorem mixU_zero {op : Int → Int → Int} {a b : List Int} (h : a.length = 12) : mixU op a b 0 = a := (tabN_of h fun i _ => by simp).symm
theorem mixU_all {op : Int → Int → Int} {a b : List Int} : mixU op a b 12 = mixF op a b := tabN_ext fun i hi => by rw [if_pos hi]
theorem mixU_set {op : Int → Int → Int} {a b : List Int} {i : Nat} (h : i < 12) : (mixU op a b i).set i (op (nth a i) (nth b i)) = mixU op a b (i + 1) :=
  tabN_set h (by rw [if_pos (by omega)]) fun j _ hj => by
    by_cases h1 : j < i
    · rw [if_pos h1, if_pos (by omega)]
    · rw [if_neg h1, if_neg (by omega)]
def mixZ (op : Int → Int → Int) (a b : List Int) (i : Nat) : List Int := tabN 12 fun j => if j < i then op (nth a j) (nth b j) else 0
theorem mixZ_length {op : Int → Int → Int} {a b : List Int} {i : Nat} : (mixZ op a b i).length = 12 := tabN_length
theorem mixZ_zero {op : Int → Int → Int} {a b : List Int} : mixZ op a b 0 = zr 12 0 := by rw [zr_tabN]; exact tabN_ext fun i _ => by simp
theorem mixZ_all {op : Int → Int → Int} {a b : List Int} : mixZ op a b 12 = mixF op a b := tabN_ext fun i hi => by rw [if_pos hi]
theorem mixZ_set {op : Int → Int → Int} {a b : List Int} {i : Nat} (h : i < 12) : (mixZ op a b i).set i (op (nth a i) (nth b i)) = mixZ op a b (i + 1) :=
  tabN_set h (by rw [if_pos (by omega)]) fun j _ hj => by
    by_cases h1 : j < i
    · rw [if_pos h1, if_pos (by omega)]
    · rw [if_neg h1, if_neg (by omega)]
def orI (a b : Int) : Int := bitsOf .or .u16 a b
def xorI (a b : Int) : Int := bitsOf .xor .u16 a b
def lessI (a b : Int) : Int := bitsOf .andNot .u16 a b
theorem orI_eq {a b : Int} : bitsOf .or .u16 a b = orI a b := rfl
theorem lessI_eq {a b : Int} : bitsOf .andNot .u16 a b = lessI a b := rfl
theorem call443 {pu : Bool} {H : Heap} {F : Value} {op : Int → Int → Int} {a b : List Int} (ha : a.length = 12) (hb : b.length = 12) (hF : ∀ x y, callV (Call tab) H F [.int .u16 x, .int .u16 y] = some (.int .u16 (op x y), H)) :
    Call tab pu 443 [iv .u16 a, iv .u16 b, F] H = some (iv .u16 (mixF op a b), H) := by
  refine Call_wp t443 (.inr rfl) rfl ?_
  simp [c443, k443, zs_cs, agg_cs, ha]
  refine WP_forH 10 12 12 rfl (by omega) (fun i e => e 2 = F ∧ e 3 = iv .u16 (mixU op a b i) ∧ e 4 = iv .u16 b ∧ e 6 = iv .u16 (zr 12 0) ∧ e 9 = iv .u16 a) ?_ ?_ (by simp) (by simp [mixU_zero ha])
  · rintro i e hi hlt e4 h10 ⟨h2, h3, h4, h6, h9⟩
    have hl := mixU_length (op := op) (a := a) (b := b) (i := i)
    have e9 := stc_at (k := .u16) (l := mixU op a b i) (by omega) (mixU_set (op := op) (a := a) (b := b) hi)
    simp (disch := omega) [b443_1, h10, h2, h3, h4, h6, h9, hlt, hi, ha, hb, hF, hl, e9, e4]
  · rintro e h10 ⟨h2, h3, h4, h6, h9⟩
    have hz := stc_zr (k := .u16) (n := 12) (l := mixF op a b) mixF_length
    simp [b443_1, h10, h3, h6, mixU_all, mixF_length, hz, agg_cs]
theorem call502 {pu : Bool} {H : Heap} {a b : Int} : Call tab pu 502 [.int .u16 a, .int .u16 b] H = some (.int .u16 (orI a b), H) := by
  refine Call_wp t502 (.inr rfl) rfl ?_
  simp [c502, k502, orI]
theorem call504 {pu : Bool} {H : Heap} {a b : Int} : Call tab pu 504 [.int .u16 a, .int .u16 b] H = some (.int .u16 (lessI a b), H) := by
  refine Call_wp t504 (.inr rfl) rfl ?_
  simp [c504, k504, lessI]
theorem call338 {pu : Bool} {H : Heap} {a b : List Int} (ha : a.length = 12) (hb : b.length = 12) : Call tab pu 338 [iv .u16 a, iv .u16 b] H = some (iv .u16 (mixF orI a b), H) := by
  refine Call_wp t338 (.inr rfl) rfl ?_
  have hz := stc_zr (k := .u16) (n := 12) (l := mixF orI a b) mixF_length
  have hc := call443 (pu := true) (H := H) (F := .func (.func 502) #[] #[]) (op := orI) ha hb fun x y => by simp [call502]
  simp [c338, k338, zs_cs, agg_cs, ha, hb, hc, mixF_length, hz]
theorem call350 {pu : Bool} {H : Heap} {a b : List Int} (ha : a.length = 12) (hb : b.length = 12) : Call tab pu 350 [iv .u16 a, iv .u16 b] H = some (iv .u16 (mixF lessI a b), H) := by
  refine Call_wp t350 (.inr rfl) rfl ?_
  have hz := stc_zr (k := .u16) (n := 12) (l := mixF lessI a b) mixF_length
  have hc := call443 (pu := true) (H := H) (F := .func (.func 504) #[] #[]) (op := lessI) ha hb fun x y => by simp [call504]
  simp [c350, k350, zs_cs, agg_cs, ha, hb, hc, mixF_length, hz]
theorem call337 {pu : Bool} {H : Heap} {p q o o' v v' : Nat} {a b : List Int} (ha : a.length = 12) (hb : b.length = 12) (h1 : rd H p o v 12 = some (cs .u16 a)) (h2 : rd H q o' v' 12 = some (cs .u16 b)) :
    Call tab pu 337 [adr p o v, adr q o' v'] H = some (iv .u16 (mixF orI a b), H) := by
  refine Call_wp t337 (.inr rfl) rfl ?_
  have hz0 := stc_zr (k := .u16) (n := 12) (l := zr 12 0) (by simp)
  simp [c337, k337, zs_cs, agg_cs, fill, hz0]
  refine WP_forH 6 12 12 rfl (by omega) (fun i e => e 0 = adr p o v ∧ e 1 = adr q o' v' ∧ e 4 = iv .u16 (zr 12 0) ∧ e 5 = iv .u16 (mixZ orI a b i)) ?_ ?_ (by simp) (by simp [mixZ_zero])
  · rintro i e hi hlt e4 h6 ⟨h0, h1', h4, h5⟩
    have hl := mixZ_length (op := orI) (a := a) (b := b) (i := i)
    have e9 := stc_at (k := .u16) (l := mixZ orI a b i) (by omega) (mixZ_set (op := orI) (a := a) (b := b) hi)
    simp (disch := omega) [b337_1, h6, h0, h1', h4, h5, hlt, hi, rd_one h1 hi, rd_one h2 hi, orI_eq, hl, e9, e4]
  · rintro e h6 ⟨h0, h1', h4, h5⟩
    have hz := stc_zr (k := .u16) (n := 12) (l := mixF orI a b) mixF_length
    simp [b337_1, h6, h4, h5, mixZ_all, mixF_length, hz, agg_cs]
def bkF : List Int := [60201, 0, 0, 0, 0, 0, 0, 0, 0, 0, 0, 0]
theorem eqCells_cs {k : IntKind} {n : Nat} {f g : List Int} (hf : f.length = n) (hg : g.length = n) : eqCells (rb n (some k)) (cs k f) (cs k g) = some (decide (f = g)) := by
  induction n generalizing f g with
  | zero =>
    obtain rfl := List.length_eq_zero_iff.1 hf
    obtain rfl := List.length_eq_zero_iff.1 hg
    simp [rb, cs, eqCells]
  | succ n ih =>
    obtain _ | ⟨a, f⟩ := f
    · cases hf
    obtain _ | ⟨b, g⟩ := g
    · cases hg
    have := ih (f := f) (g := g) (by simpa using hf) (by simpa using hg)
    simp only [rb, cs, List.replicate_succ, List.map_cons, eqCells, and_self, if_true] at this ⊢
    by_cases h : a = b
    · rw [if_pos h, this]; simp [h]
    · rw [if_neg h]; simp [h]
theorem eqV_iv {k : IntKind} {n : Nat} {f g : List Int} (hf : f.length = n) (hg : g.length = n) : eqV (.a (rb n (some k))) (iv k f) (iv k g) = some (decide (f = g)) := by
  show (if (cs k f).toArray.size = (rb n (some k)).length ∧ (cs k g).toArray.size = (rb n (some k)).length then eqCells (rb n (some k)) (cs k f).toArray.toList (cs k g).toArray.toList else none) = _
  rw [if_pos ⟨by simp [rb, hf], by simp [rb, hg]⟩]
  exact eqCells_cs hf hg
def allN (p : Nat → Bool) (n : Nat) : Bool := (List.range n).all p
theorem allN_true {p : Nat → Bool} {n : Nat} (h : ∀ i, i < n → p i = true) : allN p n = true := List.all_eq_true.2 fun i hi => h i (by simpa using hi)
theorem allN_false {p : Nat → Bool} {n i : Nat} (hi : i < n) (h : p i = false) : allN p n = false := List.all_eq_false.2 ⟨i, by simpa using hi, by simp [h]⟩
theorem allN_get {p : Nat → Bool} {n : Nat} (h : allN p n = true) {i : Nat} (hi : i < n) : p i = true := List.all_eq_true.1 h i (by simpa using hi)
theorem elem_take {vs : List Value} {esz hi i : Nat} (h : i < hi) : elem (vs.take (hi * esz)) esz i = elem vs esz i := by
  have := mul_next (esz := esz) h
  unfold elem
  rw [List.drop_take, List.take_take, Nat.min_eq_left (by omega)]
/-- Does a book repeat by p? -/
def perB (b : List (List Int)) (p : Nat) : Bool := allN (fun i => decide (fr b i = fr b (p + i))) (b.length - p)
def perP (b : List (List Int)) (p : Nat) : Bool := decide (1 ≤ p) && perB b p
def okP (a b : Int) : Bool := decide (0 ≤ a ∧ a ≤ 11) && decide (0 ≤ b ∧ b ≤ 11)
theorem placeS {pu : Bool} {H : Heap} {a b : Int} : Call tab pu 342 [.int .i64 a, .int .i64 b] H = some (.bool (okP a b), H) := by
  refine Call_wp t342 (.inr rfl) rfl ?_
  have e1 : ∀ x : Int, (decide (0 ≤ x) && decide (x ≤ 11)) = decide (0 ≤ x ∧ x ≤ 11) := fun x => by simp
  cases h : decide (0 ≤ a ∧ a ≤ 11) <;> simp [c342, k342, call304, e1, h, okP, skip, -Bool.decide_and, -decide_eq_true_eq, -decide_eq_false_iff_not]
theorem placeI {pu : Bool} {H : Heap} {a b : Int} : Call tab pu 345 [.int .i64 a, .int .i64 b] H = some (.bool (okP a b), H) := by
  refine Call_wp t345 (.inr rfl) rfl ?_
  have e1 : ∀ x : Int, (decide (0 ≤ x) && decide (x ≤ 11)) = decide (0 ≤ x ∧ x ≤ 11) := fun x => by simp
  cases h : decide (0 ≤ a ∧ a ≤ 11) <;> simp [c345, k345, call295, e1, h, okP, skip, -Bool.decide_and, -decide_eq_true_eq, -decide_eq_false_iff_not]
theorem okP_get {a b : Int} (h : okP a b = true) : ∃ x y : Nat, a = x ∧ b = y ∧ x < 12 ∧ y < 12 := by
  simp [okP] at h
  exact ⟨a.toNat, b.toNat, by omega, by omega, by omega, by omega⟩
theorem Pre.set {H G : Heap} {b : Nat} {k : Blk} (p : Pre H G) (hb : H.length ≤ b) : Pre H (G.set b k) := by
  obtain ⟨L, rfl⟩ := p
  exact ⟨L.set (b - H.length) k, by rw [List.set_append_right _ _ hb]⟩
/-- A list of a call's own that grows. -/
def Gr (H G : Heap) (x : Value) (esz n : Nat) (vs : List Value) : Prop := ∃ b ver, x = slc b 0 ver n n ∧ G[b]? = some ⟨vs, esz, ver, false⟩ ∧ H.length ≤ b ∧ vs.length = n * esz ∧ Pre H G
theorem Gr.new {H G : Heap} {esz : Nat} (p : Pre H G) : Gr H (G ++ [⟨[], esz, 0, false⟩]) (slc G.length 0 0 0 0) esz 0 [] := ⟨_, _, rfl, get_last, p.len, by simp, p.app⟩
theorem Gr.pre {H G : Heap} {x : Value} {esz n : Nat} {vs : List Value} (g : Gr H G x esz n vs) : Pre H G := by obtain ⟨b, ver, _, _, _, _, p⟩ := g; exact p
theorem Gr.app {H G L : Heap} {x : Value} {esz n : Nat} {vs : List Value} (g : Gr H G x esz n vs) : Gr H (G ++ L) x esz n vs := by
  obtain ⟨b, ver, rfl, h1, h2, h3, h4⟩ := g
  exact ⟨b, ver, rfl, by rw [List.getElem?_append_left (List.getElem?_eq_some_iff.1 h1).1]; exact h1, h2, h3, h4.app⟩
theorem Gr.sl {H G : Heap} {x : Value} {esz n : Nat} {vs : List Value} (g : Gr H G x esz n vs) : SlR G x esz n vs := by
  obtain ⟨b, ver, rfl, h1, h2, h3, h4⟩ := g
  exact ⟨h3, .inr ⟨b, 0, ver, n, rfl, Nat.le_refl _, by rw [rd_at h1 rfl (by simp [h3])]; simp [take_all (Nat.le_of_eq h3)], _, h1, rfl, rfl⟩⟩
theorem appendTo_grow {n0 : Nat} {wb : Bool} {G : Heap} {esz bytes b ver len n : Nat} {cs : List Value} {k : Blk} (h : G[b]? = some k) (hv : ver = k.ver) (hr : k.ro = false) (hm : may n0 wb b cs = true) (he : k.esz = esz) (hl : len * esz = k.cells.length) (hn : 0 < n)
    (hb : (len + n) * bytes ≤ roomMax) : appendTo n0 wb esz bytes G (slc b 0 ver len len) n cs = some (slc b 0 (ver + 1) (len + n) (len + n), G.set b { k with cells := k.cells ++ cs, ver := ver + 1 }) := by
  unfold appendTo slc
  simp only []
  rw [if_neg (by omega), h]
  simp only []
  exact if_pos ⟨hv, hr, hm, he, trivial, hl, hb⟩
theorem Gr.push {H G : Heap} {x : Value} {esz n bytes : Nat} {vs c : List Value} (g : Gr H G x esz n vs) (hc : c.length = esz) (hb : (n + 1) * bytes ≤ roomMax) {wb : Bool} :
    ∃ x' G', ((srcOf esz (G ++ [⟨c, esz, 0, false⟩]) (slc G.length 0 0 1 1)).bind fun q => appendTo H.length wb esz bytes (G ++ [⟨c, esz, 0, false⟩]) x q.1 q.2) = some (x', G') ∧ Gr H G' x' esz (n + 1) (vs ++ c) := by
  obtain ⟨b, ver, rfl, h1, h2, h3, h4⟩ := g
  have h1' : (G ++ [(⟨c, esz, 0, false⟩ : Blk)])[b]? = some ⟨vs, esz, ver, false⟩ := by rw [List.getElem?_append_left (List.getElem?_eq_some_iff.1 h1).1]; exact h1
  have e1 : srcOf esz (G ++ [⟨c, esz, 0, false⟩]) (slc G.length 0 0 1 1) = some (1, c) := by
    show (rd (G ++ [⟨c, esz, 0, false⟩]) G.length 0 0 (1 * esz)).map (fun cs => (1, cs)) = _
    rw [Nat.one_mul, rd_last rfl (by simpa using hc)]; rfl
  refine ⟨slc b 0 (ver + 1) (n + 1) (n + 1), (G ++ [(⟨c, esz, 0, false⟩ : Blk)]).set b ⟨vs ++ c, esz, ver + 1, false⟩, ?_, b, ver + 1, rfl, get_set h1', h2, by simp [h3, hc, Nat.succ_mul], (h4.app).set h2⟩
  rw [e1, Option.bind_some]
  exact appendTo_grow h1' rfl rfl (by simp [may, h2]) rfl h3.symm (by omega) hb
theorem fill_one {z : List Value} {v : Value} {esz : Nat} (hv : (cellsOf v).length = esz) (hz : z.length = esz) : fill (rep 1 z) [(0, esz, v)] = some (cellsOf v) := by
  have e1 : rep 1 z = z := by simp [rep]
  rw [e1]
  show (if (cellsOf v).length = esz ∧ 0 + esz ≤ z.length then fill (splice z 0 (cellsOf v)) [] else none) = _
  rw [if_pos ⟨hv, by omega⟩]
  have : splice z 0 (cellsOf v) = cellsOf v := by simp [splice, hv, ← hz]
  rw [this]; rfl
theorem Gr.fin {H G : Heap} {x : Value} {esz n : Nat} {vs : List Value} (g : Gr H G x esz n vs) (hn : NoRef vs) : finish H.length G [x] = (slc H.length 0 0 n n, H ++ [⟨vs, esz, 0, false⟩]) := by
  obtain ⟨b, ver, rfl, h1, h2, h3, h4⟩ := g
  exact finish_slc h4 h2 h1 rfl rfl hn.all
/- Has a frame a dot there? -/
def dotB (row : Int) (x : Nat) : Bool := decide ((row / bit x) % 2 = 1)
theorem shr_bit {row : Int} {x : Nat} (h : x < 12) : shiftOf .shr .u16 row (x : Int) = some (.int .u16 (row / bit x)) := by
  have hb := bit_ok h
  unfold shiftOf
  rw [if_neg (by omega)]
  have e1 : min ((x : Int).toNat) (IntKind.bits .u16) = x := by
    have : IntKind.bits .u16 = 16 := rfl
    omega
  simp only [e1]
  show some (Value.int .u16 (row.fdiv (bit x))) = _
  rw [Int.fdiv_eq_ediv_of_nonneg _ (by omega)]
theorem and_one {v : Int} (h : 0 ≤ v ∧ v ≤ 65535) : bitsOf .and .u16 v 1 = v % 2 := by
  obtain ⟨n, rfl⟩ := Int.eq_ofNat_of_zero_le h.1
  have e0 : IntKind.bits .u16 = 16 := rfl
  unfold bitsOf
  simp only []
  have e1 : (BitVec.ofInt (IntKind.bits .u16) (n : Int) &&& BitVec.ofInt (IntKind.bits .u16) 1).toNat = n % 2 := by
    have e2 : n % 2 ^ 16 = n := Nat.mod_eq_of_lt (by omega)
    rw [BitVec.toNat_and, e0, BitVec.ofInt_natCast, BitVec.toNat_ofNat, show (BitVec.ofInt 16 1).toNat = 1 from rfl, Nat.and_one_is_mod, e2]
  rw [e1, wrapu16 (by omega)]; omega
theorem row_div {row : Int} {x : Nat} (h : u16' row) (hx : x < 12) : 0 ≤ row / bit x ∧ row / bit x ≤ 65535 := by
  have hb := bit_ok hx
  have h1 : 0 ≤ row / bit x := Int.ediv_nonneg h.1 (by omega)
  have h2 : row / bit x ≤ row := Int.ediv_le_self _ h.1
  omega
theorem tmod_two {v : Int} (h : 0 ≤ v) : v.tmod 2 = v % 2 := Int.tmod_eq_emod_of_nonneg h
def hasF (f : List Int) (x y : Nat) : Bool := dotB (nth f y) x
theorem okP_nat {x y : Nat} (hx : x < 12) (hy : y < 12) : okP (x : Int) (y : Int) = true := by simp [okP]; omega
theorem call395 {pu : Bool} {H : Heap} {f : List Int} {x y : Nat} (hw : FrW f) (hx : x < 12) (hy : y < 12) : Call tab pu 395 [iv .u16 f, .int .i64 x, .int .i64 y] H = some (.bool (hasF f x y), H) := by
  refine Call_wp t395 (.inr rfl) rfl ?_
  have hl := hw.len
  have hd := row_div (hw.nth hy) hx
  have e1 : ((nth f y / bit x) % 2 == 1) = hasF f x y := rfl
  simp (disch := omega) [c395, k395, placeI, okP_nat hx hy, hy, hx, hl, shr_bit, and_one hd, e1]
theorem call456 {pu : Bool} {H : Heap} {q off ver : Nat} {f : List Int} {x y : Nat} (hw : FrW f) (hr : rd H q off ver 12 = some (cs .u16 f)) (hx : x < 12) (hy : y < 12) : Call tab pu 456 [adr q off ver, .int .i64 x, .int .i64 y] H = some (.bool (hasF f x y), H) := by
  refine Call_wp t456 (.inr rfl) rfl ?_
  have hd := row_div (hw.nth hy) hx
  have e1 : ((nth f y / bit x) % 2 == 1) = hasF f x y := rfl
  simp (disch := omega) [c456, k456, placeS, okP_nat hx hy, hy, hx, rd_one hr hy, shr_bit, tmod_two hd.1, e1]
/- The dots, one behind the other. -/
def hasK (f : List Int) (k : Nat) : Bool := hasF f (k % 12) (k / 12)
def dotL (f : List Int) (k : Nat) : List Nat := (List.range k).filter (hasK f)
def dotM (k : Nat) : Int × Int := (((k % 12 : Nat) : Int), ((k / 12 : Nat) : Int))
def dotC (f : List Int) (k : Nat) : List Value := mvsC ((dotL f k).map dotM)
theorem dotL_zero {f : List Int} : dotL f 0 = [] := rfl
theorem dotL_succ {f : List Int} {k : Nat} : dotL f (k + 1) = dotL f k ++ if hasK f k = true then [k] else [] := by
  rw [dotL, List.range_succ, List.filter_append, ← dotL]
  congr 1
  cases h : hasK f k <;> simp [h]
theorem hasK_yx {f : List Int} {x y : Nat} (hx : x < 12) : hasK f (y * 12 + x) = hasF f x y := by
  rw [hasK, show (y * 12 + x) % 12 = x by omega, show (y * 12 + x) / 12 = y by omega]
theorem dotM_yx {x y : Nat} (hx : x < 12) : dotM (y * 12 + x) = ((x : Int), (y : Int)) := by
  rw [dotM, show (y * 12 + x) % 12 = x by omega, show (y * 12 + x) / 12 = y by omega]
theorem mvsC_app {a b : List (Int × Int)} : mvsC (a ++ b) = mvsC a ++ mvsC b := by
  induction a with
  | nil => rfl
  | cons m r ih => simp only [mvsC, List.cons_append, rowsC, List.append_assoc] at ih ⊢; rw [ih]
theorem dotC_succ {f : List Int} {x y : Nat} (hx : x < 12) : dotC f (y * 12 + x + 1) = if hasF f x y = true then dotC f (y * 12 + x) ++ mvC ((x : Int), (y : Int)) else dotC f (y * 12 + x) := by
  unfold dotC
  rw [dotL_succ, hasK_yx hx]
  split
  · rw [List.map_append, mvsC_app]
    simp [mvsC, rowsC, dotM_yx hx]
  · simp
theorem dotL_len {f : List Int} {k : Nat} : (dotL f k).length ≤ k := by
  have := List.length_filter_le (hasK f) (List.range k)
  simpa [dotL] using this
theorem dotL_succ_len {f : List Int} {x y : Nat} (hx : x < 12) : (dotL f (y * 12 + x + 1)).length = if hasF f x y = true then (dotL f (y * 12 + x)).length + 1 else (dotL f (y * 12 + x)).length := by
  rw [dotL_succ, hasK_yx hx]
  split <;> simp
theorem dotL_nodup {f : List Int} {k : Nat} : (dotL f k).Nodup := List.nodup_range.sublist List.filter_sublist
theorem dotL_at {f : List Int} {j : Nat} (h : j < (dotL f 144).length) : ∃ y x, at0 (dotL f 144) j = y * 12 + x ∧ y < 12 ∧ x < 12 ∧ y * 12 + x ∉ (dotL f 144).take j ∧ (dotL f 144).take (j + 1) = (dotL f 144).take j ++ [y * 12 + x] := by
  have hm := at0_mem h
  have h1 : at0 (dotL f 144) j < 144 := by
    have := List.mem_filter.1 (show at0 (dotL f 144) j ∈ (List.range 144).filter (hasK f) from hm)
    simpa using this.1
  have hg := at0_get h
  have ht : (dotL f 144).take (j + 1) = (dotL f 144).take j ++ [at0 (dotL f 144) j] := by
    rw [List.take_add_one, hg]; rfl
  have hnd : ((dotL f 144).take (j + 1)).Nodup := dotL_nodup.sublist (List.take_sublist _ _)
  rw [ht] at hnd
  have hni : at0 (dotL f 144) j ∉ (dotL f 144).take j := fun hi => by
    rw [List.nodup_append] at hnd
    exact hnd.2.2 _ hi _ (by simp) rfl
  refine ⟨at0 (dotL f 144) j / 12, at0 (dotL f 144) j % 12, by omega, by omega, by omega, ?_, ?_⟩
  · rw [show at0 (dotL f 144) j / 12 * 12 + at0 (dotL f 144) j % 12 = at0 (dotL f 144) j by omega]; exact hni
  · rw [show at0 (dotL f 144) j / 12 * 12 + at0 (dotL f 144) j % 12 = at0 (dotL f 144) j by omega]; exact ht
theorem mv_map {α : Type} [Inhabited α] {g : α → Int × Int} {l : List α} {i : Nat} (h : i < l.length) : mv (l.map g) i = g (at0 l i) := by
  have h2 := at0_get (l := l.map g) (i := i) (by simpa using h)
  rw [List.getElem?_map, at0_get h] at h2
  exact (Option.some.inj h2).symm
def onesT : ByteArray := ⟨#[0, 1, 1, 2, 1, 2, 2, 3, 1, 2, 2, 3, 2, 3, 3, 4, 1, 2, 2, 3, 2, 3, 3, 4, 2, 3, 3, 4, 3, 4, 4, 5, 1, 2, 2, 3, 2, 3, 3, 4, 2, 3, 3, 4, 3, 4, 4, 5, 2, 3, 3, 4, 3, 4, 4, 5, 3, 4, 4, 5, 4, 5, 5, 6, 1, 2, 2, 3, 2, 3, 3, 4, 2, 3, 3, 4, 3, 4, 4, 5, 2, 3, 3, 4, 3, 4, 4, 5, 3, 4, 4, 5, 4, 5, 5, 6, 2, 3, 3, 4, 3, 4, 4, 5, 3, 4, 4, 5, 4, 5, 5, 6, 3, 4, 4, 5, 4, 5, 5, 6, 4, 5, 5, 6, 5, 6, 6, 7, 1, 2, 2, 3, 2, 3, 3, 4, 2, 3, 3, 4, 3, 4, 4, 5, 2, 3, 3, 4, 3, 4, 4, 5, 3, 4, 4, 5, 4, 5, 5, 6, 2, 3, 3, 4, 3, 4, 4, 5, 3, 4, 4, 5, 4, 5, 5, 6, 3, 4, 4, 5, 4, 5, 5, 6, 4, 5, 5, 6, 5, 6, 6, 7, 2, 3, 3, 4, 3, 4, 4, 5, 3, 4, 4, 5, 4, 5, 5, 6, 3, 4, 4, 5, 4, 5, 5, 6, 4, 5, 5, 6, 5, 6, 6, 7, 3, 4, 4, 5, 4, 5, 5, 6, 4, 5, 5, 6, 5, 6, 6, 7, 4, 5, 5, 6, 5, 6, 6, 7, 5, 6, 6, 7, 6, 7, 7, 8]⟩
def onK (s : ByteArray) : Cd :=
  (.seq
   (.reg [2] [
     ⟨none, (some 2), .mov (.c (.int .i64 0)), []⟩])
   (.seq
    (.reg [2] [
      ⟨none, (some 3), .mov (.t 0), []⟩,
      ⟨none, (some 4), .bin .shr (.t 3) (.c (.int .u64 8)), []⟩,
      ⟨none, (some 5), .idxs (.c (.string s)) (.t 4), []⟩,
      ⟨none, (some 6), .mov (.t 0), []⟩,
      ⟨none, (some 7), .bin .and (.t 6) (.c (.int .u16 255)), []⟩,
      ⟨none, (some 8), .idxs (.c (.string s)) (.t 7), []⟩,
      ⟨none, (some 9), .bin .add (.t 5) (.t 8), []⟩,
      ⟨none, (some 10), .conv .i64 (.t 9), []⟩,
      ⟨none, (some 2), .mov (.t 10), []⟩])
    .ret))
def onC (s : ByteArray) : Fn := { np := 1, nt := 11, kind := .pure, res := [.t 2], body := onK s }
def idxsV (x i : Value) : Option Value := match x with
  | .string s => (at' s.size i).map fun j => .int .u8 (s.data.toList.getD j 0).toNat
  | _ => none
theorem ev1_idxs {cl : Cl} {n0 : Nat} {wb : Bool} {e : Env} {H : Heap} {x i : Opd} : ev1 cl n0 wb e H (.idxs x i) = (idxsV (x.ev e) (i.ev e)).map (·, H) := rfl
def tg (j : Nat) : Nat := (onesT.data.toList.getD j 0).toNat
theorem onesT_size : onesT.size = 256 := by decide +kernel
theorem tg_le : ∀ j, j < 256 → tg j ≤ 8 := by
  have : (List.range 256).all (fun j => decide (tg j ≤ 8)) = true := by decide +kernel
  intro j hj
  simpa using List.all_eq_true.1 this j (by simpa using hj)
theorem idxsV_ones {v : Int} {j : Nat} {k : IntKind} (h : v = j) (hj : j < 256) : idxsV (.string onesT) (.int k v) = some (.int .u8 (tg j)) := by
  subst h
  show (at' onesT.size (.int k (j : Int))).map (fun j => Value.int .u8 (onesT.data.toList.getD j 0).toNat) = _
  rw [onesT_size, at_nat hj]; rfl
def onesN (v : Nat) : Nat := tg (v / 256) + tg (v % 256)
def cntN (v : Nat) : Nat := ((List.range 12).filter fun x => v.testBit x).length
theorem onesN_cnt : ∀ v, v < 4096 → onesN v = cntN v := by
  have : (List.range 4096).all (fun v => onesN v == cntN v) = true := by decide +kernel
  intro v hv
  simpa using List.all_eq_true.1 this v (by simpa using hv)
theorem and_255 {n : Nat} (h : n ≤ 65535) : bitsOf .and .u16 (n : Int) 255 = ((n % 256 : Nat) : Int) := by
  have e0 : IntKind.bits .u16 = 16 := rfl
  unfold bitsOf
  simp only []
  have e1 : (BitVec.ofInt (IntKind.bits .u16) (n : Int) &&& BitVec.ofInt (IntKind.bits .u16) 255).toNat = n % 256 := by
    have e2 : n % 2 ^ 16 = n := Nat.mod_eq_of_lt (by omega)
    rw [BitVec.toNat_and, e0, BitVec.ofInt_natCast, BitVec.toNat_ofNat, show (BitVec.ofInt 16 255).toNat = 2 ^ 8 - 1 from rfl, e2, Nat.and_two_pow_sub_one_eq_mod]
  rw [e1, wrapu16 (by omega)]
theorem shr_8 {n : Nat} : shiftOf .shr .u16 (n : Int) 8 = some (.int .u16 ((n / 256 : Nat) : Int)) := by
  unfold shiftOf
  rw [if_neg (by omega)]
  show some (Value.int .u16 ((n : Int).fdiv 256)) = _
  rw [Int.fdiv_eq_ediv_of_nonneg _ (by omega)]; rfl
theorem s530 : tab 530 = some (.fn (onC onesT)) := t530
theorem call530 {pu : Bool} {H : Heap} {n : Nat} (h : n ≤ 65535) : Call tab pu 530 [.int .u16 n] H = some (.int .i64 (onesN n), H) := by
  refine Call_wp s530 (.inr rfl) rfl ?_
  have h1 := tg_le (n / 256) (by omega)
  have h2 := tg_le (n % 256) (by omega)
  have e1 := idxsV_ones (k := .u16) (v := ((n / 256 : Nat) : Int)) rfl (by omega)
  have e2 := idxsV_ones (k := .u16) (v := ((n % 256 : Nat) : Int)) rfl (by omega)
  generalize hA : ((n / 256 : Nat) : Int) = A at *
  generalize hB : ((n % 256 : Nat) : Int) = B at *
  have e3 := shr_8 (n := n)
  have e4 := and_255 h
  rw [hA] at e3
  rw [hB] at e4
  have e5 : IntKind.wrap .u8 ((tg (n / 256) : Int) + (tg (n % 256) : Int)) = ((onesN n : Nat) : Int) := by rw [wrapu8 (by omega)]; rfl
  have e6 : IntKind.wrap .i64 ((onesN n : Nat) : Int) = ((onesN n : Nat) : Int) := wrap64 (by unfold onesN; omega)
  simp [onC, onK, e3, e4, ev1_idxs, e1, e2, e5, e6]
theorem dotB_bit {n x : Nat} : dotB (n : Int) x = n.testBit x := by
  unfold dotB bit
  rw [Nat.testBit_eq_decide_div_mod_eq]
  apply decide_eq_decide.2
  have : ((n : Int) / 2 ^ x) = ((n / 2 ^ x : Nat) : Int) := by rw [Int.natCast_ediv]; simp
  rw [this]; omega
/-- How many dots. -/
def cntF (f : List Int) : Int := ((dotL f 144).length : Int)
theorem dotL_row {f : List Int} {y x : Nat} (hx : x ≤ 12) : (dotL f (y * 12 + x)).length = (dotL f (y * 12)).length + ((List.range x).filter fun x => hasF f x y).length := by
  induction x with
  | zero => simp
  | succ x ih =>
    have h1 := dotL_succ_len (f := f) (y := y) (show x < 12 by omega)
    rw [← Nat.add_assoc, h1, ih (by omega), List.range_succ, List.filter_append]
    cases hp : hasF f x y <;> simp [hp]; omega
theorem row_cnt {f : List Int} {y n : Nat} (h : nth f y = n) : ((List.range 12).filter fun x => hasF f x y).length = cntN n := by
  unfold cntN
  congr 1
  apply List.filter_congr
  intro x _
  rw [hasF, h, dotB_bit]
theorem okF_row {f : List Int} (h : okF f = true) (hw : FrW f) {y : Nat} (hy : y < 12) : ∃ n : Nat, nth f y = n ∧ n < 4096 := by
  have h1 := hw.nth hy
  have h2 := List.all_eq_true.1 (show f.all okRow = true from h) _ (nth_mem (i := y) (by rw [hw.len]; exact hy))
  simp [okRow] at h2
  exact ⟨(nth f y).toNat, by omega, by omega⟩
theorem call393 {pu : Bool} {H : Heap} {f : List Int} (hw : FrW f) (hk : okF f = true) : Call tab pu 393 [iv .u16 f] H = some (.int .i64 (cntF f), H) := by
  refine Call_wp t393 (.inr rfl) rfl ?_
  have hl := hw.len
  simp [c393, k393, hl]
  refine WP_forH 7 12 12 rfl (by omega) (fun y e => e 6 = iv .u16 f ∧ e 3 = .int .i64 ((dotL f (y * 12)).length : Nat)) ?_ ?_ (by simp) (by simp [dotL_zero])
  · rintro y e hy hyy e4 h7 ⟨h6, h3⟩
    obtain ⟨n, hn, hlt⟩ := okF_row hk hw hy
    have h1 := dotL_row (f := f) (y := y) (x := 12) (by omega)
    rw [row_cnt hn, ← onesN_cnt n hlt] at h1
    have h2 := dotL_len (f := f) (k := y * 12 + 12)
    have e5 : IntKind.wrap .i64 (((dotL f (y * 12)).length : Int) + (onesN n : Int)) = ((dotL f (y * 12 + 12)).length : Int) := by rw [wrap64 (by omega)]; omega
    simp [b393_1, h7, h6, h3, hyy, hy, hl, hn, call530 (show n ≤ 65535 by omega), e5, e4, Nat.add_mul]
  · rintro e h7 ⟨h6, h3⟩
    simp [b393_1, h7, h3, cntF]
theorem call440 {pu : Bool} {H : Heap} {f : List Int} {q off ver : Nat} (hw : FrW f) (hr : rd H q off ver 12 = some (cs .u16 f)) : Call tab pu 440 [adr q off ver] H = some (slc H.length 0 0 (dotL f 144).length (dotL f 144).length, H ++ [⟨dotC f 144, 2, 0, false⟩]) := by
  refine Call_wp t440 (.inr rfl) rfl ?_
  simp [c440, k440, fill, rep]
  refine WP_count 4 12 12 rfl (fun y e G => e 0 = adr q off ver ∧ ∃ g, e 3 = g ∧ Gr H G g 2 (dotL f (y * 12)).length (dotC f (y * 12))) (by omega) ?_ ?_ (by simp) (by simp; exact Gr.new .refl)
  · rintro y e G _ hy hyy e4 h7 ⟨h1, g, h3, hg⟩
    simp [b440_2, h7, hyy]
    refine WP_count 5 12 12 rfl (fun x e G => e 0 = adr q off ver ∧ e 4 = .int .i64 y ∧ ∃ g, e 3 = g ∧ Gr H G g 2 (dotL f (y * 12 + x)).length (dotC f (y * 12 + x))) (by omega) ?_ ?_ (by simp) (by simp [h1, h7, h3]; exact hg)
    · rintro x e G _ hx hxx e5 h10 ⟨h1, h4, g, h3, hg⟩
      have hc := call456 (pu := true) hw (hg.pre.rd hr) hx hy
      have hs := dotC_succ (f := f) (y := y) hx
      have hs2 := dotL_succ_len (f := f) (y := y) hx
      have hle := dotL_len (f := f) (k := y * 12 + x)
      have w1 : IntKind.wrap .i8 (x : Int) = x := wrap8 (by omega)
      have w2 : IntKind.wrap .i8 (y : Int) = y := wrap8 (by omega)
      cases hp : hasF f x y with
      | true =>
        rw [hp] at hc hs hs2
        rw [if_pos rfl] at hs hs2
        obtain ⟨g', G', hpush, hg'⟩ := hg.push (c := mvC ((x : Int), (y : Int))) (bytes := 2) rfl (by have : roomMax = 140737488355328 := rfl; omega) (wb := false)
        have hfa : fill [.int .i8 0, .int .i8 0] [(0, 1, .int .i8 (x : Int)), (1, 1, .int .i8 (y : Int))] = some (mvC ((x : Int), (y : Int))) := rfl
        have hf1 := fill_one (z := [.int .i8 0, .int .i8 0]) (v := agg (mvC ((x : Int), (y : Int)))) (esz := 2) rfl rfl
        simp [b440_1, h10, hxx, h1, h4, h3, hc, w1, w2, hfa, hf1, hpush, wbOf, e5, ← Nat.add_assoc, hs, hs2]
        exact hg'
      | false =>
        rw [hp] at hc hs hs2
        rw [if_neg (by simp)] at hs hs2
        simp [b440_1, h10, hxx, h1, h4, h3, hc, e5, ← Nat.add_assoc, hs, hs2]
        exact hg
    · rintro e G _ h10 ⟨h1, h4, g, h3, hg⟩
      simp [b440_1, h10, h1, h4, h3, e4, Nat.add_mul]
      exact hg
  · rintro e G _ h7 ⟨h1, g, h3, hg⟩
    have := hg.fin mvsC_flat
    simp [b440_2, h7, h3, this]
theorem call409 {pu : Bool} {H : Heap} {f : List Int} {q off ver : Nat} (hw : FrW f) (hr : rd H q off ver 12 = some (cs .u16 f)) : Call tab pu 409 [adr q off ver] H = some (.int .i64 (cntF f), H) := by
  refine Call_wp t409 (.inr rfl) rfl ?_
  simp [c409, k409, call440 hw hr, cntF]
theorem mixF_W {op : Int → Int → Int} {a b : List Int} (h : ∀ x y, u16' (op x y)) : FrW (mixF op a b) := ⟨mixF_length, fun n hn => by
  obtain ⟨i, hi, rfl⟩ := mem_nth hn
  rw [mixF_length] at hi
  rw [mixF, nth_tabN hi]; exact h _ _⟩
/-- By how many dots two frames differ. -/
def difF (a b : List Int) : Int := cntF (mixF xorI a b)
abbrev Lp := Option (Nat × Nat × Int)
def stepL (b : List (List Int)) (n : Nat) (i : Nat) (o : Lp) : Lp := match o with
  | none => some (i, n, difF (fr b (i + n - 1)) (fr b i))
  | some (f, c, j) => if difF (fr b (i + n - 1)) (fr b i) < j then some (i, n, difF (fr b (i + n - 1)) (fr b i)) else some (f, c, j)
/-- A list of which one knows the block. -/
def Own (G : Heap) (r : Value) (β : Option Nat) (n0 esz n : Nat) (vs : List Value) : Prop := vs.length = n * esz ∧ match β with
  | none => r = .slice none 0 0 ∧ n = 0
  | some b => n0 ≤ b ∧ ∃ ver cap rest, r = slc b 0 ver n cap ∧ n ≤ cap ∧ G[b]? = some ⟨vs ++ rest, esz, ver, false⟩
theorem Own.sl {G : Heap} {r : Value} {β : Option Nat} {n0 esz n : Nat} {vs : List Value} (h : Own G r β n0 esz n vs) : SlR G r esz n vs := by
  obtain ⟨hl, h⟩ := h
  cases β with
  | none => exact ⟨hl, .inl h⟩
  | some b =>
    obtain ⟨_, ver, cap, rest, rfl, hc, hg⟩ := h
    exact ⟨hl, .inr ⟨b, 0, ver, cap, rfl, hc, by rw [rd_at hg rfl (by simp [hl])]; simp [← hl], _, hg, rfl, rfl⟩⟩
theorem Own.pre {G G' : Heap} {r : Value} {β : Option Nat} {n0 esz n : Nat} {vs : List Value} (p : Pre G G') (h : Own G r β n0 esz n vs) : Own G' r β n0 esz n vs := by
  obtain ⟨L, rfl⟩ := p
  obtain ⟨hl, h⟩ := h
  refine ⟨hl, ?_⟩
  cases β with
  | none => exact h
  | some b =>
    obtain ⟨hb, ver, cap, rest, rfl, hc, hg⟩ := h
    exact ⟨hb, ver, cap, rest, rfl, hc, by rw [List.getElem?_append_left (List.getElem?_eq_some_iff.1 hg).1]; exact hg⟩
theorem Own.low {G : Heap} {r : Value} {β : Option Nat} {n0 n1 esz n : Nat} {vs : List Value} (h : Own G r β n0 esz n vs) (hn : n1 ≤ n0) : Own G r β n1 esz n vs := by
  obtain ⟨hl, h⟩ := h
  refine ⟨hl, ?_⟩
  cases β with
  | none => exact h
  | some b => exact ⟨Nat.le_trans hn h.1, h.2⟩
theorem Own.lt {G : Heap} {r : Value} {b : Nat} {n0 esz n : Nat} {vs : List Value} (h : Own G r (some b) n0 esz n vs) : n0 ≤ b ∧ b < G.length := by
  obtain ⟨hl, hb, ver, cap, rest, rfl, hc, hg⟩ := h
  exact ⟨hb, (List.getElem?_eq_some_iff.1 hg).1⟩
/-- Two heaps that differ in one block at most. -/
structure SameB (G G' : Heap) (β : Option Nat) : Prop where
  len : G'.length = G.length
  get : ∀ b, β ≠ some b → G'[b]? = G[b]?
theorem SameB.refl {G : Heap} {β : Option Nat} : SameB G G β := ⟨rfl, fun _ _ => rfl⟩
theorem SameB.set {G : Heap} {b : Nat} {k : Blk} : SameB G (G.set b k) (some b) := ⟨by simp, fun b' h => by rw [List.getElem?_set_ne]; intro h2; exact h (by rw [h2])⟩
theorem pre_of_get {H G : Heap} (hl : H.length ≤ G.length) (h : ∀ i, i < H.length → G[i]? = H[i]?) : Pre H G := by
  refine ⟨G.drop H.length, ?_⟩
  have : G.take H.length = H := List.ext_getElem? fun i => by
    rcases Nat.lt_or_ge i H.length with h1 | h1
    · rw [List.getElem?_take, if_pos h1, h i h1]
    · rw [List.getElem?_eq_none (by simp; omega), List.getElem?_eq_none h1]
  conv => lhs; rw [← List.take_append_drop H.length G, this]
theorem Pre.get {H G : Heap} (p : Pre H G) {i : Nat} (hi : i < H.length) : G[i]? = H[i]? := by
  obtain ⟨L, rfl⟩ := p
  rw [List.getElem?_append_left hi]
theorem SameB.pre {H G G' : Heap} {β : Option Nat} (s : SameB G G' β) (p : Pre H G) (hb : ∀ b, β = some b → H.length ≤ b) : Pre H G' :=
  pre_of_get (by rw [s.len]; exact p.len) fun i hi => by rw [s.get i fun h => by have := hb i h; omega, p.get hi]
theorem Own.below {G : Heap} {r : Value} {β : Option Nat} {n0 esz n : Nat} {vs : List Value} (h : Own G r β n0 esz n vs) : ∀ b, β = some b → n0 ≤ b := by
  rintro b rfl; exact h.2.1
theorem set_self {G : Heap} {b : Nat} {k : Blk} (h : G[b]? = some k) : G.set b k = G := by
  apply List.ext_getElem?
  intro i
  rw [List.getElem?_set]
  split
  · rename_i h1; subst h1; rw [if_pos (List.getElem?_eq_some_iff.1 h).1, h]
  · rfl
def mkL (ms : Nat → Value) (m : Nat) : List Value := (List.range m).map ms
/-- A list that has grown, handed back with a code. -/
theorem Gr.fin2 {H G : Heap} {x : Value} {esz n : Nat} {vs : List Value} (g : Gr H G x esz n vs) (hn : NoRef vs) {c : Int} : finish H.length G [x, .int .i64 c] = (tup [slc H.length 0 0 n n, .int .i64 c], H ++ [⟨vs, esz, 0, false⟩]) := by
  obtain ⟨b, ver, rfl, h1, h2, h3, h4⟩ := g
  have hne : old1 H.length (slc b 0 ver n n) = false := by
    show (true && decide (b < H.length)) = false
    simp; omega
  have : pack H.length G [slc b 0 ver n n, .int .i64 c] [] [] = some ([slc H.length 0 0 n n, .int .i64 c], [⟨vs, esz, 0, false⟩]) := by
    rw [pack, if_neg (by rw [hne]; decide)]
    show (match G[b]? with
      | some k => if ([] : List Nat).contains b = false ∧ ver = k.ver ∧ k.ro = false ∧ k.cells.all (old0 H.length) = true then (pack H.length G [.int .i64 c] [b] ([] ++ [{ k with ver := 0 }])).map fun (q : List Value × List Blk) => (slc (H.length + ([] : List Blk).length) 0 0 n n :: q.1, q.2) else none
      | none => none) = _
    rw [h1]
    simp only []
    rw [if_pos ⟨by simp, trivial, trivial, hn.all⟩]
    simp
  rw [finish_some this, h4.take]; rfl
theorem own_new {H : Heap} {esz n : Nat} {vs : List Value} (hl : vs.length = n * esz) : Own (H ++ [⟨vs, esz, 0, false⟩]) (slc H.length 0 0 n n) (some H.length) H.length esz n vs :=
  ⟨hl, Nat.le_refl _, 0, n, [], rfl, Nat.le_refl _, by rw [List.append_nil]; exact get_last⟩
theorem finish_nil2 {H G : Heap} {c : Int} : finish H.length G [.slice none 0 0, .int .i64 c] = (tup [.slice none 0 0, .int .i64 c], G.take H.length) := finish_vs (by simp)
/- Ghosts. -/
theorem call349 {pu : Bool} {H : Heap} {p q o o' v v' : Nat} {a b : List Int} (ha : a.length = 12) (hb : b.length = 12) (h1 : rd H p o v 12 = some (cs .u16 a)) (h2 : rd H q o' v' 12 = some (cs .u16 b)) :
    Call tab pu 349 [adr p o v, adr q o' v'] H = some (iv .u16 (mixF lessI a b), H) := by
  refine Call_wp t349 (.inr rfl) rfl ?_
  have hz0 := stc_zr (k := .u16) (n := 12) (l := zr 12 0) (by simp)
  simp [c349, k349, zs_cs, agg_cs, fill, hz0]
  refine WP_forH 6 12 12 rfl (by omega) (fun i e => e 0 = adr p o v ∧ e 1 = adr q o' v' ∧ e 4 = iv .u16 (zr 12 0) ∧ e 5 = iv .u16 (mixZ lessI a b i)) ?_ ?_ (by simp) (by simp [mixZ_zero])
  · rintro i e hi hlt e4 h6 ⟨h0, h1', h4, h5⟩
    have hl := mixZ_length (op := lessI) (a := a) (b := b) (i := i)
    have e9 := stc_at (k := .u16) (l := mixZ lessI a b i) (by omega) (mixZ_set (op := lessI) (a := a) (b := b) hi)
    simp (disch := omega) [b349_1, h6, h0, h1', h4, h5, hlt, hi, rd_one h1 hi, rd_one h2 hi, lessI_eq, hl, e9, e4]
  · rintro e h6 ⟨h0, h1', h4, h5⟩
    have hz := stc_zr (k := .u16) (n := 12) (l := mixF lessI a b) mixF_length
    simp [b349_1, h6, h4, h5, mixZ_all, mixF_length, hz, agg_cs]
theorem rowsC_app {α : Type} {f : α → List Value} {a b : List α} : rowsC f (a ++ b) = rowsC f a ++ rowsC f b := by
  induction a with
  | nil => rfl
  | cons m r ih => simp only [List.cons_append, rowsC, List.append_assoc, ih]
theorem room24 {n : Nat} (h : n ≤ 1000000) : (n + 1) * 24 ≤ roomMax := by have : roomMax = 140737488355328 := rfl; omega
theorem fillF {f : List Int} (h : f.length = 12) : fill (rep 1 (cs .u16 (zr 12 0))) [(0, 12, iv .u16 f)] = some (cs .u16 f) := fill_one (by simp [h]) (by simp)
def hasI (f : List Int) (a b : Int) : Bool := okP a b && hasF f a.toNat b.toNat
theorem hasI_nat {f : List Int} {x y : Nat} (hx : x < 12) (hy : y < 12) : hasI f x y = hasF f x y := by simp [hasI, okP_nat hx hy]
/-- A list that grows, in a block that one knows. -/
def GrB (H G : Heap) (b : Nat) (x : Value) (esz n : Nat) (vs : List Value) : Prop := ∃ ver, x = slc b 0 ver n n ∧ G[b]? = some ⟨vs, esz, ver, false⟩ ∧ H.length ≤ b ∧ vs.length = n * esz ∧ Pre H G
theorem GrB.gr {H G : Heap} {b : Nat} {x : Value} {esz n : Nat} {vs : List Value} (g : GrB H G b x esz n vs) : Gr H G x esz n vs := by
  obtain ⟨ver, h⟩ := g
  exact ⟨b, ver, h⟩
theorem GrB.push {H G : Heap} {b : Nat} {x : Value} {esz n bytes : Nat} {vs c : List Value} (g : GrB H G b x esz n vs) (hc : c.length = esz) (hb : (n + 1) * bytes ≤ roomMax) {wb : Bool} :
    ∃ x' G', ((srcOf esz (G ++ [⟨c, esz, 0, false⟩]) (slc G.length 0 0 1 1)).bind fun q => appendTo H.length wb esz bytes (G ++ [⟨c, esz, 0, false⟩]) x q.1 q.2) = some (x', G') ∧ GrB H G' b x' esz (n + 1) (vs ++ c) ∧ ∀ b', b' ≠ b → b' < G.length → G'[b']? = G[b']? := by
  obtain ⟨ver, rfl, h1, h2, h3, h4⟩ := g
  have h1' : (G ++ [(⟨c, esz, 0, false⟩ : Blk)])[b]? = some ⟨vs, esz, ver, false⟩ := by rw [List.getElem?_append_left (List.getElem?_eq_some_iff.1 h1).1]; exact h1
  have e1 : srcOf esz (G ++ [⟨c, esz, 0, false⟩]) (slc G.length 0 0 1 1) = some (1, c) := by
    show (rd (G ++ [⟨c, esz, 0, false⟩]) G.length 0 0 (1 * esz)).map (fun cs => (1, cs)) = _
    rw [Nat.one_mul, rd_last rfl (by simpa using hc)]; rfl
  refine ⟨slc b 0 (ver + 1) (n + 1) (n + 1), (G ++ [(⟨c, esz, 0, false⟩ : Blk)]).set b ⟨vs ++ c, esz, ver + 1, false⟩, ?_, ⟨ver + 1, rfl, get_set h1', h2, by simp [h3, hc, Nat.succ_mul], (h4.app).set h2⟩, fun b' hne hlt => ?_⟩
  · rw [e1, Option.bind_some]
    exact appendTo_grow h1' rfl rfl (by simp [may, h2]) rfl h3.symm (by omega) hb
  · rw [List.getElem?_set_ne (fun h => hne h.symm), List.getElem?_append_left hlt]
/-- All of a list behind another one. -/
theorem Gr.append {H G : Heap} {x y : Value} {esz n m bytes : Nat} {vs ws : List Value} (g : Gr H G x esz n vs) (hy : SlR G y esz m ws) (hb : (n + m) * bytes ≤ roomMax) {wb : Bool} :
    ∃ x' G', ((srcOf esz G y).bind fun q => appendTo H.length wb esz bytes G x q.1 q.2) = some (x', G') ∧ ∃ b ver, (x' = slc b 0 ver (n + m) (n + m) ∧ H.length ≤ b ∧ G' = G.set b ⟨vs ++ ws, esz, ver, false⟩) ∧ Gr H G' x' esz (n + m) (vs ++ ws) := by
  obtain ⟨b, ver, rfl, h1, h2, h3, h4⟩ := g
  have e1 : srcOf esz G y = some (m, ws) := by
    rcases hy.is with ⟨rfl, rfl⟩ | ⟨c, off, v, cap, rfl, _, hr, _⟩
    · have : ws = [] := by have := hy.size; simpa using this
      rw [this]; rfl
    · show (rd G c off v (m * esz)).map (fun cs => (m, cs)) = _
      rw [hr]; rfl
  rw [e1, Option.bind_some]
  have hsz := hy.size
  rcases Nat.eq_zero_or_pos m with h0 | h0
  · subst h0
    have : ws = [] := by simpa using hsz
    subst this
    have hset : G.set b ⟨vs ++ [], esz, ver, false⟩ = G := by rw [List.append_nil]; exact set_self h1
    refine ⟨slc b 0 ver n n, G, ?_, b, ver, ⟨rfl, h2, hset.symm⟩, b, ver, rfl, by rw [List.append_nil]; exact h1, h2, by simpa using h3, h4⟩
    unfold appendTo slc
    simp only []
    rw [if_pos (by omega), wr_at h1 rfl rfl (by simp [may, h2]) (by simp [h3])]
    have : splice vs (0 + n * esz) [] = vs := by simp [splice]
    rw [this]
    show some (slc b 0 ver (n + 0) n, G.set b ⟨vs, esz, ver, false⟩) = _
    rw [set_self h1]; rfl
  · refine ⟨slc b 0 (ver + 1) (n + m) (n + m), G.set b ⟨vs ++ ws, esz, ver + 1, false⟩, appendTo_grow h1 rfl rfl (by simp [may, h2]) rfl h3.symm h0 hb, b, ver + 1, ⟨rfl, h2, rfl⟩, b, ver + 1, rfl, get_set h1, h2, by simp [h3, hsz, Nat.add_mul], h4.set h2⟩
theorem GrB.append {H G : Heap} {b : Nat} {x y : Value} {esz n m bytes : Nat} {vs ws : List Value} (g : GrB H G b x esz n vs) (hy : SlR G y esz m ws) (hb : (n + m) * bytes ≤ roomMax) {wb : Bool} :
    ∃ x' G', ((srcOf esz G y).bind fun q => appendTo H.length wb esz bytes G x q.1 q.2) = some (x', G') ∧ GrB H G' b x' esz (n + m) (vs ++ ws) ∧ G'.length = G.length ∧ ∀ b', b' ≠ b → G'[b']? = G[b']? := by
  obtain ⟨ver, rfl, h1, h2, h3, h4⟩ := g
  have e1 : srcOf esz G y = some (m, ws) := by
    rcases hy.is with ⟨rfl, rfl⟩ | ⟨c, off, v, cap, rfl, _, hr, _⟩
    · have : ws = [] := by have := hy.size; simpa using this
      rw [this]; rfl
    · show (rd G c off v (m * esz)).map (fun cs => (m, cs)) = _
      rw [hr]; rfl
  rw [e1, Option.bind_some]
  have hsz := hy.size
  rcases Nat.eq_zero_or_pos m with h0 | h0
  · subst h0
    have : ws = [] := by simpa using hsz
    subst this
    refine ⟨slc b 0 ver n n, G, ?_, ⟨ver, rfl, by rw [List.append_nil]; exact h1, h2, by simpa using h3, h4⟩, rfl, fun _ _ => rfl⟩
    unfold appendTo slc
    simp only []
    rw [if_pos (by omega), wr_at h1 rfl rfl (by simp [may, h2]) (by simp [h3])]
    have : splice vs (0 + n * esz) [] = vs := by simp [splice]
    rw [this]
    show some (slc b 0 ver (n + 0) n, G.set b ⟨vs, esz, ver, false⟩) = _
    rw [set_self h1]; rfl
  · refine ⟨slc b 0 (ver + 1) (n + m) (n + m), G.set b ⟨vs ++ ws, esz, ver + 1, false⟩, appendTo_grow h1 rfl rfl (by simp [may, h2]) rfl h3.symm h0 hb, ⟨ver + 1, rfl, get_set h1, h2, by simp [h3, hsz, Nat.add_mul], h4.set h2⟩, by simp, fun b' hne => ?_⟩
    rw [List.getElem?_set_ne fun h => hne h.symm]
structure Sted where
  a : Int
  b : Int
  c : Int
  d : Int
  rows : List (Int × Int)
instance : Inhabited Sted := ⟨⟨0, 0, 0, 0, []⟩⟩
structure StW (s : Sted) : Prop where
  a : i8 s.a
  b : i8 s.b
  c : i8 s.c
  d : i8 s.d
  rows : ∀ m ∈ s.rows, i8 m.1 ∧ u16' m.2
/-- The cells of a step. -/
def stC (s : Sted) (y : Value) : List Value := [.int .i8 s.a, .int .i8 s.b, .int .i8 s.c, .int .i8 s.d, y]
/-- The rows of a step in memory. -/
abbrev Rw (G : Heap) (y : Value) (s : Sted) : Prop := SlR G y 2 s.rows.length (chsC s.rows)
abbrev RwC (G : Heap) (y : Value) (s : Sted) : Prop := IsCp G y 2 s.rows.length (chsC s.rows) chF
/-- Steps in memory. -/
def StS (G : Heap) (x : Value) (l : List Sted) : Prop := ∃ vs, SlR G x 5 l.length vs ∧ ∀ i, i < l.length → ∃ y, elem vs 5 i = stC (at0 l i) y ∧ Rw G y (at0 l i)
theorem StS.pre {H G : Heap} {x : Value} {l : List Sted} (p : Pre H G) (h : StS H x l) : StS G x l := by
  obtain ⟨vs, h1, h2⟩ := h
  exact ⟨vs, h1.pre p, fun i hi => by obtain ⟨y, h3, h4⟩ := h2 i hi; exact ⟨y, h3, h4.pre p⟩⟩
theorem StS.lenV {G : Heap} {x : Value} {l : List Sted} (h : StS G x l) : lenV x = some (.int .i64 l.length) := by
  obtain ⟨vs, h1, _⟩ := h; exact h1.lenV
theorem StS.get {G : Heap} {x : Value} {l : List Sted} (h : StS G x l) {i : Nat} (hi : i < l.length) : ∃ q off ver y, idxAV 5 x (.int .i64 (i : Int)) = some (adr q off ver) ∧ rd G q off ver 5 = some (stC (at0 l i) y) ∧ Rw G y (at0 l i) := by
  obtain ⟨vs, h1, h2⟩ := h
  obtain ⟨q, off, ver, h3, h4⟩ := h1.get1 hi
  obtain ⟨y, h5, h6⟩ := h2 i hi
  rw [h5] at h4
  exact ⟨q, off, ver, y, h3, h4, h6⟩
/-- A copy of steps: what stands in the block, whatever stands in that block itself. -/
structure CpI (H G : Heap) (b : Nat) (flag : Bool) (s : Sted) (y : Value) : Prop where
  r : ∀ k, Rw (G.set b k) y s
  n : y = .slice none 0 0 ∨ old0 H.length y = false
  c : flag = false → (∀ k, RwC (G.set b k) y s) ∧ old0 H.length y = false
theorem CpI.set {H G : Heap} {b : Nat} {flag : Bool} {s : Sted} {y : Value} {k : Blk} (h : CpI H G b flag s y) : CpI H (G.set b k) b flag s y := ⟨fun k' => by rw [set_set]; exact h.r k', h.n, fun hf => ⟨fun k' => by rw [set_set]; exact (h.c hf).1 k', (h.c hf).2⟩⟩
theorem set_pre {G G' : Heap} {b : Nat} {k : Blk} (p : Pre G G') (hb : b < G.length) : Pre (G.set b k) (G'.set b k) := by
  obtain ⟨L, rfl⟩ := p
  exact ⟨L, by rw [List.set_append_left _ _ hb]⟩
theorem CpI.pre {H G G' : Heap} {b : Nat} {flag : Bool} {s : Sted} {y : Value} (h : CpI H G b flag s y) (p : Pre G G') (hb : b < G.length) : CpI H G' b flag s y :=
  ⟨fun k => (h.r k).pre (set_pre p hb), h.n, fun hf => ⟨fun k => ((h.c hf).1 k).pre (set_pre p hb), (h.c hf).2⟩⟩
def stpF : Sted := ⟨-101, -101, -101, -101, [(-101, 60201)]⟩
/-- Steps copied, with room behind. -/
def CpS (G : Heap) (x : Value) (l : List Sted) : Prop := ∃ b ver vs, x = slc b 0 ver l.length (l.length + roomN l.length) ∧ G[b]? = some ⟨vs, 5, ver, false⟩ ∧ vs.length = (l.length + roomN l.length) * 5 ∧
  (∀ i, i < l.length → ∃ y, elem vs 5 i = stC (at0 l i) y ∧ RwC G y (at0 l i)) ∧ ∀ i, l.length ≤ i → i < l.length + roomN l.length → ∃ y, elem vs 5 i = stC stpF y ∧ Rw G y stpF
theorem CpS.sl {G : Heap} {x : Value} {l : List Sted} (h : CpS G x l) : StS G x l := by
  obtain ⟨b, ver, vs, rfl, hg, hl, h1, h2⟩ := h
  have e1 : l.length * 5 ≤ vs.length := by omega
  refine ⟨vs.take (l.length * 5), ⟨by simp; omega, .inr ⟨b, 0, ver, _, rfl, by omega, by rw [rd_at hg rfl (by simp; omega)]; simp, _, hg, rfl, rfl⟩⟩, fun i hi => ?_⟩
  obtain ⟨y, h3, h4⟩ := h1 i hi
  exact ⟨y, by rw [elem_take hi, h3], h4.sl chsC_length rfl⟩
theorem CpS.pre {H G : Heap} {x : Value} {l : List Sted} (p : Pre H G) (h : CpS H x l) : CpS G x l := by
  obtain ⟨b, ver, vs, rfl, hg, hl, h1, h2⟩ := h
  refine ⟨b, ver, vs, rfl, by rw [p.get (List.getElem?_eq_some_iff.1 hg).1]; exact hg, hl, fun i hi => ?_, fun i hi hi2 => ?_⟩
  · obtain ⟨y, h3, h4⟩ := h1 i hi; exact ⟨y, h3, h4.pre p⟩
  · obtain ⟨y, h3, h4⟩ := h2 i hi hi2; exact ⟨y, h3, h4.pre p⟩
theorem mem_elem {C : List Value} {esz i : Nat} {v : Value} (h : v ∈ elem C esz i) : v ∈ C := List.mem_of_mem_drop (List.mem_of_mem_take h)
/-- A call, and what holds of what it comes to. -/
theorem Call_ex {T : Tab} {pu : Bool} {f : Nat} {F : Fn} (hT : T f = some (.fn F)) (hp : pu = false ∨ F.kind = .pure) {xs : List Value} {H : Heap} {P : Value × Heap → Prop} (hn : xs.length = F.np)
    (h : WK T H.length (wbOf F.kind) F.body [] (ini xs) H fun x e' H' => (∀ i, x ≠ .exit i) ∧ ∃ r, (resVs e' H' F.res).map (finish H.length H') = some r ∧ P r) : ∃ r, Call T pu f xs H = some r ∧ P r := by
  obtain ⟨x, e', H', hr, hx, r, q, p⟩ := h
  exact ⟨r, Call_wp0 hT hp hn ⟨x, e', H', hr, hx, q⟩, p⟩
def rw' (s : Sted) (j : Nat) : Int × Int := at0 s.rows j
def in1 (n lo hi : Int) : Bool := decide (lo ≤ n ∧ n ≤ hi)
def rowB (s : Sted) (j : Nat) : Bool := in1 (rw' s j).1 0 11 && in1 (rw' s j).2 1 4095 && (decide (j = 0) || decide ((rw' s (j - 1)).1 < (rw' s j).1))
def rowsB (s : Sted) : Bool := allN (rowB s) s.rows.length
def stillB (s : Sted) : Bool := (s.c == 0) && (s.d == 0)
def kindB (s : Sted) (i : Nat) : Bool :=
  if (s.a == 0) = true then (s.b == 0) && stillB s else if (s.a == 1) = true then in1 s.b 0 ((i : Int) - 1) && stillB s
  else if (s.a == 2) = true then in1 s.b 0 ((i : Int) - 1) && !stillB s && in1 s.c (-12) 12 && in1 s.d (-12) 12 else false
def okSt (s : Sted) (i : Nat) : Bool := rowsB s && kindB s i
def okSts (l : List Sted) : Bool := allN (fun i => okSt (at0 l i) i) l.length && decide (l.length ≤ 40)
theorem in295 {pu : Bool} {H : Heap} {n lo hi : Int} : Call tab pu 295 [.int .i64 n, .int .i64 lo, .int .i64 hi] H = some (.bool (in1 n lo hi), H) := call295
theorem in304 {pu : Bool} {H : Heap} {n lo hi : Int} : Call tab pu 304 [.int .i64 n, .int .i64 lo, .int .i64 hi] H = some (.bool (in1 n lo hi), H) := call304
theorem StW.row {s : Sted} (h : StW s) {j : Nat} (hj : j < s.rows.length) : i8 (rw' s j).1 ∧ u16' (rw' s j).2 := h.rows _ (at0_mem hj)
structure StsW (l : List Sted) : Prop where
  w : ∀ s ∈ l, StW s
  n : l.length ≤ 1000000
  r : ∀ s ∈ l, s.rows.length ≤ 1000000
theorem okSt_a {s : Sted} {i : Nat} (h : okSt s i = true) : 0 ≤ s.a ∧ s.a ≤ 2 := by
  simp only [okSt, kindB, Bool.and_eq_true] at h
  obtain ⟨_, h⟩ := h
  by_cases h0 : (s.a == 0) = true
  · simp at h0; omega
  · rw [if_neg h0] at h
    by_cases h1 : (s.a == 1) = true
    · simp at h1; omega
    · rw [if_neg h1] at h
      by_cases h2 : (s.a == 2) = true
      · simp at h2; omega
      · rw [if_neg h2] at h; cases h
theorem okSts_get {l : List Sted} (h : okSts l = true) {i : Nat} (hi : i < l.length) : okSt (at0 l i) i = true := by
  simp only [okSts, Bool.and_eq_true] at h
  exact allN_get (p := fun i => okSt (at0 l i) i) h.1 hi
theorem okSts_len {l : List Sted} (h : okSts l = true) : l.length ≤ 40 := by
  simp only [okSts, Bool.and_eq_true, decide_eq_true_eq] at h
  exact h.2
def stCost (s : Sted) : Int := costV s.a s.rows.length
structure StsC (l : List Sted) : Prop where
  n : l.length ≤ 1000000
  a : ∀ i, i < l.length → 0 ≤ (at0 l i).a ∧ (at0 l i).a ≤ 2
  r : ∀ s ∈ l, s.rows.length ≤ 1000000
theorem StsC.of {l : List Sted} (hw : StsW l) (hk : okSts l = true) : StsC l := ⟨hw.n, fun i hi => okSt_a (okSts_get hk hi), hw.r⟩
def ms2 (c : Int) (i : Nat) : Value := if i % 2 = 0 then .int .i8 (IntKind.wrap .i8 (c + i)) else .int .u16 (IntKind.wrap .u16 (c + i))
/-- A copy of steps while marks are being written over it. -/
structure MkI (G G' : Heap) (b ver lo hi n : Nat) (y : Nat → Value) (m : Nat → Nat) : Prop where
  len : G'.length = G.length
  fr : ∀ j, j < lo ∨ hi ≤ j → G'[j]? = G[j]?
  inb : lo ≤ b ∧ b < hi
  out : ∃ vs, G'[b]? = some ⟨vs, 5, ver, false⟩ ∧ n * 5 ≤ vs.length ∧ ∀ i, i < n → vs[i * 5 + 4]? = some (y i)
  row : ∀ i, i < n → ∃ b' ver' cap' ws, y i = slc b' 0 ver' (m i) cap' ∧ lo ≤ b' ∧ b' < hi ∧ b' ≠ b ∧ G'[b']? = some ⟨ws, 2, ver', false⟩ ∧ m i * 2 ≤ ws.length
theorem MkI.rows {G G' : Heap} {b ver lo hi n : Nat} {y : Nat → Value} {m : Nat → Nat} (h : MkI G G' b ver lo hi n y m) {b' ver' : Nat} {ws ws' : List Value} (hb : lo ≤ b' ∧ b' < hi) (hne : b' ≠ b) (hg : G'[b']? = some ⟨ws, 2, ver', false⟩) (hw : ws'.length = ws.length) :
    MkI G (G'.set b' ⟨ws', 2, ver', false⟩) b ver lo hi n y m := by
  refine ⟨by simp [h.len], fun j hj => ?_, h.inb, ?_, fun i hi => ?_⟩
  · rw [List.getElem?_set_ne (by omega)]
    exact h.fr j hj
  · obtain ⟨vs, h1, h2⟩ := h.out
    exact ⟨vs, by rw [List.getElem?_set_ne hne]; exact h1, h2⟩
  · obtain ⟨b2, ver2, cap2, ws2, h1, h2, h3, h4, h5, h6⟩ := h.row i hi
    by_cases hb2 : b' = b2
    · subst hb2
      rw [hg] at h5
      cases h5
      exact ⟨b', ver', cap2, ws', h1, h2, h3, h4, get_set hg, by rw [hw]; exact h6⟩
    · exact ⟨b2, ver2, cap2, ws2, h1, h2, h3, h4, by rw [List.getElem?_set_ne hb2]; exact h5, h6⟩
def mkS (m : Nat → Nat) (i : Nat) : Nat := itN (fun i v => v + 4 + m i * 2) 0 i
theorem Own.agree {G G' : Heap} {r : Value} {β : Option Nat} {n0 esz n : Nat} {vs : List Value} (h : Own G r β n0 esz n vs) (hne : ∀ b, β = some b → G'[b]? = G[b]?) : Own G' r β n0 esz n vs := by
  obtain ⟨hl, h⟩ := h
  refine ⟨hl, ?_⟩
  cases β with
  | none => exact h
  | some b =>
    obtain ⟨hb, ver, cap, rest, rfl, hc, hg⟩ := h
    exact ⟨hb, ver, cap, rest, rfl, hc, by rw [hne b rfl]; exact hg⟩
/- Lists of numbers. -/
theorem elem_i {l : List Int} {k : IntKind} {i : Nat} (h : i < l.length) : elem (cs k l) 1 i = [.int k (nth l i)] := by
  unfold elem; rw [Nat.mul_one]; exact cs_one h
def depV (s : Sted) (v : List Int) : Int := if s.a == 0 then 0 else nth v s.b.toNat + 1
theorem nth_app {v : List Int} {a : Int} {j : Nat} : nth (v ++ [a]) j = if j < v.length then nth v j else if j = v.length then a else 0 := by
  unfold nth
  by_cases h : j < v.length
  · rw [if_pos h]; simp [List.getElem?_append_left h, List.getD_eq_getElem?_getD]
  · rw [if_neg h]
    by_cases h2 : j = v.length
    · rw [if_pos h2]; subst h2; simp [List.getD_eq_getElem?_getD]
    · rw [if_neg h2, List.getD_eq_getElem?_getD, List.getElem?_eq_none (by simp; omega)]; rfl
theorem cs_push {k : IntKind} {l : List Int} {a : Int} : cs k l ++ [.int k a] = cs k (l ++ [a]) := by simp [cs]
/-- A row from its bits. -/
def rowN (q : Nat → Bool) (m : Nat) : Nat := itN (fun i v => v ||| if q i = true then 2 ^ i else 0) 0 m
theorem rowN_succ {q : Nat → Bool} {m : Nat} : rowN q (m + 1) = rowN q m ||| if q m = true then 2 ^ m else 0 := itN_succ
theorem rowN_bit {q : Nat → Bool} {m x : Nat} : (rowN q m).testBit x = (decide (x < m) && q x) := by
  induction m with
  | zero => simp [rowN, itN_zero]
  | succ m ih =>
    rw [rowN_succ, Nat.testBit_or, ih]
    by_cases h : x = m
    · subst h
      cases hq : q x <;> simp
    · have h2 : decide (x < m + 1) = decide (x < m) := by apply decide_eq_decide.2; omega
      rw [h2]
      cases hq : q m
      · simp
      · simp [Nat.testBit_two_pow]; omega
theorem rowN_lt {q : Nat → Bool} {m : Nat} : rowN q m < 2 ^ m := by
  apply Nat.lt_pow_two_of_testBit
  intro i hi
  rw [rowN_bit]
  simp; omega
theorem rowN_eq {q : Nat → Bool} {n m : Nat} (hn : n < 2 ^ m) (h : ∀ x, x < m → n.testBit x = q x) : n = rowN q m := by
  apply Nat.eq_of_testBit_eq
  intro x
  rw [rowN_bit]
  by_cases hx : x < m
  · rw [h x hx]; simp [hx]
  · simp [hx]
    exact Nat.testBit_lt_two_pow (Nat.lt_of_lt_of_le hn (Nat.pow_le_pow_right (by omega) (by omega)))
/-- A frame from its dots. -/
def dotsF (p : Nat → Nat → Bool) : List Int := tabN 12 fun y => ((rowN (fun x => p x y) 12 : Nat) : Int)
theorem dotsF_length {p : Nat → Nat → Bool} : (dotsF p).length = 12 := by simp [dotsF, tabN]
theorem dotsF_nth {p : Nat → Nat → Bool} {y : Nat} (hy : y < 12) : nth (dotsF p) y = ((rowN (fun x => p x y) 12 : Nat) : Int) := nth_tabN hy
theorem dotsF_W {p : Nat → Nat → Bool} : FrW (dotsF p) := ⟨dotsF_length, fun n hn => by
  obtain ⟨i, hi, rfl⟩ := List.getElem_of_mem hn
  rw [dotsF_length] at hi
  have h1 := dotsF_nth (p := p) hi
  have h2 := rowN_lt (q := fun x => p x i) (m := 12)
  rw [nth_of (List.getElem?_eq_getElem (by rw [dotsF_length]; exact hi))] at h1
  rw [h1]; simp only [u16']; omega⟩
theorem dotsF_ok {p : Nat → Nat → Bool} : okF (dotsF p) = true := by
  apply List.all_eq_true.2
  intro n hn
  obtain ⟨i, hi, rfl⟩ := List.getElem_of_mem hn
  rw [dotsF_length] at hi
  have h1 := dotsF_nth (p := p) hi
  have h2 := rowN_lt (q := fun x => p x i) (m := 12)
  rw [nth_of (List.getElem?_eq_getElem (by rw [dotsF_length]; exact hi))] at h1
  rw [h1]; simp only [okRow, decide_eq_true_eq]; omega
theorem list12 {f g : List Int} (hf : f.length = 12) (hg : g.length = 12) (h : ∀ y, y < 12 → nth f y = nth g y) : f = g := by
  apply List.ext_getElem (by omega)
  intro i h1 h2
  have := h i (by omega)
  rw [nth_of (List.getElem?_eq_getElem h1), nth_of (List.getElem?_eq_getElem h2)] at this
  exact this
theorem dotsF_congr {p q : Nat → Nat → Bool} (h : ∀ x y, x < 12 → y < 12 → p x y = q x y) : dotsF p = dotsF q := by
  refine list12 dotsF_length dotsF_length fun y hy => ?_
  rw [dotsF_nth hy, dotsF_nth hy]
  congr 1
  apply rowN_eq rowN_lt
  intro x hx
  rw [rowN_bit]; simp [hx, h x y hx hy]
theorem dotsF_none : dotsF (fun _ _ => false) = zr 12 0 := by
  refine list12 dotsF_length (by simp) fun y hy => ?_
  rw [dotsF_nth hy, nth_zr]
  have : rowN (fun _ => false) 12 = 0 := (rowN_eq (by decide) fun x hx => by simp).symm
  simp [this]
theorem bit_nat {x : Nat} : bit x = ((2 ^ x : Nat) : Int) := by simp [bit]
theorem or_nat {a b : Nat} (ha : a < 65536) (hb : b < 65536) : bitsOf .or .u16 (a : Int) (b : Int) = ((a ||| b : Nat) : Int) := by
  have e0 : IntKind.bits .u16 = 16 := rfl
  unfold bitsOf
  simp only []
  have hl : a ||| b < 2 ^ 16 := Nat.or_lt_two_pow ha hb
  have e1 : (BitVec.ofInt (IntKind.bits .u16) (a : Int) ||| BitVec.ofInt (IntKind.bits .u16) (b : Int)).toNat = a ||| b := by
    rw [BitVec.toNat_or, e0, BitVec.ofInt_natCast, BitVec.ofInt_natCast, BitVec.toNat_ofNat, BitVec.toNat_ofNat, Nat.mod_eq_of_lt (by omega), Nat.mod_eq_of_lt (by omega)]
  rw [e1, wrapu16 (by omega)]
theorem putF_dots {p : Nat → Nat → Bool} {x y : Nat} (hx : x < 12) (hy : y < 12) : putF (dotsF p) x y = dotsF fun x' y' => p x' y' || (decide (x' = x) && decide (y' = y)) := by
  refine list12 (by rw [putF_length, dotsF_length]) dotsF_length fun j hj => ?_
  rw [dotsF_nth hj, putF, nth_set (by rw [dotsF_length]; exact hy)]
  have hlt := rowN_lt (q := fun x => p x y) (m := 12)
  have h2 : 2 ^ x < 2 ^ 12 := Nat.pow_lt_pow_right (by omega) hx
  by_cases h : y = j
  · subst h
    rw [if_pos rfl, dotsF_nth hj, putR, bit_nat, or_nat (by omega) (by omega)]
    congr 1
    apply rowN_eq (Nat.or_lt_two_pow hlt h2)
    intro x' hx'
    rw [Nat.testBit_or, rowN_bit, Nat.testBit_two_pow]
    simp only [hx', decide_true, Bool.true_and, Bool.and_true]
    congr 1
    apply decide_eq_decide.2
    omega
  · rw [if_neg h, dotsF_nth hj]
    congr 1
    apply rowN_eq rowN_lt
    intro x' hx'
    have h3 : ¬ j = y := fun h2 => h h2.symm
    rw [rowN_bit]
    simp [hx', h3]
/-- The dots of a frame that has been moved. -/
def mvP (f : List Int) (dx dy : Int) (x y : Nat) : Bool := decide (0 ≤ (x : Int) - dx ∧ (x : Int) - dx < 12 ∧ 0 ≤ (y : Int) - dy ∧ (y : Int) - dy < 12) && hasF f ((x : Int) - dx).toNat ((y : Int) - dy).toNat
def shF (f : List Int) (dx dy : Int) : List Int := dotsF (mvP f dx dy)
/-- One dot put at its new place, if that is one. -/
def mv1 (dx dy : Int) (k : Nat) (s : List Int) : List Int :=
  if 0 ≤ ((k % 12 : Nat) : Int) + dx ∧ ((k % 12 : Nat) : Int) + dx < 12 ∧ 0 ≤ ((k / 12 : Nat) : Int) + dy ∧ ((k / 12 : Nat) : Int) + dy < 12 then putF s (((k % 12 : Nat) : Int) + dx).toNat (((k / 12 : Nat) : Int) + dy).toNat else s
def mvS (dx dy : Int) (L : List Nat) : List Int := L.foldl (fun s k => mv1 dx dy k s) (zr 12 0)
theorem mvS_snoc {dx dy : Int} {L : List Nat} {k : Nat} : mvS dx dy (L ++ [k]) = mv1 dx dy k (mvS dx dy L) := by simp [mvS]
theorem mvS_dots {dx dy : Int} {L : List Nat} : mvS dx dy L = dotsF fun x y => decide (∃ k ∈ L, ((k % 12 : Nat) : Int) + dx = x ∧ ((k / 12 : Nat) : Int) + dy = y) := by
  suffices h : ∀ n, ∀ L : List Nat, L.length = n → mvS dx dy L = dotsF fun x y => decide (∃ k ∈ L, ((k % 12 : Nat) : Int) + dx = x ∧ ((k / 12 : Nat) : Int) + dy = y) from h _ L rfl
  intro n
  induction n with
  | zero =>
    intro L hL
    obtain rfl := List.length_eq_zero_iff.1 hL
    rw [show mvS dx dy [] = zr 12 0 from rfl, ← dotsF_none]
    apply dotsF_congr
    intro x y _ _
    simp
  | succ n ih =>
    intro L hL
    obtain ⟨L', k, rfl⟩ : ∃ L' k, L = L' ++ [k] := by
      refine ⟨L.dropLast, L.getLast (by intro h; rw [h] at hL; cases hL), (List.dropLast_concat_getLast _).symm⟩
    rw [mvS_snoc, ih L' (by simpa using hL), mv1]
    split
    · rename_i h
      rw [putF_dots (by omega) (by omega)]
      apply dotsF_congr
      intro x y hx hy
      rw [Bool.eq_iff_iff]
      simp only [Bool.or_eq_true, Bool.and_eq_true, decide_eq_true_eq, List.mem_append, List.mem_singleton]
      constructor
      · rintro (⟨j, h1, h2⟩ | ⟨h1, h2⟩)
        · exact ⟨j, .inl h1, h2⟩
        · exact ⟨k, .inr rfl, by omega, by omega⟩
      · rintro ⟨j, h1 | rfl, h2, h3⟩
        · exact .inl ⟨j, h1, h2, h3⟩
        · exact .inr ⟨by omega, by omega⟩
    · rename_i h
      apply dotsF_congr
      intro x y hx hy
      rw [Bool.eq_iff_iff]
      simp only [decide_eq_true_eq, List.mem_append, List.mem_singleton]
      constructor
      · rintro ⟨j, h1, h2⟩
        exact ⟨j, .inl h1, h2⟩
      · rintro ⟨j, h1 | rfl, h2, h3⟩
        · exact ⟨j, h1, h2, h3⟩
        · exact absurd ⟨by omega, by omega, by omega, by omega⟩ h
theorem mvS_all {f : List Int} {dx dy : Int} : mvS dx dy (dotL f 144) = shF f dx dy := by
  rw [mvS_dots]
  apply dotsF_congr
  intro x y hx hy
  rw [Bool.eq_iff_iff]
  simp only [mvP, Bool.and_eq_true, decide_eq_true_eq]
  simp only [dotL, List.mem_filter, List.mem_range]
  constructor
  · rintro ⟨k, ⟨h1, h2⟩, h3, h4⟩
    have e1 : ((x : Int) - dx).toNat = k % 12 := by omega
    have e2 : ((y : Int) - dy).toNat = k / 12 := by omega
    refine ⟨by omega, ?_⟩
    rw [e1, e2]; exact h2
  · rintro ⟨h1, h2⟩
    refine ⟨((y : Int) - dy).toNat * 12 + ((x : Int) - dx).toNat, ⟨by omega, ?_⟩, by omega, by omega⟩
    rw [hasK_yx (by omega)]; exact h2
/- The rows, moved at once. -/
theorem and_4095 {n : Nat} (h : n ≤ 65535) : bitsOf .and .u16 (n : Int) 4095 = ((n % 4096 : Nat) : Int) := by
  have e0 : IntKind.bits .u16 = 16 := rfl
  unfold bitsOf
  simp only []
  have e1 : (BitVec.ofInt (IntKind.bits .u16) (n : Int) &&& BitVec.ofInt (IntKind.bits .u16) 4095).toNat = n % 4096 := by
    have e2 : n % 2 ^ 16 = n := Nat.mod_eq_of_lt (by omega)
    rw [BitVec.toNat_and, e0, BitVec.ofInt_natCast, BitVec.toNat_ofNat, show (BitVec.ofInt 16 4095).toNat = 2 ^ 12 - 1 from rfl, e2, Nat.and_two_pow_sub_one_eq_mod]
  rw [e1, wrapu16 (by omega)]
theorem shl_nat {n d : Nat} (hd : d ≤ 12) : shiftOf .shl .u16 (n : Int) (d : Int) = some (.int .u16 ((n * 2 ^ d % 65536 : Nat) : Int)) := by
  unfold shiftOf
  rw [if_neg (by omega)]
  have e1 : min ((d : Int).toNat) (IntKind.bits .u16) = d := by
    have : IntKind.bits .u16 = 16 := rfl
    omega
  simp only [e1]
  have e2 : (n : Int) * 2 ^ d = ((n * 2 ^ d : Nat) : Int) := by simp
  rw [e2]
  show some (Value.int .u16 (((n * 2 ^ d : Nat) : Int) % 65536)) = _
  congr 2
theorem shr_nat {n d : Nat} (hd : d ≤ 12) : shiftOf .shr .u16 (n : Int) (d : Int) = some (.int .u16 ((n / 2 ^ d : Nat) : Int)) := by
  unfold shiftOf
  rw [if_neg (by omega)]
  have e1 : min ((d : Int).toNat) (IntKind.bits .u16) = d := by
    have : IntKind.bits .u16 = 16 := rfl
    omega
  simp only [e1]
  have e2 : (2 : Int) ^ d = ((2 ^ d : Nat) : Int) := by simp
  rw [e2, Int.fdiv_eq_ediv_of_nonneg _ (Int.natCast_nonneg _), ← Int.natCast_ediv]
/-- One row of a frame that has been moved. -/
def mvR (f : List Int) (dx dy : Int) (y : Nat) : Int := nth (shF f dx dy) y
theorem mvR_shl {f : List Int} {d y n : Nat} {dy : Int} (hy : y < 12) (hsy : 0 ≤ (y : Int) - dy ∧ (y : Int) - dy < 12) (hn : nth f ((y : Int) - dy).toNat = n) : mvR f d dy y = ((n * 2 ^ d % 4096 : Nat) : Int) := by
  rw [mvR, shF, dotsF_nth hy]
  congr 1
  refine (rowN_eq (m := 12) (Nat.mod_lt _ (by decide)) fun x hx => ?_).symm
  rw [Nat.testBit_mod_two_pow, Nat.testBit_mul_two_pow]
  rw [Bool.eq_iff_iff]
  simp only [mvP, hasF, hn, dotB_bit, Bool.and_eq_true, decide_eq_true_eq]
  constructor
  · rintro ⟨_, h1, h2⟩
    refine ⟨by omega, ?_⟩
    rw [show ((x : Int) - d).toNat = x - d by omega]; exact h2
  · rintro ⟨h1, h2⟩
    refine ⟨hx, by omega, ?_⟩
    rw [show ((x : Int) - d).toNat = x - d by omega] at h2; exact h2
end Fb
