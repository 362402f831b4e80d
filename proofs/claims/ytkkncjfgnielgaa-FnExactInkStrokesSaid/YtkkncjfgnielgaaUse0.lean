/- What each function computes. -/
import Derived.Test.YtkkncjfgnielgaaTab
import Derived.Test.YtkkncjfgnielgaaPl
set_option linter.unusedVariables false
set_option linter.unusedSimpArgs false
namespace Fb
open Go
theorem call304 {pu : Bool} {a b c : Int} {H : Heap} : Call tab pu 304 [.int .i64 a, .int .i64 b, .int .i64 c] H = some (.bool (decide (b ≤ a ∧ a ≤ c)), H) := by
  refine Call_wp t304 (.inr rfl) rfl ?_
  by_cases h : b ≤ a <;> simp [c304, k304, h, skip]
theorem call295 {pu : Bool} {a b c : Int} {H : Heap} : Call tab pu 295 [.int .i64 a, .int .i64 b, .int .i64 c] H = some (.bool (decide (b ≤ a ∧ a ≤ c)), H) := by
  refine Call_wp t295 (.inr rfl) rfl ?_
  by_cases h : b ≤ a <;> simp [c295, k295, h, skip]
/-- The first m numbers of a row are turned. -/
def part (f : Int → Int) (m : Nat) (l : List Int) : List Int := (l.take m).map f ++ l.drop m
theorem stc_at {k : IntKind} {l l' : List Int} {i : Nat} {n : Int} (h : i < l.length) (hl : l.set i n = l') : stc (iv k l) i [.int k n] = some (iv k l') := by rw [stc_one h rfl, hl]
theorem stc_zr {k : IntKind} {n : Nat} {l : List Int} (h : l.length = n) : stc (iv k (zr n 0)) 0 (cs k l) = some (iv k l) := stc_all (by simp [h])
def bit (x : Nat) : Int := 2 ^ x
theorem bit_ok {x : Nat} (h : x < 12) : 0 < bit x ∧ bit x ≤ 2048 := by
  have : x = 0 ∨ x = 1 ∨ x = 2 ∨ x = 3 ∨ x = 4 ∨ x = 5 ∨ x = 6 ∨ x = 7 ∨ x = 8 ∨ x = 9 ∨ x = 10 ∨ x = 11 := by omega
  rcases this with rfl | rfl | rfl | rfl | rfl | rfl | rfl | rfl | rfl | rfl | rfl | rfl <;> decide
theorem shl_bit {x : Nat} (h : x < 12) : shiftOf .shl .u16 1 (x : Int) = some (.int .u16 (bit x)) := by
  have hb := bit_ok h
  unfold shiftOf
  rw [if_neg (by omega)]
  have e1 : min ((x : Int).toNat) (IntKind.bits .u16) = x := by
    have : IntKind.bits .u16 = 16 := rfl
    omega
  simp only [e1]
  show some (Value.int .u16 (IntKind.wrap .u16 (1 * bit x))) = _
  rw [Int.one_mul, wrapu16 (by omega)]
def putR (row : Int) (x : Nat) : Int := bitsOf .or .u16 row (bit x)
def putF (l : List Int) (x y : Nat) : List Int := l.set y (putR (nth l y) x)
theorem putR_eq {a : Int} {x : Nat} : bitsOf .or .u16 a (bit x) = putR a x := rfl
theorem putF_eq {l : List Int} {x y : Nat} : l.set y (putR (nth l y) x) = putF l x y := rfl
theorem putF_length {l : List Int} {x y : Nat} : (putF l x y).length = l.length := by simp [putF]
theorem call342 {pu : Bool} {H : Heap} {x y : Nat} (hx : x < 12) (hy : y < 12) : Call tab pu 342 [.int .i64 x, .int .i64 y] H = some (.bool true, H) := by
  refine Call_wp t342 (.inr rfl) rfl ?_
  have e1 : (x : Int) ≤ 11 := by omega
  have e2 : (y : Int) ≤ 11 := by omega
  simp [c342, k342, call304, e1, e2]
theorem call346 {pu : Bool} {H : Heap} {l : List Int} {x y : Nat} (hl : l.length = 12) (hx : x < 12) (hy : y < 12) : Call tab pu 346 [iv .u16 l, .int .i64 x, .int .i64 y] H = some (iv .u16 (putF l x y), H) := by
  refine Call_wp t346 (.inr rfl) rfl ?_
  have e9 := stc_at (k := .u16) (l := l) (i := y) (n := putR (nth l y) x) (l' := putF l x y) (by omega) rfl
  have hlp : (putF l x y).length = 12 := by rw [putF_length, hl]
  have hz := stc_zr (k := .u16) hlp
  simp (disch := omega) [c346, k346, zs_cs, agg_cs, hy, hx, hl, shl_bit, putR_eq, e9, hlp, hz]
theorem call305 {H : Heap} {b ver esz : Nat} {l : List Int} (hg : H[b]? = some ⟨cs .u16 l, esz, ver, false⟩) {x y : Nat} (hl : l.length = 12) (hx : x < 12) (hy : y < 12) :
    Call tab false 305 [adr b 0 ver, .int .i64 x, .int .i64 y] H = some (tup [], H.set b ⟨cs .u16 (putF l x y), esz, ver, false⟩) := by
  refine Call_wp t305 (.inl rfl) rfl ?_
  have hr := rd_at (off := 0) (n := 12) (ver := ver) hg rfl (by simp [hl])
  simp [take_all, hl] at hr
  have h1 := rd_one hr hy
  have h2 := fun v => wr_at (n0 := H.length) (wb := true) (off := y) (vs := [.int .u16 v]) (ver := ver) hg rfl rfl (may_ints (l := [v])) (by simp [hl]; omega)
  have h3 : ∀ v, splice (cs .u16 l) y [.int .u16 v] = cs .u16 (l.set y v) := fun v => by rw [splice_one (by simp [hl]; omega)]; simp [cs, List.map_set]
  rw [Nat.zero_add] at h1
  simp (disch := omega) [c305, k305, call342 hx hy, hy, hx, shl_bit, h1, h2, h3, wbOf, take_all, putR_eq, putF_eq, hl]
theorem call78 {pu : Bool} {H : Heap} {l : List Int} (hl : l.length = 12) : Call tab pu 78 [iv .u16 l, iv .u16 l] H = some (.bool true, H) := by
  refine Call_wp t78 (.inr rfl) rfl ?_
  simp [c78, k78]
  refine WP_forH 5 12 12 rfl (by omega) (fun i e => e 2 = iv .u16 l ∧ e 3 = iv .u16 l) ?_ ?_ (by simp) (by simp)
  · rintro i e hi hx e4 h5 ⟨h2, h3⟩
    simp (disch := omega) [b78_1, h5, hx, hi, h2, h3, e4, hl]
  · rintro e h5 ⟨h2, h3⟩
    simp [b78_1, h5]
def szSK  : Cd :=
  (.seq
   (.reg [4] [
     ⟨none, (some 4), .mov (.c (.int .i64 0)), []⟩])
   (.seq
    (.reg [1] [
      ⟨none, (some 5), .mov (.t 1), []⟩,
      ⟨none, (some 6), .mov (.t 0), []⟩,
      ⟨none, (some 7), .len (.t 6), []⟩,
      ⟨none, (some 8), .bin .sub (.t 5) (.t 7), []⟩,
      ⟨none, (some 1), .mov (.t 8), []⟩])
    (.seq
     (.seq
      (.reg [10] [
        ⟨none, (some 9), .mov (.t 1), []⟩,
        ⟨none, (some 10), .bin .lss (.t 9) (.c (.int .i64 0)), []⟩])
      (.cond (.t 10)
       (.seq
        (.reg [4] [
          ⟨none, (some 4), .mov (.c (.int .i64 (-1))), []⟩])
        .ret)
       .skip))
     (.seq
      (.reg [4] [
        ⟨none, (some 11), .mov (.t 1), []⟩,
        ⟨none, (some 4), .mov (.t 11), []⟩])
      .ret))))
def szSC  : Fn := { np := 2, nt := 12, kind := .pure, res := [.t 4], body := szSK  }
def toSB1 (toE : Nat) (esz : Nat) (bytes : Nat) (z : List Value) (fo : Op1) : Cd :=
  (.seq
   (.seq
    (.reg [24] [
      ⟨none, (some 21), .mov (.t 6), []⟩,
      ⟨none, (some 22), .mov (.t 0), []⟩,
      ⟨none, (some 23), .len (.t 22), []⟩,
      ⟨none, (some 24), .bin .lss (.t 21) (.t 23), []⟩])
    (.cond (.t 24)
     .skip
     (.exit 0)))
   (.seq
    (.block 1
     (.reg [] [
       ⟨none, (some 27), .mov (.t 5), []⟩,
       ⟨none, (some 28), .mov (.t 6), []⟩,
       ⟨none, (some 29), .mov (.t 0), []⟩,
       ⟨none, (some 30), .mov (.t 6), []⟩,
       ⟨none, (some 31), .idxA esz (.t 29) (.t 30), []⟩,
       ⟨none, (some 32), .ld esz true (.t 31), []⟩,
       ⟨none, (some 33), .call true toE [.t 32], []⟩,
       ⟨none, (some 34), .idxA esz (.t 27) (.t 28), []⟩,
       ⟨none, none, .st esz (.t 34) (.t 33), []⟩]))
    (.reg [6] [
      ⟨none, (some 25), .mov (.t 6), []⟩,
      ⟨none, (some 26), .bin .add (.t 25) (.c (.int .i64 1)), []⟩,
      ⟨none, (some 6), .mov (.t 26), []⟩])))
def toSB2 (toE : Nat) (esz : Nat) (bytes : Nat) (z : List Value) (fo : Op1) : Cd :=
  (.seq
   (.seq
    (.reg [40] [
      ⟨none, (some 37), .mov (.t 7), []⟩,
      ⟨none, (some 38), .mov (.t 5), []⟩,
      ⟨none, (some 39), .len (.t 38), []⟩,
      ⟨none, (some 40), .bin .lss (.t 37) (.t 39), []⟩])
    (.cond (.t 40)
     .skip
     (.exit 2)))
   (.seq
    (.block 3
     (.reg [] [
       ⟨none, (some 43), .mov (.t 5), []⟩,
       ⟨none, (some 44), .mov (.t 7), []⟩,
       ⟨none, (some 45), fo, []⟩,
       ⟨none, (some 46), .idxA esz (.t 43) (.t 44), []⟩,
       ⟨none, none, .st esz (.t 46) (.t 45), []⟩]))
    (.reg [7] [
      ⟨none, (some 41), .mov (.t 7), []⟩,
      ⟨none, (some 42), .bin .add (.t 41) (.c (.int .i64 1)), []⟩,
      ⟨none, (some 7), .mov (.t 42), []⟩])))
def toSK (toE : Nat) (esz : Nat) (bytes : Nat) (z : List Value) (fo : Op1) : Cd :=
  (.seq
   (.reg [4] [
     ⟨none, (some 4), .mov (.c (.slice none 0 0)), []⟩])
   (.seq
    (.seq
     (.reg [13] [
       ⟨none, (some 8), .mov (.t 1), []⟩,
       ⟨none, (some 9), .mov (.t 8), []⟩,
       ⟨(some (9, true)), (some 10), .mov (.t 0), []⟩,
       ⟨(some (9, true)), (some 11), .len (.t 10), []⟩,
       ⟨(some (9, true)), (some 12), .bin .eql (.t 11) (.c (.int .i64 0)), []⟩,
       ⟨none, (some 13), .pick (.t 9) (.t 12) (.c (.bool false)), []⟩])
     (.cond (.t 13)
      (.seq
       (.reg [4] [
         ⟨none, (some 4), .mov (.c (.slice none 0 0)), []⟩])
       .ret)
      .skip))
    (.seq
     (.reg [5] [
       ⟨none, (some 14), .mov (.t 0), []⟩,
       ⟨none, (some 15), .len (.t 14), []⟩,
       ⟨none, (some 16), .mov (.t 0), []⟩,
       ⟨none, (some 17), .len (.t 16), []⟩,
       ⟨none, (some 18), .call true 296 [.t 17], []⟩,
       ⟨none, (some 19), .bin .add (.t 15) (.t 18), []⟩,
       ⟨none, (some 20), .mkS esz bytes z (.t 19) (.t 19), []⟩,
       ⟨none, (some 5), .mov (.t 20), []⟩])
     (.seq
      (.seq
       (.reg [6] [
         ⟨none, (some 6), .mov (.c (.int .i64 0)), []⟩])
       (.block 0
        (.loop (toSB1 toE esz bytes z fo))))
      (.seq
       (.seq
        (.reg [7] [
          ⟨none, (some 35), .mov (.t 0), []⟩,
          ⟨none, (some 36), .len (.t 35), []⟩,
          ⟨none, (some 7), .mov (.t 36), []⟩])
        (.block 2
         (.loop (toSB2 toE esz bytes z fo))))
       (.seq
        (.reg [4] [
          ⟨none, (some 47), .mov (.t 5), []⟩,
          ⟨none, (some 48), .mov (.t 0), []⟩,
          ⟨none, (some 49), .len (.t 48), []⟩,
          ⟨none, (some 50), .slcA esz (.t 47) none (some (.t 49)) none, []⟩,
          ⟨none, (some 4), .mov (.t 50), []⟩])
        .ret))))))
def toSC (toE : Nat) (esz : Nat) (bytes : Nat) (z : List Value) (fo : Op1) : Fn := { np := 2, nt := 51, kind := .pure, res := [.t 4], body := toSK toE esz bytes z fo }
def inSK (eqS : Nat) (esz : Nat) : Cd :=
  (.seq
   (.reg [4] [
     ⟨none, (some 4), .mov (.c (.bool false)), []⟩])
   (.seq
    (.reg [5] [
      ⟨none, (some 6), .mov (.t 1), []⟩,
      ⟨none, (some 7), .len (.t 6), []⟩,
      ⟨none, (some 8), .mov (.t 1), []⟩,
      ⟨none, (some 9), .len (.t 8), []⟩,
      ⟨none, (some 10), .call true 296 [.t 9], []⟩,
      ⟨none, (some 11), .bin .add (.t 7) (.t 10), []⟩,
      ⟨none, (some 5), .mov (.t 11), []⟩])
    (.seq
     (.reg [4] [
       ⟨none, (some 12), .mov (.t 0), []⟩,
       ⟨none, (some 13), .len (.t 12), []⟩,
       ⟨none, (some 14), .mov (.t 1), []⟩,
       ⟨none, (some 15), .len (.t 14), []⟩,
       ⟨none, (some 16), .bin .eql (.t 13) (.t 15), []⟩,
       ⟨none, (some 17), .mov (.t 16), []⟩,
       ⟨(some (17, true)), (some 18), .mov (.t 0), []⟩,
       ⟨(some (17, true)), (some 19), .mov (.t 5), []⟩,
       ⟨(some (17, true)), (some 20), .slcA esz (.t 18) none (some (.t 19)) none, []⟩,
       ⟨(some (17, true)), (some 21), .mov (.t 1), []⟩,
       ⟨(some (17, true)), (some 22), .mov (.t 5), []⟩,
       ⟨(some (17, true)), (some 23), .slcA esz (.t 21) none (some (.t 22)) none, []⟩,
       ⟨(some (17, true)), (some 24), .call true eqS [.t 20, .t 23], []⟩,
       ⟨none, (some 25), .pick (.t 17) (.t 24) (.c (.bool false)), []⟩,
       ⟨none, (some 4), .mov (.t 25), []⟩])
     .ret)))
def inSC (eqS : Nat) (esz : Nat) : Fn := { np := 2, nt := 26, kind := .pure, res := [.t 4], body := inSK eqS esz }
def eqSB1 (eqE : Nat) (esz : Nat) : Cd :=
  (.seq
   (.seq
    (.reg [14] [
      ⟨none, (some 11), .mov (.t 5), []⟩,
      ⟨none, (some 12), .mov (.t 0), []⟩,
      ⟨none, (some 13), .len (.t 12), []⟩,
      ⟨none, (some 14), .bin .lss (.t 11) (.t 13), []⟩])
    (.cond (.t 14)
     .skip
     (.exit 0)))
   (.seq
    (.block 1
     (.seq
      (.reg [26] [
        ⟨none, (some 17), .mov (.t 0), []⟩,
        ⟨none, (some 18), .mov (.t 5), []⟩,
        ⟨none, (some 19), .idxA esz (.t 17) (.t 18), []⟩,
        ⟨none, (some 20), .ld esz true (.t 19), []⟩,
        ⟨none, (some 21), .mov (.t 1), []⟩,
        ⟨none, (some 22), .mov (.t 5), []⟩,
        ⟨none, (some 23), .idxA esz (.t 21) (.t 22), []⟩,
        ⟨none, (some 24), .ld esz true (.t 23), []⟩,
        ⟨none, (some 25), .call true eqE [.t 20, .t 24], []⟩,
        ⟨none, (some 26), .un .not (.t 25), []⟩])
      (.cond (.t 26)
       (.seq
        (.reg [4] [
          ⟨none, (some 4), .mov (.c (.bool false)), []⟩])
        .ret)
       .skip)))
    (.reg [5] [
      ⟨none, (some 15), .mov (.t 5), []⟩,
      ⟨none, (some 16), .bin .add (.t 15) (.c (.int .i64 1)), []⟩,
      ⟨none, (some 5), .mov (.t 16), []⟩])))
def eqSK (eqE : Nat) (esz : Nat) : Cd :=
  (.seq
   (.reg [4] [
     ⟨none, (some 4), .mov (.c (.bool false)), []⟩])
   (.seq
    (.seq
     (.reg [10] [
       ⟨none, (some 6), .mov (.t 0), []⟩,
       ⟨none, (some 7), .len (.t 6), []⟩,
       ⟨none, (some 8), .mov (.t 1), []⟩,
       ⟨none, (some 9), .len (.t 8), []⟩,
       ⟨none, (some 10), .bin .neq (.t 7) (.t 9), []⟩])
     (.cond (.t 10)
      (.seq
       (.reg [4] [
         ⟨none, (some 4), .mov (.c (.bool false)), []⟩])
       .ret)
      .skip))
    (.seq
     (.seq
      (.reg [5] [
        ⟨none, (some 5), .mov (.c (.int .i64 0)), []⟩])
      (.block 0
       (.loop (eqSB1 eqE esz))))
     (.seq
      (.reg [4] [
        ⟨none, (some 4), .mov (.c (.bool true)), []⟩])
      .ret))))
def eqSC (eqE : Nat) (esz : Nat) : Fn := { np := 2, nt := 27, kind := .pure, res := [.t 4], body := eqSK eqE esz }
def roomN (n : Nat) : Nat := if n % 6 = 5 then 0 else if n % 3 = 0 then 1 else n
theorem roomN_le {n : Nat} : roomN n ≤ n + 1 := by
  unfold roomN
  split
  · omega
  · split <;> omega
theorem call296 {pu : Bool} {H : Heap} {n : Nat} : Call tab pu 296 [.int .i64 n] H = some (.int .i64 (roomN n), H) := by
  refine Call_wp t296 (.inr rfl) rfl ?_
  have e1 : ((n : Int).tmod 6 == 5) = decide (n % 6 = 5) := by
    rw [Int.tmod_eq_emod_of_nonneg (by omega)]
    apply Bool.eq_iff_iff.2
    simp; omega
  have e2 : ((n : Int).tmod 3 == 0) = decide (n % 3 = 0) := by
    rw [Int.tmod_eq_emod_of_nonneg (by omega)]
    apply Bool.eq_iff_iff.2
    simp; omega
  unfold roomN
  by_cases h1 : n % 6 = 5
  · simp (disch := decide) [c296, k296, e1, h1]
  · by_cases h2 : n % 3 = 0
    · simp (disch := decide) [c296, k296, e1, h1, e2, h2]
    · simp (disch := decide) [c296, k296, e1, h1, e2, h2]
/-- The i-th of a row of things. -/
def elem (vs : List Value) (esz i : Nat) : List Value := (vs.drop (i * esz)).take esz
theorem mul_next {i n esz : Nat} (h : i < n) : i * esz + esz ≤ n * esz := by
  have := Nat.mul_le_mul_right esz (show i + 1 ≤ n from h)
  rwa [Nat.succ_mul] at this
theorem elem_length {vs : List Value} {esz n i : Nat} (hl : vs.length = n * esz) (h : i < n) : (elem vs esz i).length = esz := by
  have := mul_next (esz := esz) h
  simp [elem]; omega
/-- A slice that can be read. -/
structure SlR (H : Heap) (x : Value) (esz n : Nat) (vs : List Value) : Prop where
  size : vs.length = n * esz
  is : (x = .slice none 0 0 ∧ n = 0) ∨ ∃ b off ver cap, x = slc b off ver n cap ∧ n ≤ cap ∧ rd H b off ver (n * esz) = some vs ∧ ∃ k, H[b]? = some k ∧ ver = k.ver ∧ k.esz = esz
theorem SlR.lenV {H : Heap} {x : Value} {esz n : Nat} {vs : List Value} (h : SlR H x esz n vs) : lenV x = some (.int .i64 n) := by
  rcases h.is with ⟨rfl, rfl⟩ | ⟨b, off, ver, cap, rfl, _⟩ <;> rfl
theorem SlR.app {H L : Heap} {x : Value} {esz n : Nat} {vs : List Value} (h : SlR H x esz n vs) : SlR (H ++ L) x esz n vs :=
  ⟨h.size, h.is.imp id fun ⟨b, off, ver, cap, h1, h2, h3, k, h4, h5⟩ => ⟨b, off, ver, cap, h1, h2, rd_app h3, k, by rw [List.getElem?_append_left (List.getElem?_eq_some_iff.1 h4).1]; exact h4, h5⟩⟩
theorem SlR.get {H : Heap} {x : Value} {esz n : Nat} {vs : List Value} (h : SlR H x esz n vs) {i : Nat} (hi : i < n) : ∃ a, idxAV esz x (.int .i64 (i : Int)) = some a ∧ ldH H esz true a = some (agg (elem vs esz i)) := by
  rcases h.is with ⟨rfl, rfl⟩ | ⟨b, off, ver, cap, rfl, h2, h3, _⟩
  · omega
  · refine ⟨adr b (off + i * esz) ver, by rw [idxAV_slc, at_nat hi]; rfl, ?_⟩
    rw [ldH_adr, rd_part h3 (mul_next hi)]; rfl
theorem SlR.of {H : Heap} {x : Value} {esz n : Nat} {vs : List Value} (h1 : vs.length = n * esz) (h : (x = .slice none 0 0 ∧ n = 0) ∨ ∃ b cap, x = slc b 0 0 n cap ∧ n ≤ cap ∧ rd H b 0 0 (n * esz) = some vs ∧ ∃ k, H[b]? = some k ∧ 0 = k.ver ∧ k.esz = esz) : SlR H x esz n vs :=
  ⟨h1, h.imp id fun ⟨b, cap, h1, h2, h3⟩ => ⟨b, 0, 0, cap, h1, h2, h3⟩⟩
theorem sz_call {f : Nat} (hf : tab f = some (.fn szSC)) {pu : Bool} {H : Heap} {x : Value} {esz n : Nat} {vs : List Value} (h : SlR H x esz n vs) {left : Int} (h0 : 0 ≤ left) (h1 : left ≤ 1000000) (hn : n ≤ 9223372036854775807) :
    Call tab pu f [x, .int .i64 left] H = some (.int .i64 (if left - n < 0 then -1 else left - n), H) := by
  refine Call_wp hf (.inr rfl) rfl ?_
  have e1 : IntKind.wrap .i64 (left - n) = left - n := wrap64 (by omega)
  by_cases h2 : left - (n : Int) < 0
  · simp [szSC, szSK, h.lenV, e1, h2]
  · simp [szSC, szSK, h.lenV, e1, h2]
/-- A row of which the first part is written already. -/
theorem splice_tk {C D vs : List Value} {o k : Nat} (hC : C.length = D.length) (hk : o + k ≤ D.length) (h : C.take o = D.take o) (hv : vs = (D.drop o).take k) : (splice C o vs).length = D.length ∧ (splice C o vs).take (o + k) = D.take (o + k) := by
  subst hv
  have e1 : ((D.drop o).take k).length = k := by simp; omega
  unfold splice
  refine ⟨by simp; omega, ?_⟩
  rw [e1, List.take_append_of_le_length (by simp; omega), h, List.take_of_length_le (by simp; omega)]
  exact (List.take_add ..).symm
theorem rep_len {n : Nat} {z : List Value} : (rep n z).length = n * z.length := by
  induction n with
  | zero => simp [rep]
  | succ n ih => simp [rep, ih, Nat.succ_mul]; omega
theorem elem_app {vs ws : List Value} {esz n i : Nat} (hl : vs.length = n * esz) (h : i < n) : elem (vs ++ ws) esz i = elem vs esz i := by
  have := mul_next (esz := esz) h
  unfold elem
  rw [List.drop_append_of_le_length (by omega), List.take_append_of_le_length (by simp; omega)]
theorem elem_rep {z : List Value} {n i : Nat} (h : i < n) : elem (rep n z) z.length i = z := by
  induction n generalizing i with
  | zero => omega
  | succ n ih =>
    cases i with
    | zero => simp [elem, rep]
    | succ i =>
      have := ih (i := i) (by omega)
      unfold elem at this ⊢
      rw [rep, Nat.succ_mul, Nat.add_comm, ← List.drop_drop]
      simpa using this
theorem elem_rep_app {vs z : List Value} {esz n m i : Nat} (hl : vs.length = n * esz) (hz : z.length = esz) (h : n ≤ i) (hi : i < n + m) : elem (vs ++ rep m z) esz i = z := by
  have e1 : elem (vs ++ rep m z) esz i = elem (rep m z) esz (i - n) := by
    unfold elem
    have : i * esz = vs.length + (i - n) * esz := by rw [hl, ← Nat.add_mul]; congr 1; omega
    rw [this, ← List.drop_drop, List.drop_left]
  rw [e1, ← hz]; exact elem_rep (by omega)
/-- What leads nowhere. -/
def NoRef (vs : List Value) : Prop := ∀ v ∈ vs, ∀ n, old0 n v = true
theorem NoRef.all {vs : List Value} (h : NoRef vs) {n : Nat} : vs.all (old0 n) = true := List.all_eq_true.2 fun v hv => h v hv n
theorem NoRef.app {vs ws : List Value} (h : NoRef vs) (h' : NoRef ws) : NoRef (vs ++ ws) := fun v hv n => (List.mem_append.1 hv).elim (fun h1 => h v h1 n) (fun h1 => h' v h1 n)
theorem NoRef.rep {z : List Value} (h : NoRef z) : ∀ {n : Nat}, NoRef (rep n z)
  | 0 => fun v hv => by simp [Fb.rep] at hv
  | n + 1 => h.app (NoRef.rep h)
theorem finish_slc {H G : Heap} {b ver len cap : Nat} {k : Blk} (hp : Pre H G) (hb : H.length ≤ b) (hk : G[b]? = some k) (hv : ver = k.ver) (hr : k.ro = false) (ho : k.cells.all (old0 H.length) = true) :
    finish H.length G [slc b 0 ver len cap] = (slc H.length 0 0 len cap, H ++ [{ k with ver := 0 }]) := by
  have hne : old1 H.length (slc b 0 ver len cap) = false := by
    show (true && decide (b < H.length)) = false
    simp; omega
  have : pack H.length G [slc b 0 ver len cap] [] [] = some ([slc H.length 0 0 len cap], [{ k with ver := 0 }]) := by
    rw [pack, if_neg (by rw [hne]; decide)]
    show (match G[b]? with
      | some k => if ([] : List Nat).contains b = false ∧ ver = k.ver ∧ k.ro = false ∧ k.cells.all (old0 H.length) = true then _ else none
      | none => none) = _
    rw [hk]
    simp only []
    rw [if_pos ⟨by simp, hv, hr, ho⟩]
    rfl
  rw [finish_some this, hp.take]; rfl
/-- The cells of a copy: with room behind. -/
def room (vs : List Value) (n : Nat) (fc : List Value) : List Value := vs ++ rep (roomN n) fc
theorem room_length {vs fc : List Value} {n esz : Nat} (hl : vs.length = n * esz) (hf : fc.length = esz) : (room vs n fc).length = (n + roomN n) * esz := by
  simp [room, rep_len, hl, hf, Nat.add_mul]
def mksV (esz bytes : Nat) (z : List Value) (G : Heap) (x y : Value) : Option (Value × Heap) := match x, y with
  | .int .i64 l, .int .i64 c => if 0 ≤ l ∧ l ≤ c ∧ c * bytes ≤ roomMax then some (slc G.length 0 0 l.toNat c.toNat, G ++ [⟨rep c.toNat z, esz, 0, false⟩]) else none
  | _, _ => none
theorem ev1_mkS {cl : Cl} {n0 : Nat} {wb : Bool} {e : Env} {G : Heap} {esz bytes : Nat} {z : List Value} {x y : Opd} : ev1 cl n0 wb e G (.mkS esz bytes z x y) = mksV esz bytes z G (x.ev e) (y.ev e) := rfl
theorem mksV_int {esz bytes : Nat} {z : List Value} {G : Heap} {l c : Int} : mksV esz bytes z G (.int .i64 l) (.int .i64 c) =
    if 0 ≤ l ∧ l ≤ c ∧ c * bytes ≤ roomMax then some (slc G.length 0 0 l.toNat c.toNat, G ++ [⟨rep c.toNat z, esz, 0, false⟩]) else none := rfl
theorem toS_call {f toE esz bytes : Nat} {z fc : List Value} {fo : Op1} (hf : tab f = some (.fn (toSC toE esz bytes z fo))) (hz : z.length = esz) (hb : bytes ≤ 64)
    (hfo : ∀ n0 e G, ev1 (Call tab) n0 false e G fo = some (agg fc, G)) (hfc : fc.length = esz) {pu : Bool} {H : Heap} {x : Value} {n : Nat} {vs : List Value} (hs : SlR H x esz n vs) (hn : n ≤ 1000000)
    (hE : ∀ i G, i < n → Call tab true toE [agg (elem vs esz i)] G = some (agg (elem vs esz i), G)) (ho : NoRef vs) (ho2 : NoRef fc) {flag : Bool} :
    Call tab pu f [x, .bool flag] H = some (if flag = true ∧ n = 0 then (.slice none 0 0, H) else (slc H.length 0 0 n (n + roomN n), H ++ [⟨room vs n fc, esz, 0, false⟩])) := by
  refine Call_wp hf (.inr rfl) rfl ?_
  by_cases hc : flag = true ∧ n = 0
  · obtain ⟨rfl, rfl⟩ := hc
    simp [toSC, toSK, hs.lenV]
  · have hn0 : flag = true → ¬ n = 0 := fun h h2 => hc ⟨h, h2⟩
    have hr := roomN_le (n := n)
    generalize hR : roomN n = R at hr
    have e1 : IntKind.wrap .i64 ((n : Int) + (R : Int)) = ((n + R : Nat) : Int) := by rw [wrap64 (by omega)]; omega
    have hmk : (0 ≤ ((n + R : Nat) : Int) ∧ ((n + R : Nat) : Int) ≤ ((n + R : Nat) : Int) ∧ ((n + R : Nat) : Int) * bytes ≤ roomMax) := by
      refine ⟨by omega, by omega, ?_⟩
      have h1 : (n + R) * bytes ≤ 3000000 * 64 := Nat.mul_le_mul (by omega) hb
      have h2 : roomMax = 140737488355328 := rfl
      rw [h2]
      have h3 : (((n + R) * bytes : Nat) : Int) ≤ ((3000000 * 64 : Nat) : Int) := Int.ofNat_le.2 h1
      rw [Int.natCast_mul] at h3
      exact Int.le_trans h3 (by decide)
    have hD : (room vs n fc).length = (n + R) * esz := by rw [room_length hs.size hfc, hR]
    have hele : ∀ i, i < n → elem (room vs n fc) esz i = elem vs esz i := fun i hi => elem_app hs.size hi
    have hele2 : ∀ i, n ≤ i → i < n + R → elem (room vs n fc) esz i = fc := fun i hi h2 => by unfold room; rw [hR]; exact elem_rep_app hs.size hfc hi h2
    have hev : ∀ (e : Env) (G : Heap), e 19 = .int .i64 ((n + R : Nat) : Int) → ev1 (Call tab) H.length false e G (.mkS esz bytes z (.t 19) (.t 19)) = some (slc G.length 0 0 (n + R) (n + R), G ++ [⟨rep (n + R) z, esz, 0, false⟩]) := by
      intro e G h
      rw [ev1_mkS, ev_t, h, mksV_int, if_pos hmk, Int.toNat_natCast]
    -- one store
    have hst : ∀ (C : List Value) (i : Nat) (vs' : List Value), C.length = (n + R) * esz → i < n + R → vs'.length = esz → stO H.length false (H ++ [⟨C, esz, 0, false⟩]) esz (adr H.length (i * esz) 0) (agg vs') = some (U, H ++ [⟨splice C (i * esz) vs', esz, 0, false⟩]) := by
      intro C i vs' hC hi hv
      have := mul_next (esz := esz) hi
      rw [stO_adr, cellsOf_agg, if_pos hv, wr_at (k := ⟨C, esz, 0, false⟩) get_last rfl rfl (by simp [may]) (by simp; omega), set_last]; rfl
    have hn1 : flag = true → ((n : Int) == 0) = false := fun h => by have := hn0 h; simp; omega
    have hmk' := hmk
    have hnlt : n < 9223372036854775807 := by omega
    have hbits : ∀ (C : List Value), C.length = (n + R) * esz → C.take ((n + R) * esz) = (room vs n fc).take ((n + R) * esz) → C = room vs n fc := fun C h1 h2 => by
      rwa [List.take_of_length_le (by omega), List.take_of_length_le (by omega)] at h2
    cases flag
    all_goals
      simp [toSC, toSK, hs.lenV, hn1, call296, hR, e1, ev1_mkS, mksV_int, hmk', skip, -Int.natCast_add]
      refine WP_count 6 n n rfl (fun i e H' => e 0 = x ∧ e 5 = slc H.length 0 0 (n + R) (n + R) ∧ ∃ C, C.length = (n + R) * esz ∧ C.take (i * esz) = (room vs n fc).take (i * esz) ∧ H' = H ++ [⟨C, esz, 0, false⟩]) hnlt ?_ ?_ (by simp) (by simp [rep_len, hz])
      · rintro i e _ _ hi hx e6 h6 ⟨h0, h5, C, hC, hCt, rfl⟩
        obtain ⟨a, ha, hl⟩ := (hs.app (L := [⟨C, esz, 0, false⟩])).get hi
        have hel := elem_length hs.size hi
        have hnx := mul_next (esz := esz) (show i < n + R by omega)
        obtain ⟨g1, g2⟩ := splice_tk (C := C) (D := room vs n fc) (vs := elem vs esz i) (o := i * esz) (k := esz) (by omega) (by omega) hCt (hele i hi).symm
        have hi2 : i < n + R := by omega
        simp [toSB1, h6, h0, h5, hx, hs.lenV, ha, hl, hE i _ hi, at_nat hi2, hst C i _ hC hi2 hel, wbOf, e6, -stO_adr]
        exact ⟨by omega, by rw [Nat.succ_mul]; exact g2⟩
      · rintro e _ _ h6 ⟨h0, h5, C, hC, hCt, rfl⟩
        simp [toSB1, h6, h0, h5, hs.lenV]
        refine WP_from 7 n (n + R) ((n + R : Nat) : Int) rfl (fun i e H' => e 0 = x ∧ e 5 = slc H.length 0 0 (n + R) (n + R) ∧ ∃ C, C.length = (n + R) * esz ∧ C.take (i * esz) = (room vs n fc).take (i * esz) ∧ H' = H ++ [⟨C, esz, 0, false⟩]) (by omega) (by omega) ?_ ?_ (by simp) ⟨by simp [h0], by simp [h5], C, hC, hCt, rfl⟩
        · rintro i e _ hni hi hx e6 h7 ⟨h0, h5, C, hC, hCt, rfl⟩
          have hnx := mul_next (esz := esz) hi
          obtain ⟨g1, g2⟩ := splice_tk (C := C) (D := room vs n fc) (vs := fc) (o := i * esz) (k := esz) (by omega) (by omega) hCt (hele2 i hni hi).symm
          simp [toSB2, h7, h0, h5, hx, hfo, at_nat hi, hst C i _ hC hi hfc, wbOf, e6, -stO_adr, -Int.natCast_add]
          exact ⟨by omega, by rw [Nat.succ_mul]; exact g2⟩
        · rintro e _ h7 ⟨h0, h5, C, hC, hCt, rfl⟩
          obtain rfl := hbits C hC hCt
          have hsl : slcAV (H ++ [⟨room vs n fc, esz, 0, false⟩]) esz (slc H.length 0 0 (n + R) (n + R)) none (some (.int .i64 n)) none = some (slc H.length 0 0 n (n + R)) := slcAV_hi get_last rfl rfl (by omega)
          have hfin := finish_slc (H := H) (G := H ++ [⟨room vs n fc, esz, 0, false⟩]) (b := H.length) (ver := 0) (len := n) (cap := n + R) (k := ⟨room vs n fc, esz, 0, false⟩) ⟨_, rfl⟩ (Nat.le_refl _) get_last rfl rfl (NoRef.all (ho.app ho2.rep))
          simp [toSB2, h7, h0, h5, hs.lenV, hsl, hfin, hn0, -Int.natCast_add]
theorem eqS_call {f eqE esz : Nat} (hf : tab f = some (.fn (eqSC eqE esz))) {pu : Bool} {H : Heap} {x y : Value} {n : Nat} {vs : List Value} (hx : SlR H x esz n vs) (hy : SlR H y esz n vs) (hn : n ≤ 1000000000)
    (hE : ∀ i, i < n → Call tab true eqE [agg (elem vs esz i), agg (elem vs esz i)] H = some (.bool true, H)) : Call tab pu f [x, y] H = some (.bool true, H) := by
  refine Call_wp hf (.inr rfl) rfl ?_
  simp [eqSC, eqSK, hx.lenV, hy.lenV]
  refine WP_forH 5 n n rfl (by omega) (fun i e => e 0 = x ∧ e 1 = y) ?_ ?_ (by simp) (by simp)
  · rintro i e hi hlt e4 h5 ⟨h0, h1⟩
    obtain ⟨a, ha, hl⟩ := hx.get hi
    obtain ⟨a', ha', hl'⟩ := hy.get hi
    simp [eqSB1, h5, h0, h1, hlt, hx.lenV, ha, hl, ha', hl', hE i hi, e4]
  · rintro e h5 ⟨h0, h1⟩
    simp [eqSB1, h5, h0, h1, hx.lenV]
/-- What a copy looks like. -/
def IsCp (H : Heap) (x : Value) (esz n : Nat) (vs fc : List Value) : Prop := ∃ b ver, x = slc b 0 ver n (n + roomN n) ∧ H[b]? = some ⟨room vs n fc, esz, ver, false⟩
theorem IsCp.sl {H : Heap} {x : Value} {esz n : Nat} {vs fc : List Value} (h : IsCp H x esz n vs fc) (hl : vs.length = n * esz) (hf : fc.length = esz) : SlR H x esz n vs := by
  obtain ⟨b, ver, rfl, h⟩ := h
  refine ⟨hl, .inr ⟨b, 0, ver, _, rfl, by omega, ?_, _, h, rfl, rfl⟩⟩
  have := room_length hl hf
  rw [Nat.add_mul] at this
  rw [rd_at h rfl (by simp; omega)]
  simp [room, hl]
theorem IsCp.app {H L : Heap} {x : Value} {esz n : Nat} {vs fc : List Value} (h : IsCp H x esz n vs fc) : IsCp (H ++ L) x esz n vs fc := by
  obtain ⟨b, ver, rfl, h⟩ := h
  exact ⟨b, ver, rfl, by rw [List.getElem?_append_left (List.getElem?_eq_some_iff.1 h).1]; exact h⟩
theorem IsCp.mk {H : Heap} {esz n : Nat} {vs fc : List Value} : IsCp (H ++ [⟨room vs n fc, esz, 0, false⟩]) (slc H.length 0 0 n (n + roomN n)) esz n vs fc := ⟨_, _, rfl, get_last⟩
theorem inS_call {f eqS eqE esz : Nat} (hf : tab f = some (.fn (inSC eqS esz))) (hf2 : tab eqS = some (.fn (eqSC eqE esz))) {pu : Bool} {H : Heap} {x y : Value} {n : Nat} {vs fc : List Value} (hx : IsCp H x esz n vs fc) (hy : IsCp H y esz n vs fc) (hn : n ≤ 1000000)
    (hl : vs.length = n * esz) (hfc : fc.length = esz) (hE : ∀ i, i < n → Call tab true eqE [agg (elem vs esz i), agg (elem vs esz i)] H = some (.bool true, H)) (hE2 : Call tab true eqE [agg fc, agg fc] H = some (.bool true, H)) :
    Call tab pu f [x, y] H = some (.bool true, H) := by
  refine Call_wp hf (.inr rfl) rfl ?_
  obtain ⟨b, ver, rfl, h⟩ := hx
  obtain ⟨b', ver', rfl, h'⟩ := hy
  have hr := roomN_le (n := n)
  have e1 : IntKind.wrap .i64 ((n : Int) + (roomN n : Int)) = ((n + roomN n : Nat) : Int) := by rw [wrap64 (by omega)]; omega
  have hlen := room_length hl hfc
  have s1 := slcAV_hi (off := 0) (len := n) (cap := n + roomN n) (kk := .i64) h rfl rfl (Nat.le_refl (n + roomN n))
  have s2 := slcAV_hi (off := 0) (len := n) (cap := n + roomN n) (kk := .i64) h' rfl rfl (Nat.le_refl (n + roomN n))
  have r1 : SlR H (slc b 0 ver (n + roomN n) (n + roomN n)) esz (n + roomN n) (room vs n fc) := ⟨hlen, .inr ⟨b, 0, ver, _, rfl, Nat.le_refl _, by rw [rd_at h rfl (by simp; omega)]; simp [take_all (Nat.le_of_eq hlen)], _, h, rfl, rfl⟩⟩
  have r2 : SlR H (slc b' 0 ver' (n + roomN n) (n + roomN n)) esz (n + roomN n) (room vs n fc) := ⟨hlen, .inr ⟨b', 0, ver', _, rfl, Nat.le_refl _, by rw [rd_at h' rfl (by simp; omega)]; simp [take_all (Nat.le_of_eq hlen)], _, h', rfl, rfl⟩⟩
  have hc := eqS_call hf2 (pu := true) r1 r2 (by omega) fun i hi => by
    rcases Nat.lt_or_ge i n with h3 | h3
    · unfold room; rw [elem_app hl h3]; exact hE i h3
    · unfold room; rw [elem_rep_app hl hfc h3 hi]; exact hE2
  simp [inSC, inSK, call296, e1, s1, s2, hc, -Int.natCast_add]
theorem SlR.pre {H G : Heap} {x : Value} {esz n : Nat} {vs : List Value} (p : Pre H G) (h : SlR H x esz n vs) : SlR G x esz n vs := by obtain ⟨L, rfl⟩ := p; exact h.app
theorem IsCp.pre {H G : Heap} {x : Value} {esz n : Nat} {vs fc : List Value} (p : Pre H G) (h : IsCp H x esz n vs fc) : IsCp G x esz n vs fc := by obtain ⟨L, rfl⟩ := p; exact h.app
/-- What a call that copies a slice brings about. -/
def CpF (f : Nat) (H : Heap) (x : Value) (esz n : Nat) (vs fc : List Value) : Prop := ∀ pu flag, Call tab pu f [x, .bool flag] H = some (if flag = true ∧ n = 0 then (.slice none 0 0, H) else (slc H.length 0 0 n (n + roomN n), H ++ [⟨room vs n fc, esz, 0, false⟩]))
/-- A copy. -/
theorem cp_false {f : Nat} {pu : Bool} {H : Heap} {x : Value} {esz n : Nat} {vs fc : List Value} (hl : vs.length = n * esz) (hf : fc.length = esz) (h : CpF f H x esz n vs fc) :
    ∃ x' G, Call tab pu f [x, .bool false] H = some (x', G) ∧ IsCp G x' esz n vs fc ∧ SlR G x' esz n vs ∧ Pre H G := by
  have h := h pu false
  rw [if_neg (by simp)] at h
  exact ⟨_, _, h, IsCp.mk, IsCp.mk.sl hl hf, Pre.one⟩
/-- A copy, with a list that is nil where it is empty. -/
theorem cp_true {f : Nat} {pu : Bool} {H : Heap} {x : Value} {esz n : Nat} {vs fc : List Value} (hl : vs.length = n * esz) (hf : fc.length = esz) (h : CpF f H x esz n vs fc) :
    ∃ x' G, Call tab pu f [x, .bool true] H = some (x', G) ∧ SlR G x' esz n vs ∧ Pre H G := by
  have h := h pu true
  by_cases h0 : n = 0
  · subst h0
    refine ⟨.slice none 0 0, H, ?_, ⟨hl, .inl ⟨rfl, rfl⟩⟩, .refl⟩
    rw [h]; simp
  · rw [if_neg (by simp [h0])] at h
    exact ⟨_, _, h, IsCp.mk.sl hl hf, Pre.one⟩
/-- Things of a kind, one behind the other. -/
def rowsC {α : Type} (f : α → List Value) : List α → List Value
  | [] => []
  | a :: r => f a ++ rowsC f r
def at0 {α : Type} [Inhabited α] (l : List α) (i : Nat) : α := l.getD i default
theorem at0_mem {α : Type} [Inhabited α] {l : List α} {i : Nat} (h : i < l.length) : at0 l i ∈ l := by
  rw [at0, List.getD_eq_getElem?_getD, List.getElem?_eq_getElem h]; exact List.getElem_mem h
theorem rows_length {α : Type} {f : α → List Value} {esz : Nat} {l : List α} (hf : ∀ a ∈ l, (f a).length = esz) : (rowsC f l).length = l.length * esz := by
  induction l with
  | nil => simp [rowsC]
  | cons a r ih =>
    have h1 := ih fun b hb => hf b (by simp [hb])
    have h2 := hf a (by simp)
    simp [rowsC, h1, h2, Nat.succ_mul]; omega
theorem rows_elem {α : Type} [Inhabited α] {f : α → List Value} {esz : Nat} {l : List α} (hf : ∀ a ∈ l, (f a).length = esz) {i : Nat} (hi : i < l.length) : elem (rowsC f l) esz i = f (at0 l i) := by
  induction l generalizing i with
  | nil => simp at hi
  | cons a r ih =>
    have h2 := hf a (by simp)
    cases i with
    | zero => simp [elem, rowsC, at0, ← h2]
    | succ i =>
      have h1 := ih (fun b hb => hf b (by simp [hb])) (i := i) (by simpa using hi)
      rw [show at0 (a :: r) (i + 1) = at0 r i by simp [at0], ← h1]
      unfold elem
      rw [Nat.succ_mul, Nat.add_comm, ← List.drop_drop, rowsC, ← h2, List.drop_left]
theorem rows_flat {α : Type} {f : α → List Value} {l : List α} (hf : ∀ a ∈ l, NoRef (f a)) : NoRef (rowsC f l) := by
  induction l with
  | nil => intro v hv; simp [rowsC] at hv
  | cons a r ih => exact (hf a (by simp)).app (ih fun b hb => hf b (by simp [hb]))
theorem rows_of {α : Type} {f : α → List Value} {p : α → Prop} {esz n : Nat} {vs : List Value} (hl : vs.length = n * esz) (h : ∀ i, i < n → ∃ a, elem vs esz i = f a ∧ p a) : ∃ l, vs = rowsC f l ∧ l.length = n ∧ ∀ a ∈ l, p a := by
  induction n generalizing vs with
  | zero => exact ⟨[], by simpa [rowsC] using hl, rfl, by simp⟩
  | succ n ih =>
    obtain ⟨a, ha, hp⟩ := h 0 (by omega)
    rw [Nat.succ_mul] at hl
    obtain ⟨l, h1, h2, h3⟩ := ih (vs := vs.drop esz) (by simp; omega) fun i hi => by
      obtain ⟨b, hb, hq⟩ := h (i + 1) (by omega)
      refine ⟨b, ?_, hq⟩
      rw [← hb]
      unfold elem
      rw [List.drop_drop, Nat.succ_mul, Nat.add_comm]
    refine ⟨a :: l, ?_, by simp [h2], fun b hb => ?_⟩
    · rw [rowsC, ← ha, ← h1]
      simp [elem]
    · rcases List.mem_cons.1 hb with rfl | hb
      · exact hp
      · exact h3 b hb
abbrev i8 (n : Int) : Prop := -128 ≤ n ∧ n ≤ 127
theorem fin_agg {n0 : Nat} {H : Heap} {l : List Value} (h : l.all (old0 n0) = true) : finish n0 H [agg l] = (agg l, H.take n0) := by
  refine finish_1 ?_
  show l.toArray.toList.all (old0 n0) = true
  simpa using h
theorem SlR.get1 {H : Heap} {x : Value} {esz n : Nat} {vs : List Value} (h : SlR H x esz n vs) {i : Nat} (hi : i < n) : ∃ b off ver, idxAV esz x (.int .i64 (i : Int)) = some (adr b off ver) ∧ rd H b off ver esz = some (elem vs esz i) := by
  rcases h.is with ⟨rfl, rfl⟩ | ⟨b, off, ver, cap, rfl, h2, h3, _⟩
  · omega
  · exact ⟨b, _, ver, by rw [idxAV_slc, at_nat hi]; rfl, rd_part h3 (mul_next hi)⟩
def lbfK (sz : Nat) (to : Nat) (it : Nat) (sp : Nat) (im : Nat) : Cd :=
  (.seq
   (.reg [2] [
     ⟨none, (some 2), .mov (.c (.bool false)), []⟩])
   (.seq
    (.reg [3] [
      ⟨none, (some 3), .mov (.c (.int .i64 1000000)), []⟩])
    (.seq
     (.reg [3] [
       ⟨none, (some 11), .mov (.t 0), []⟩,
       ⟨none, (some 12), .mov (.t 3), []⟩,
       ⟨none, (some 13), .call true sz [.t 11, .t 12], []⟩,
       ⟨none, (some 3), .mov (.t 13), []⟩])
     (.seq
      (.seq
       (.reg [15] [
         ⟨none, (some 14), .mov (.t 3), []⟩,
         ⟨none, (some 15), .bin .lss (.t 14) (.c (.int .i64 0)), []⟩])
       (.cond (.t 15)
        (.seq
         (.reg [2] [
           ⟨none, (some 2), .mov (.c (.bool true)), []⟩])
         .ret)
        .skip))
      (.seq
       (.reg [4, 5] [
         ⟨none, (some 17), .mov (.t 0), []⟩,
         ⟨none, (some 18), .call true to [.t 17, .c (.bool false)], []⟩,
         ⟨none, (some 19), .call true sp [.t 18], []⟩,
         ⟨none, (some 16), .mov (.t 19), []⟩,
         ⟨none, (some 20), .ext (.t 16) 0, []⟩,
         ⟨none, (some 21), .ext (.t 16) 1, []⟩,
         ⟨none, (some 4), .zero true (zs 12 (.int .u16 0)), []⟩,
         ⟨none, (some 4), .stV 4 none 12 (.t 20), []⟩,
         ⟨none, (some 5), .mov (.t 21), []⟩])
       (.seq
        (.reg [6] [
          ⟨none, (some 22), .mov (.t 0), []⟩,
          ⟨none, (some 23), .call true to [.t 22, .c (.bool false)], []⟩,
          ⟨none, (some 6), .mov (.t 23), []⟩])
        (.seq
         (.reg [7, 8] [
           ⟨none, (some 25), .mov (.t 6), []⟩,
           ⟨none, (some 26), .call true im [.t 25], []⟩,
           ⟨none, (some 24), .mov (.t 26), []⟩,
           ⟨none, (some 27), .ext (.t 24) 0, []⟩,
           ⟨none, (some 28), .ext (.t 24) 1, []⟩,
           ⟨none, (some 7), .zero true (zs 12 (.int .u16 0)), []⟩,
           ⟨none, (some 7), .stV 7 none 12 (.t 27), []⟩,
           ⟨none, (some 8), .mov (.t 28), []⟩])
         (.seq
          (.seq
           (.reg [37] [
             ⟨none, (some 29), .ldV 7 none 12 true, []⟩,
             ⟨none, (some 30), .ldV 4 none 12 true, []⟩,
             ⟨none, (some 31), .call true 78 [.t 29, .t 30], []⟩,
             ⟨none, (some 32), .un .not (.t 31), []⟩,
             ⟨none, (some 33), .mov (.t 32), []⟩,
             ⟨(some (33, false)), (some 34), .mov (.t 8), []⟩,
             ⟨(some (33, false)), (some 35), .mov (.t 5), []⟩,
             ⟨(some (33, false)), (some 36), .bin .neq (.t 34) (.t 35), []⟩,
             ⟨none, (some 37), .pick (.t 33) (.c (.bool true)) (.t 36), []⟩])
           (.cond (.t 37)
            (.seq
             (.reg [2] [
               ⟨none, (some 2), .mov (.c (.bool false)), []⟩])
             .ret)
            .skip))
          (.seq
           (.seq
            (.reg [42] [
              ⟨none, (some 38), .mov (.t 6), []⟩,
              ⟨none, (some 39), .mov (.t 0), []⟩,
              ⟨none, (some 40), .call true to [.t 39, .c (.bool false)], []⟩,
              ⟨none, (some 41), .call true it [.t 38, .t 40], []⟩,
              ⟨none, (some 42), .un .not (.t 41), []⟩])
            (.cond (.t 42)
             (.seq
              (.reg [2] [
                ⟨none, (some 2), .mov (.c (.bool false)), []⟩])
              .ret)
             .skip))
           (.seq
            (.reg [9, 10] [
              ⟨none, (some 44), .mov (.t 0), []⟩,
              ⟨none, (some 45), .call true to [.t 44, .c (.bool true)], []⟩,
              ⟨none, (some 46), .call true im [.t 45], []⟩,
              ⟨none, (some 43), .mov (.t 46), []⟩,
              ⟨none, (some 47), .ext (.t 43) 0, []⟩,
              ⟨none, (some 48), .ext (.t 43) 1, []⟩,
              ⟨none, (some 9), .zero true (zs 12 (.int .u16 0)), []⟩,
              ⟨none, (some 9), .stV 9 none 12 (.t 47), []⟩,
              ⟨none, (some 10), .mov (.t 48), []⟩])
            (.seq
             (.seq
              (.reg [57] [
                ⟨none, (some 49), .ldV 9 none 12 true, []⟩,
                ⟨none, (some 50), .ldV 4 none 12 true, []⟩,
                ⟨none, (some 51), .call true 78 [.t 49, .t 50], []⟩,
                ⟨none, (some 52), .un .not (.t 51), []⟩,
                ⟨none, (some 53), .mov (.t 52), []⟩,
                ⟨(some (53, false)), (some 54), .mov (.t 10), []⟩,
                ⟨(some (53, false)), (some 55), .mov (.t 5), []⟩,
                ⟨(some (53, false)), (some 56), .bin .neq (.t 54) (.t 55), []⟩,
                ⟨none, (some 57), .pick (.t 53) (.c (.bool true)) (.t 56), []⟩])
              (.cond (.t 57)
               (.seq
                (.reg [2] [
                  ⟨none, (some 2), .mov (.c (.bool false)), []⟩])
                .ret)
               .skip))
             (.seq
              (.reg [2] [
                ⟨none, (some 2), .mov (.c (.bool true)), []⟩])
              .ret))))))))))))
def lbfC (sz : Nat) (to : Nat) (it : Nat) (sp : Nat) (im : Nat) : Fn := { np := 1, nt := 58, kind := .pure, res := [.t 2], body := lbfK sz to it sp im }
theorem zz : stc (iv .u16 (zr 12 0)) 0 (cs .u16 (zr 12 0)) = some (iv .u16 (zr 12 0)) := stc_zr (by simp)
/-- A law of a function from a slice to frames. -/
theorem lbf_gen {f sz to it sp im : Nat} (hf : tab f = some (.fn (lbfC sz to it sp im))) (hsz : tab sz = some (.fn szSC)) {H : Heap} {x : Value} {esz n : Nat} {vs fc : List Value} (hs : SlR H x esz n vs) (hn : n ≤ 9223372036854775807) (hl : vs.length = n * esz) (hfc : fc.length = esz)
    (hcp : ∀ G, SlR G x esz n vs → n ≤ 1000000 → CpF to G x esz n vs fc) (hit : ∀ G y z, IsCp G y esz n vs fc → IsCp G z esz n vs fc → n ≤ 1000000 → Call tab true it [y, z] G = some (.bool true, G)) {m : List Int} {c : Int} (hm : m.length = 12)
    (hsp : ∀ G y, n ≤ 1000000 → SlR G y esz n vs → Call tab true sp [y] G = some (tup [iv .u16 m, .int .i64 c], G)) (him : ∀ G y, n ≤ 1000000 → SlR G y esz n vs → Call tab true im [y] G = some (tup [iv .u16 m, .int .i64 c], G)) :
    Call tab false f [x] H = some (.bool true, H) := by
  refine Call_wp hf (.inl rfl) rfl ?_
  have hsz := sz_call hsz (pu := true) hs (left := 1000000) (by omega) (by omega) hn
  by_cases hbig : n ≤ 1000000
  · have hsz' : ¬ (1000000 - (n : Int) < 0) := by omega
    rw [if_neg hsz'] at hsz
    obtain ⟨x1, G1, q1, k1, r1, p1⟩ := cp_false (pu := true) hl hfc (hcp H hs hbig)
    obtain ⟨x2, G2, q2, k2, r2, p2⟩ := cp_false (pu := true) hl hfc (hcp _ (hs.pre p1) hbig)
    have p12 := p1.trans p2
    obtain ⟨x3, G3, q3, k3, r3, p3⟩ := cp_false (pu := true) hl hfc (hcp _ (hs.pre p12) hbig)
    have p13 := p12.trans p3
    obtain ⟨x4, G4, q4, r4, p4⟩ := cp_true (pu := true) hl hfc (hcp _ (hs.pre p13) hbig)
    have w3 := hit _ _ _ (k2.pre p3) k3 hbig
    have hz := stc_zr (k := .u16) hm
    simp [lbfC, lbfK, hsz, hsz', q1, q2, q3, q4, hsp _ _ hbig r1, him _ _ hbig r2, him _ _ hbig r4, w3, zs_cs, agg_cs, hm, hz, call78 hm, skip, (p13.trans p4).take]
  · have hsz' : 1000000 - (n : Int) < 0 := by omega
    rw [if_pos hsz'] at hsz
    simp [lbfC, lbfK, hsz]
/-- A stroke: where, how long, down or not. -/
structure Sk where
  x : Int
  y : Int
  n : Int
  d : Bool
instance : Inhabited Sk := ⟨⟨0, 0, 0, false⟩⟩
def skC (s : Sk) : List Value := [.int .i8 s.x, .int .i8 s.y, .int .i8 s.n, .bool s.d]
structure SkW (s : Sk) : Prop where
  x : i8 s.x
  y : i8 s.y
  n : i8 s.n
def sksC (l : List Sk) : List Value := rowsC skC l
theorem sksC_length {l : List Sk} : (sksC l).length = l.length * 4 := rows_length (f := skC) (esz := 4) fun _ _ => rfl
theorem sksC_elem {l : List Sk} {i : Nat} (hi : i < l.length) : elem (sksC l) 4 i = skC (at0 l i) := rows_elem (f := skC) (esz := 4) (fun _ _ => rfl) hi
theorem skC_flat {s : Sk} : NoRef (skC s) := by
  intro v hv n
  simp only [skC, List.mem_cons, List.not_mem_nil, or_false] at hv
  rcases hv with rfl | rfl | rfl | rfl
  · exact old0_int
  · exact old0_int
  · exact old0_int
  · exact old0_bool
theorem sksC_flat {l : List Sk} : NoRef (sksC l) := rows_flat fun _ _ => skC_flat
theorem ldc4a {a b c d : Value} : ldc 1 false (agg [a, b, c, d]) 0 = some a := by simp [ldc]
theorem ldc4b {a b c d : Value} : ldc 1 false (agg [a, b, c, d]) 1 = some b := by simp [ldc]
theorem ldc4c {a b c d : Value} : ldc 1 false (agg [a, b, c, d]) 2 = some c := by simp [ldc]
theorem ldc4d {a b c d : Value} : ldc 1 false (agg [a, b, c, d]) 3 = some d := by simp [ldc]
theorem ldc4 {a b c d : Value} : ldc 4 true (agg [a, b, c, d]) 0 = some (agg [a, b, c, d]) := by simp [ldc]
theorem stc4a {a b c d u : Value} : stc (agg [a, b, c, d]) 0 [u] = some (agg [u, b, c, d]) := by simp [stc, agg, splice]
theorem stc4b {a b c d u : Value} : stc (agg [a, b, c, d]) 1 [u] = some (agg [a, u, c, d]) := by simp [stc, agg, splice]
theorem stc4c {a b c d u : Value} : stc (agg [a, b, c, d]) 2 [u] = some (agg [a, b, u, d]) := by simp [stc, agg, splice]
theorem stc4d {a b c d u : Value} : stc (agg [a, b, c, d]) 3 [u] = some (agg [a, b, c, u]) := by simp [stc, agg, splice]
theorem stc4 {a b c d u v w y : Value} : stc (agg [a, b, c, d]) 0 [u, v, w, y] = some (agg [u, v, w, y]) := by simp [stc, agg, splice]
theorem call343 {pu : Bool} {H : Heap} {s : Sk} : Call tab pu 343 [agg (skC s)] H = some (agg (skC s), H) := by
  refine Call_wp t343 (.inr rfl) rfl ?_
  simp [c343, k343, skC, stc4a, stc4b, stc4c, stc4d, stc4, ldc4a, ldc4b, ldc4c, ldc4d, ldc4, fin_agg]
def skF : Sk := ⟨-101, -101, -101, true⟩
theorem call344 {pu : Bool} {H : Heap} : Call tab pu 344 [] H = some (agg (skC skF), H) := by
  refine Call_wp t344 (.inr rfl) rfl ?_
  simp [c344, k344, stc4, fill, splice, fin_agg, skC, skF]
theorem call364 {pu : Bool} {H : Heap} {s : Sk} : Call tab pu 364 [agg (skC s), agg (skC s)] H = some (.bool true, H) := by
  refine Call_wp t364 (.inr rfl) rfl ?_
  simp [c364, k364, skC, ldc4a, ldc4b, ldc4c, ldc4d]
def skZ : List Value := [.int .i8 0, .int .i8 0, .int .i8 0, .bool false]
theorem s112 : tab 112 = some (.fn szSC) := t112
theorem s114 : tab 114 = some (.fn (toSC 343 4 4 skZ (.call true 344 []))) := t114
theorem s116 : tab 116 = some (.fn (inSC 138 4)) := t116
theorem s138 : tab 138 = some (.fn (eqSC 364 4)) := t138
theorem call114 {H : Heap} {x : Value} {l : List Sk} (hs : SlR H x 4 l.length (sksC l)) (hn : l.length ≤ 1000000) : CpF 114 H x 4 l.length (sksC l) (skC skF) := fun pu flag =>
  toS_call s114 rfl (by omega) (fun n0 e G => by simp [call344]) rfl hs hn (fun i G hi => by rw [sksC_elem hi]; exact call343) sksC_flat skC_flat
theorem call116 {pu : Bool} {H : Heap} {x y : Value} {l : List Sk} (hx : IsCp H x 4 l.length (sksC l) (skC skF)) (hy : IsCp H y 4 l.length (sksC l) (skC skF)) (hn : l.length ≤ 1000000) : Call tab pu 116 [x, y] H = some (.bool true, H) :=
  inS_call s116 s138 hx hy hn sksC_length rfl (fun i hi => by rw [sksC_elem hi]; exact call364) call364
/- Drawing. -/
def pX (s : Sk) (k : Nat) : Int := if s.d = true then s.x else s.x + k
def pY (s : Sk) (k : Nat) : Int := if s.d = true then s.y + k else s.y
def okP (a b : Int) : Bool := decide (0 ≤ a ∧ a ≤ 11) && decide (0 ≤ b ∧ b ≤ 11)
def skN (s : Sk) (f : List Int) (k : Nat) : Option (List Int) := itN (fun k o => o.bind fun f => if okP (pX s k) (pY s k) = true then some (putF f (pX s k).toNat (pY s k).toNat) else none) (some f) k
theorem skN_zero {s : Sk} {f : List Int} : skN s f 0 = some f := itN_zero
theorem skN_succ {s : Sk} {f : List Int} {k : Nat} : skN s f (k + 1) = (skN s f k).bind fun f => if okP (pX s k) (pY s k) = true then some (putF f (pX s k).toNat (pY s k).toNat) else none := itN_succ
theorem skN_none {s : Sk} {f : List Int} {k m : Nat} (h : skN s f k = none) (hm : k ≤ m) : skN s f m = none := by
  obtain ⟨d, rfl⟩ := Nat.le.dest hm
  clear hm
  induction d with
  | zero => exact h
  | succ d ih => rw [← Nat.add_assoc, skN_succ, ih]; rfl
theorem skN_length {s : Sk} {f g : List Int} {k : Nat} (hf : f.length = 12) (h : skN s f k = some g) : g.length = 12 := by
  induction k generalizing g with
  | zero => rw [skN_zero] at h; cases h; exact hf
  | succ k ih =>
    rw [skN_succ] at h
    obtain ⟨g', h1, h2⟩ := Option.bind_eq_some_iff.1 h
    split at h2
    · cases h2; rw [putF_length]; exact ih h1
    · cases h2
def inkN (l : List Sk) (k : Nat) : Option (List Int) := itN (fun k o => o.bind fun f => if (at0 l k).n < 1 then none else skN (at0 l k) f (at0 l k).n.toNat) (some (zr 12 0)) k
theorem inkN_zero {l : List Sk} : inkN l 0 = some (zr 12 0) := itN_zero
theorem inkN_succ {l : List Sk} {k : Nat} : inkN l (k + 1) = (inkN l k).bind fun f => if (at0 l k).n < 1 then none else skN (at0 l k) f (at0 l k).n.toNat := itN_succ
theorem inkN_none {l : List Sk} {k m : Nat} (h : inkN l k = none) (hm : k ≤ m) : inkN l m = none := by
  obtain ⟨d, rfl⟩ := Nat.le.dest hm
  clear hm
  induction d with
  | zero => exact h
  | succ d ih => rw [← Nat.add_assoc, inkN_succ, ih]; rfl
theorem inkN_length {l : List Sk} : ∀ {k : Nat} {g : List Int}, inkN l k = some g → g.length = 12
  | 0, g, h => by rw [inkN_zero] at h; cases h; simp
  | k + 1, g, h => by
    rw [inkN_succ] at h
    obtain ⟨g', h1, h2⟩ := Option.bind_eq_some_iff.1 h
    split at h2
    · cases h2
    · exact skN_length (inkN_length h1) h2
def inkR (l : List Sk) : Value := if 80 < l.length then tup [iv .u16 (zr 12 0), .int .i64 2] else match inkN l l.length with
  | some g => tup [iv .u16 g, .int .i64 0]
  | none => tup [iv .u16 (zr 12 0), .int .i64 2]
theorem inkR_none {l : List Sk} (h0 : ¬ 80 < l.length) {k : Nat} (h : inkN l k = none) (hk : k ≤ l.length) : inkR l = tup [iv .u16 (zr 12 0), .int .i64 2] := by
  rw [inkR, if_neg h0, inkN_none h hk]
theorem inkR_some {l : List Sk} (h0 : ¬ 80 < l.length) {g : List Int} (h : inkN l l.length = some g) : inkR l = tup [iv .u16 g, .int .i64 0] := by
  rw [inkR, if_neg h0, h]
theorem placeS {pu : Bool} {H : Heap} {a b : Int} : Call tab pu 342 [.int .i64 a, .int .i64 b] H = some (.bool (okP a b), H) := by
  refine Call_wp t342 (.inr rfl) rfl ?_
  have e1 : ∀ x : Int, (decide (0 ≤ x) && decide (x ≤ 11)) = decide (0 ≤ x ∧ x ≤ 11) := fun x => by simp
  cases h : decide (0 ≤ a ∧ a ≤ 11) <;> simp [c342, k342, call304, e1, h, okP, skip, -Bool.decide_and, -decide_eq_true_eq, -decide_eq_false_iff_not]
theorem placeI {pu : Bool} {H : Heap} {a b : Int} : Call tab pu 345 [.int .i64 a, .int .i64 b] H = some (.bool (okP a b), H) := by
  refine Call_wp t345 (.inr rfl) rfl ?_
  have e1 : ∀ x : Int, (decide (0 ≤ x) && decide (x ≤ 11)) = decide (0 ≤ x ∧ x ≤ 11) := fun x => by simp
  cases h : decide (0 ≤ a ∧ a ≤ 11) <;> simp [c345, k345, call295, e1, h, okP, skip, -Bool.decide_and, -decide_eq_true_eq, -decide_eq_false_iff_not]
theorem okP_get {a b : Int} (h : okP a b = true) : ∃ x y : Nat, a = x ∧ b = y ∧ x < 12 ∧ y < 12 := by
  simp [okP] at h
  exact ⟨a.toNat, b.toNat, by omega, by omega, by omega, by omega⟩
theorem call115 {pu : Bool} {H : Heap} {x : Value} {l : List Sk} (hs : SlR H x 4 l.length (sksC l)) (hn : l.length ≤ 1000000) (hw : ∀ s ∈ l, SkW s) : Call tab pu 115 [x] H = some (inkR l, H) := by
  refine Call_wp t115 (.inr rfl) rfl ?_
  by_cases h80 : 80 < l.length
  · have : (80 : Int) < (l.length : Int) := by omega
    simp [c115, k115, hs.lenV, this, zs_cs, agg_cs, fill, zz, inkR, h80]
  · have : ¬ ((80 : Int) < (l.length : Int)) := by omega
    simp [c115, k115, hs.lenV, this, zs_cs, agg_cs, fill, zz]
    refine WP_forH 17 l.length _ rfl (by omega) (fun i e => e 2 = iv .u16 (zr 12 0) ∧ e 15 = x ∧ e 16 = .int .i64 l.length ∧ ∃ g, inkN l i = some g ∧ e 4 = iv .u16 g) ?_ ?_ (by simp) (by simp; exact ⟨_, inkN_zero, rfl⟩)
    · rintro i e hi hlt e4 h17 ⟨h2, h15, h16, g, hg, h4⟩
      obtain ⟨q, off, ver, ha, hr⟩ := hs.get1 hi
      rw [sksC_elem hi] at hr
      obtain ⟨s, hsk⟩ : ∃ s, s = at0 l i := ⟨_, rfl⟩
      have hsw : SkW s := hsk ▸ hw _ (at0_mem hi)
      obtain ⟨b1, b2, b3⟩ := hsw
      rw [← hsk] at hr
      have hsucc := inkN_succ (l := l) (k := i)
      rw [hg, ← hsk] at hsucc
      simp only [Option.bind_some] at hsucc
      have hgl := inkN_length hg
      by_cases h1 : s.n < 1
      · rw [if_pos h1] at hsucc
        simp [b115_2, h17, h2, h15, h16, h4, hlt, ha, hr, skC, stc4, ldc4c, h1, zs_cs, agg_cs, fill, zz, inkR_none h80 hsucc (by omega)]
      · rw [if_neg h1] at hsucc
        simp (disch := omega) [b115_2, h17, h2, h15, h16, h4, hlt, ha, hr, skC, stc4, ldc4c, h1]
        refine WP_forH 28 s.n.toNat s.n (by omega) (by omega) (fun k e => e 2 = iv .u16 (zr 12 0) ∧ e 6 = agg (skC s) ∧ e 15 = x ∧ e 16 = .int .i64 l.length ∧ e 17 = .int .i64 i ∧ e 27 = .int .i64 s.n ∧ ∃ f, skN s g k = some f ∧ e 4 = iv .u16 f) ?_ ?_ (by simp) (by simp [h2, h15, h16, h17, h4, skC]; exact ⟨_, skN_zero, rfl⟩)
        · rintro k e hk hkk e5 h28 ⟨h2, h6, h15, h16, h17, h27, f, hf, h4⟩
          have hsk2 := skN_succ (s := s) (f := g) (k := k)
          rw [hf] at hsk2
          simp only [Option.bind_some] at hsk2
          have hfl := skN_length hgl hf
          have c1 : IntKind.wrap .i64 (s.x + (k : Int)) = s.x + k := wrap64 (by omega)
          have c2 : IntKind.wrap .i64 (s.y + (k : Int)) = s.y + k := wrap64 (by omega)
          cases hd : s.d with
          | true =>
            have p1 : pX s k = s.x := if_pos hd
            have p2 : pY s k = s.y + k := if_pos hd
            rw [p1, p2] at hsk2
            cases ho : okP s.x (s.y + k) with
            | true =>
              rw [if_pos ho] at hsk2
              obtain ⟨u, v, hu, hv, hu1, hv1⟩ := okP_get ho
              have hc := call346 (pu := true) (H := H) hfl hu1 hv1
              rw [← hu, ← hv] at hc
              rw [hu, hv] at hsk2
              simp only [Int.toNat_natCast] at hsk2
              have hpl : (putF f u v).length = 12 := by rw [putF_length, hfl]
              have hst : stc (iv .u16 f) 0 (cs .u16 (putF f u v)) = some (iv .u16 (putF f u v)) := stc_all (by rw [hpl, hfl])
              simp (disch := omega) [b115_1, h28, h2, h6, h15, h16, h17, h27, h4, hkk, skC, ldc4a, ldc4b, ldc4d, c1, c2, hd, placeI, ho, hfl, hc, hpl, hst, e5, hsk2]
            | false =>
              rw [ho, if_neg (by simp)] at hsk2
              have hno : inkN l (i + 1) = none := by rw [hsucc]; exact skN_none hsk2 (by omega)
              simp (disch := omega) [b115_1, h28, h2, h6, h15, h16, h17, h27, h4, hkk, skC, ldc4a, ldc4b, ldc4d, c1, c2, hd, placeI, ho, zs_cs, agg_cs, fill, zz, inkR_none h80 hno (by omega)]
          | false =>
            have p1 : pX s k = s.x + k := if_neg (by simp [hd])
            have p2 : pY s k = s.y := if_neg (by simp [hd])
            rw [p1, p2] at hsk2
            cases ho : okP (s.x + k) s.y with
            | true =>
              rw [if_pos ho] at hsk2
              obtain ⟨u, v, hu, hv, hu1, hv1⟩ := okP_get ho
              have hc := call346 (pu := true) (H := H) hfl hu1 hv1
              rw [← hu, ← hv] at hc
              rw [hu, hv] at hsk2
              simp only [Int.toNat_natCast] at hsk2
              have hpl : (putF f u v).length = 12 := by rw [putF_length, hfl]
              have hst : stc (iv .u16 f) 0 (cs .u16 (putF f u v)) = some (iv .u16 (putF f u v)) := stc_all (by rw [hpl, hfl])
              simp (disch := omega) [b115_1, h28, h2, h6, h15, h16, h17, h27, h4, hkk, skC, ldc4a, ldc4b, ldc4d, c1, c2, hd, placeI, ho, hfl, hc, hpl, hst, e5, hsk2]
            | false =>
              rw [ho, if_neg (by simp)] at hsk2
              have hno : inkN l (i + 1) = none := by rw [hsucc]; exact skN_none hsk2 (by omega)
              simp (disch := omega) [b115_1, h28, h2, h6, h15, h16, h17, h27, h4, hkk, skC, ldc4a, ldc4b, ldc4d, c1, c2, hd, placeI, ho, zs_cs, agg_cs, fill, zz, inkR_none h80 hno (by omega)]
        · rintro e h28 ⟨h2, h6, h15, h16, h17, h27, f, hf, h4⟩
          rw [hf] at hsucc
          simp [b115_1, h28, h2, h15, h16, h17, h27, h4, e4, hsucc]
    · rintro e h17 ⟨h2, h15, h16, g, hg, h4⟩
      have hgl := inkN_length hg
      have hz := stc_zr (k := .u16) hgl
      simp [b115_2, h17, h2, h16, h4, hgl, hz, agg_cs, inkR_some h80 hg]
theorem call113 {pu : Bool} {H : Heap} {x : Value} {l : List Sk} (hs : SlR H x 4 l.length (sksC l)) (hn : l.length ≤ 1000000) (hw : ∀ s ∈ l, SkW s) : Call tab pu 113 [x] H = some (inkR l, H) := by
  refine Call_wp t113 (.inr rfl) rfl ?_
  have hwr : wr H.length false (H ++ [⟨cs .u16 (zr 12 0), 1, 0, false⟩]) H.length 0 0 (cs .u16 (zr 12 0)) = some (H ++ [⟨cs .u16 (zr 12 0), 1, 0, false⟩]) := wr_last rfl rfl (Nat.le_refl _) (by simp)
  have hrd : ∀ g : List Int, g.length = 12 → rd (H ++ [⟨cs .u16 g, 1, 0, false⟩]) H.length 0 0 12 = some (cs .u16 g) := fun g hg => rd_last rfl (by simp [hg])
  by_cases h80 : 80 < l.length
  · have : (80 : Int) < (l.length : Int) := by omega
    simp [c113, k113, hs.lenV, this, zs_cs, agg_cs, fill, zz, inkR, h80, hwr, wbOf, hrd]
  · have : ¬ ((80 : Int) < (l.length : Int)) := by omega
    simp [c113, k113, hs.lenV, this, zs_cs, agg_cs, fill, zz, hwr, wbOf]
    refine WP_count 5 l.length _ rfl (fun i e H' => e 0 = x ∧ e 2 = iv .u16 (zr 12 0) ∧ e 4 = adr H.length 0 0 ∧ ∃ g, inkN l i = some g ∧ H' = H ++ [⟨cs .u16 g, 1, 0, false⟩]) (by omega) ?_ ?_ (by simp) (by simp; exact ⟨_, inkN_zero, rfl⟩)
    · rintro i e _ _ hi hlt e4 h5 ⟨h0, h2, h4, g, hg, rfl⟩
      obtain ⟨q, off, ver, ha, hr⟩ := hs.get1 hi
      rw [sksC_elem hi] at hr
      obtain ⟨s, hsk⟩ : ∃ s, s = at0 l i := ⟨_, rfl⟩
      have hsw : SkW s := hsk ▸ hw _ (at0_mem hi)
      obtain ⟨b1, b2, b3⟩ := hsw
      rw [← hsk] at hr
      have hsucc := inkN_succ (l := l) (k := i)
      rw [hg, ← hsk] at hsucc
      simp only [Option.bind_some] at hsucc
      have hgl := inkN_length hg
      have d : ∀ (G : Heap) (o : Nat), o < 4 → rd (H ++ G) q (off + o) ver 1 = some ((skC s).drop o |>.take 1) := fun G o ho => rd_part (rd_app hr) (by omega)
      have d0 := fun G => d G 0 (by omega)
      have d1 := fun G => d G 1 (by omega)
      have d2 := fun G => d G 2 (by omega)
      have d3 := fun G => d G 3 (by omega)
      simp [skC] at d0 d1 d2 d3
      by_cases h1 : s.n < 1
      · rw [if_pos h1] at hsucc
        simp (disch := omega) [b113_2, h5, h0, h2, h4, hlt, hs.lenV, ha, d0, d1, d2, h1, zs_cs, agg_cs, fill, zz, inkR_none h80 hsucc (by omega)]
      · rw [if_neg h1] at hsucc
        simp (disch := omega) [b113_2, h5, h0, h2, h4, hlt, hs.lenV, ha, d0, d1, d2, h1]
        refine WP_count 8 s.n.toNat s.n (by omega) (fun k e H' => e 0 = x ∧ e 2 = iv .u16 (zr 12 0) ∧ e 4 = adr H.length 0 0 ∧ e 5 = .int .i64 i ∧ e 6 = .int .i64 (pX s k) ∧ e 7 = .int .i64 (pY s k) ∧ ∃ f, skN s g k = some f ∧ H' = H ++ [⟨cs .u16 f, 1, 0, false⟩]) (by omega) ?_ ?_ (by simp) (by simp [h0, h2, h4, h5, pX, pY]; exact ⟨_, skN_zero, rfl⟩)
        · rintro k e _ _ hk hkk e5 h8 ⟨h0, h2, h4, h5, h6, h7, f, hf, rfl⟩
          have hsk2 := skN_succ (s := s) (f := g) (k := k)
          rw [hf] at hsk2
          simp only [Option.bind_some] at hsk2
          have hfl := skN_length hgl hf
          cases ho : okP (pX s k) (pY s k) with
          | true =>
            rw [if_pos ho] at hsk2
            obtain ⟨u, v, hu, hv, hu1, hv1⟩ := okP_get ho
            have hc := call305 (H := H ++ [⟨cs .u16 f, 1, 0, false⟩]) (b := H.length) get_last hfl hu1 hv1
            rw [set_last, ← hu, ← hv] at hc
            rw [hu, hv] at hsk2
            simp only [Int.toNat_natCast] at hsk2
            have he : elder H.length false (H ++ [⟨cs .u16 f, 1, 0, false⟩]) (tup [], H ++ [⟨cs .u16 (putF f u v), 1, 0, false⟩]) = some (tup [], H ++ [⟨cs .u16 (putF f u v), 1, 0, false⟩]) := elder_same (by simp)
            cases hd : s.d with
            | true =>
              have p1 : pX s k = s.x := if_pos hd
              have p2 : pY s k = s.y + k := if_pos hd
              have p3 : pX s (k + 1) = s.x := if_pos hd
              have p4 : pY s (k + 1) = s.y + k + 1 := by rw [pY, if_pos hd]; omega
              rw [p1, p2] at ho hc
              have c2 : IntKind.wrap .i64 (s.y + (k : Int) + 1) = s.y + k + 1 := wrap64 (by omega)
              simp (disch := omega) [b113_1, h8, h0, h2, h4, h5, h6, h7, hkk, ha, d2, d3, p1, p2, p3, p4, placeS, ho, hc, wbOf, he, hd, c2, e5, hsk2]
            | false =>
              have p1 : pX s k = s.x + k := if_neg (by simp [hd])
              have p2 : pY s k = s.y := if_neg (by simp [hd])
              have p3 : pX s (k + 1) = s.x + k + 1 := by rw [pX, if_neg (by simp [hd])]; omega
              have p4 : pY s (k + 1) = s.y := if_neg (by simp [hd])
              rw [p1, p2] at ho hc
              have c2 : IntKind.wrap .i64 (s.x + (k : Int) + 1) = s.x + k + 1 := wrap64 (by omega)
              simp (disch := omega) [b113_1, h8, h0, h2, h4, h5, h6, h7, hkk, ha, d2, d3, p1, p2, p3, p4, placeS, ho, hc, wbOf, he, hd, c2, e5, hsk2]
          | false =>
            rw [ho, if_neg (by simp)] at hsk2
            have hno : inkN l (i + 1) = none := by rw [hsucc]; exact skN_none hsk2 (by omega)
            simp (disch := omega) [b113_1, h8, h0, h2, h4, h5, h6, h7, hkk, ha, d2, placeS, ho, zs_cs, agg_cs, fill, zz, inkR_none h80 hno (by omega)]
        · rintro e _ _ h8 ⟨h0, h2, h4, h5, h6, h7, f, hf, rfl⟩
          rw [hf] at hsucc
          simp (disch := omega) [b113_1, h8, h0, h2, h4, h5, ha, d2, e4, hsucc]
    · rintro e _ _ h5 ⟨h0, h2, h4, g, hg, rfl⟩
      have hgl := inkN_length hg
      have hz := stc_zr (k := .u16) hgl
      simp [b113_2, h5, h0, h2, h4, hs.lenV, hrd g hgl, hgl, hz, agg_cs, inkR_some h80 hg]
theorem s14 : tab 14 = some (.fn (lbfC 112 114 116 113 115)) := t14
theorem call14 {H : Heap} {x : Value} {l : List Sk} (hs : SlR H x 4 l.length (sksC l)) (hn : l.length ≤ 9223372036854775807) (hw : ∀ s ∈ l, SkW s) : Call tab false 14 [x] H = some (.bool true, H) := by
  obtain ⟨m, c, hm, e⟩ : ∃ m c, m.length = 12 ∧ inkR l = tup [iv .u16 m, .int .i64 c] := by
    unfold inkR; split
    · exact ⟨_, _, by simp, rfl⟩
    · split
      · rename_i g hg; exact ⟨g, _, inkN_length hg, rfl⟩
      · exact ⟨_, _, by simp, rfl⟩
  exact lbf_gen s14 s112 hs hn sksC_length rfl (fun G h hb => call114 h hb) (fun G y z h1 h2 hb => call116 h1 h2 hb) hm (fun G y h1 h2 => by rw [← e]; exact call113 h2 h1 hw) (fun G y h1 h2 => by rw [← e]; exact call115 h2 h1 hw)
end Fb
