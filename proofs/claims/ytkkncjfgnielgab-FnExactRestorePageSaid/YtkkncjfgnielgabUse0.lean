/- What each function computes. -/
import Derived.Test.YtkkncjfgnielgabTab
import Derived.Test.YtkkncjfgnielgabPl
set_option linter.unusedVariables false
set_option linter.unusedSimpArgs false
namespace Fb
open Go
theorem call304 {pu : Bool} {a b c : Int} {H : Heap} : Call tab pu 304 [.int .i64 a, .int .i64 b, .int .i64 c] H = some (.bool (decide (b ≤ a ∧ a ≤ c)), H) := by
  refine Call_wp t304 (.inr rfl) rfl ?_
  by_cases h : b ≤ a <;> simp [c304, k304, h, skip]
theorem call295 {pu : Bool} {a b c : Int} {H : Heap} : Call tab pu 295 [.int .i64 a, .int .i64 b, .int .i64 c] H = some (.bool (decide (b ≤ a ∧ a ≤ c)), H) := by
  refine Call_wp t295 (.inr rfl) rfl ?_
  by_cases h : b ≤ a <;> simp [c295, k295, h, skip]
theorem upto_succ {p : Nat → Prop} {i : Nat} (h : ∀ j, j < i → p j) (hi : p i) : ∀ j, j < i + 1 → p j := by
  intro j hj
  rcases Nat.lt_or_ge j i with h1 | h1
  · exact h j h1
  · obtain rfl : j = i := by omega
    exact hi
theorem all_false {l : List Int} {p : Int → Bool} {x : Int} (h : x ∈ l) (hp : p x = false) : l.all p = false := by
  rw [List.all_eq_false]; exact ⟨x, h, by simp [hp]⟩
/-- The first m numbers of a row are turned. -/
def part (f : Int → Int) (m : Nat) (l : List Int) : List Int := (l.take m).map f ++ l.drop m
theorem stc_at {k : IntKind} {l l' : List Int} {i : Nat} {n : Int} (h : i < l.length) (hl : l.set i n = l') : stc (iv k l) i [.int k n] = some (iv k l') := by rw [stc_one h rfl, hl]
theorem stc_zr {k : IntKind} {n : Nat} {l : List Int} (h : l.length = n) : stc (iv k (zr n 0)) 0 (cs k l) = some (iv k l) := stc_all (by simp [h])
theorem call78 {pu : Bool} {H : Heap} {l : List Int} (hl : l.length = 12) : Call tab pu 78 [iv .u16 l, iv .u16 l] H = some (.bool true, H) := by
  refine Call_wp t78 (.inr rfl) rfl ?_
  simp [c78, k78]
  refine WP_forH 5 12 12 rfl (by omega) (fun i e => e 2 = iv .u16 l ∧ e 3 = iv .u16 l) ?_ ?_ (by simp) (by simp)
  · rintro i e hi hx e4 h5 ⟨h2, h3⟩
    simp (disch := omega) [b78_1, h5, hx, hi, h2, h3, e4, hl]
  · rintro e h5 ⟨h2, h3⟩
    simp [b78_1, h5]
def szSK  : Cd :=
  (.seq
   (.reg [4] [
     ⟨none, (some 4), .mov (.c (.int .i64 0)), []⟩])
   (.seq
    (.reg [1] [
      ⟨none, (some 5), .mov (.t 1), []⟩,
      ⟨none, (some 6), .mov (.t 0), []⟩,
      ⟨none, (some 7), .len (.t 6), []⟩,
      ⟨none, (some 8), .bin .sub (.t 5) (.t 7), []⟩,
      ⟨none, (some 1), .mov (.t 8), []⟩])
    (.seq
     (.seq
      (.reg [10] [
        ⟨none, (some 9), .mov (.t 1), []⟩,
        ⟨none, (some 10), .bin .lss (.t 9) (.c (.int .i64 0)), []⟩])
      (.cond (.t 10)
       (.seq
        (.reg [4] [
          ⟨none, (some 4), .mov (.c (.int .i64 (-1))), []⟩])
        .ret)
       .skip))
     (.seq
      (.reg [4] [
        ⟨none, (some 11), .mov (.t 1), []⟩,
        ⟨none, (some 4), .mov (.t 11), []⟩])
      .ret))))
def szSC  : Fn := { np := 2, nt := 12, kind := .pure, res := [.t 4], body := szSK  }
def toSB1 (toE : Nat) (esz : Nat) (bytes : Nat) (z : List Value) (fo : Op1) : Cd :=
  (.seq
   (.seq
    (.reg [24] [
      ⟨none, (some 21), .mov (.t 6), []⟩,
      ⟨none, (some 22), .mov (.t 0), []⟩,
      ⟨none, (some 23), .len (.t 22), []⟩,
      ⟨none, (some 24), .bin .lss (.t 21) (.t 23), []⟩])
    (.cond (.t 24)
     .skip
     (.exit 0)))
   (.seq
    (.block 1
     (.reg [] [
       ⟨none, (some 27), .mov (.t 5), []⟩,
       ⟨none, (some 28), .mov (.t 6), []⟩,
       ⟨none, (some 29), .mov (.t 0), []⟩,
       ⟨none, (some 30), .mov (.t 6), []⟩,
       ⟨none, (some 31), .idxA esz (.t 29) (.t 30), []⟩,
       ⟨none, (some 32), .ld esz true (.t 31), []⟩,
       ⟨none, (some 33), .call true toE [.t 32], []⟩,
       ⟨none, (some 34), .idxA esz (.t 27) (.t 28), []⟩,
       ⟨none, none, .st esz (.t 34) (.t 33), []⟩]))
    (.reg [6] [
      ⟨none, (some 25), .mov (.t 6), []⟩,
      ⟨none, (some 26), .bin .add (.t 25) (.c (.int .i64 1)), []⟩,
      ⟨none, (some 6), .mov (.t 26), []⟩])))
def toSB2 (toE : Nat) (esz : Nat) (bytes : Nat) (z : List Value) (fo : Op1) : Cd :=
  (.seq
   (.seq
    (.reg [40] [
      ⟨none, (some 37), .mov (.t 7), []⟩,
      ⟨none, (some 38), .mov (.t 5), []⟩,
      ⟨none, (some 39), .len (.t 38), []⟩,
      ⟨none, (some 40), .bin .lss (.t 37) (.t 39), []⟩])
    (.cond (.t 40)
     .skip
     (.exit 2)))
   (.seq
    (.block 3
     (.reg [] [
       ⟨none, (some 43), .mov (.t 5), []⟩,
       ⟨none, (some 44), .mov (.t 7), []⟩,
       ⟨none, (some 45), fo, []⟩,
       ⟨none, (some 46), .idxA esz (.t 43) (.t 44), []⟩,
       ⟨none, none, .st esz (.t 46) (.t 45), []⟩]))
    (.reg [7] [
      ⟨none, (some 41), .mov (.t 7), []⟩,
      ⟨none, (some 42), .bin .add (.t 41) (.c (.int .i64 1)), []⟩,
      ⟨none, (some 7), .mov (.t 42), []⟩])))
def toSK (toE : Nat) (esz : Nat) (bytes : Nat) (z : List Value) (fo : Op1) : Cd :=
  (.seq
   (.reg [4] [
     ⟨none, (some 4), .mov (.c (.slice none 0 0)), []⟩])
   (.seq
    (.seq
     (.reg [13] [
       ⟨none, (some 8), .mov (.t 1), []⟩,
       ⟨none, (some 9), .mov (.t 8), []⟩,
       ⟨(some (9, true)), (some 10), .mov (.t 0), []⟩,
       ⟨(some (9, true)), (some 11), .len (.t 10), []⟩,
       ⟨(some (9, true)), (some 12), .bin .eql (.t 11) (.c (.int .i64 0)), []⟩,
       ⟨none, (some 13), .pick (.t 9) (.t 12) (.c (.bool false)), []⟩])
     (.cond (.t 13)
      (.seq
       (.reg [4] [
         ⟨none, (some 4), .mov (.c (.slice none 0 0)), []⟩])
       .ret)
      .skip))
    (.seq
     (.reg [5] [
       ⟨none, (some 14), .mov (.t 0), []⟩,
       ⟨none, (some 15), .len (.t 14), []⟩,
       ⟨none, (some 16), .mov (.t 0), []⟩,
       ⟨none, (some 17), .len (.t 16), []⟩,
       ⟨none, (some 18), .call true 296 [.t 17], []⟩,
       ⟨none, (some 19), .bin .add (.t 15) (.t 18), []⟩,
       ⟨none, (some 20), .mkS esz bytes z (.t 19) (.t 19), []⟩,
       ⟨none, (some 5), .mov (.t 20), []⟩])
     (.seq
      (.seq
       (.reg [6] [
         ⟨none, (some 6), .mov (.c (.int .i64 0)), []⟩])
       (.block 0
        (.loop (toSB1 toE esz bytes z fo))))
      (.seq
       (.seq
        (.reg [7] [
          ⟨none, (some 35), .mov (.t 0), []⟩,
          ⟨none, (some 36), .len (.t 35), []⟩,
          ⟨none, (some 7), .mov (.t 36), []⟩])
        (.block 2
         (.loop (toSB2 toE esz bytes z fo))))
       (.seq
        (.reg [4] [
          ⟨none, (some 47), .mov (.t 5), []⟩,
          ⟨none, (some 48), .mov (.t 0), []⟩,
          ⟨none, (some 49), .len (.t 48), []⟩,
          ⟨none, (some 50), .slcA esz (.t 47) none (some (.t 49)) none, []⟩,
          ⟨none, (some 4), .mov (.t 50), []⟩])
        .ret))))))
def toSC (toE : Nat) (esz : Nat) (bytes : Nat) (z : List Value) (fo : Op1) : Fn := { np := 2, nt := 51, kind := .pure, res := [.t 4], body := toSK toE esz bytes z fo }
def inSK (eqS : Nat) (esz : Nat) : Cd :=
  (.seq
   (.reg [4] [
     ⟨none, (some 4), .mov (.c (.bool false)), []⟩])
   (.seq
    (.reg [5] [
      ⟨none, (some 6), .mov (.t 1), []⟩,
      ⟨none, (some 7), .len (.t 6), []⟩,
      ⟨none, (some 8), .mov (.t 1), []⟩,
      ⟨none, (some 9), .len (.t 8), []⟩,
      ⟨none, (some 10), .call true 296 [.t 9], []⟩,
      ⟨none, (some 11), .bin .add (.t 7) (.t 10), []⟩,
      ⟨none, (some 5), .mov (.t 11), []⟩])
    (.seq
     (.reg [4] [
       ⟨none, (some 12), .mov (.t 0), []⟩,
       ⟨none, (some 13), .len (.t 12), []⟩,
       ⟨none, (some 14), .mov (.t 1), []⟩,
       ⟨none, (some 15), .len (.t 14), []⟩,
       ⟨none, (some 16), .bin .eql (.t 13) (.t 15), []⟩,
       ⟨none, (some 17), .mov (.t 16), []⟩,
       ⟨(some (17, true)), (some 18), .mov (.t 0), []⟩,
       ⟨(some (17, true)), (some 19), .mov (.t 5), []⟩,
       ⟨(some (17, true)), (some 20), .slcA esz (.t 18) none (some (.t 19)) none, []⟩,
       ⟨(some (17, true)), (some 21), .mov (.t 1), []⟩,
       ⟨(some (17, true)), (some 22), .mov (.t 5), []⟩,
       ⟨(some (17, true)), (some 23), .slcA esz (.t 21) none (some (.t 22)) none, []⟩,
       ⟨(some (17, true)), (some 24), .call true eqS [.t 20, .t 23], []⟩,
       ⟨none, (some 25), .pick (.t 17) (.t 24) (.c (.bool false)), []⟩,
       ⟨none, (some 4), .mov (.t 25), []⟩])
     .ret)))
def inSC (eqS : Nat) (esz : Nat) : Fn := { np := 2, nt := 26, kind := .pure, res := [.t 4], body := inSK eqS esz }
def eqSB1 (eqE : Nat) (esz : Nat) : Cd :=
  (.seq
   (.seq
    (.reg [14] [
      ⟨none, (some 11), .mov (.t 5), []⟩,
      ⟨none, (some 12), .mov (.t 0), []⟩,
      ⟨none, (some 13), .len (.t 12), []⟩,
      ⟨none, (some 14), .bin .lss (.t 11) (.t 13), []⟩])
    (.cond (.t 14)
     .skip
     (.exit 0)))
   (.seq
    (.block 1
     (.seq
      (.reg [26] [
        ⟨none, (some 17), .mov (.t 0), []⟩,
        ⟨none, (some 18), .mov (.t 5), []⟩,
        ⟨none, (some 19), .idxA esz (.t 17) (.t 18), []⟩,
        ⟨none, (some 20), .ld esz true (.t 19), []⟩,
        ⟨none, (some 21), .mov (.t 1), []⟩,
        ⟨none, (some 22), .mov (.t 5), []⟩,
        ⟨none, (some 23), .idxA esz (.t 21) (.t 22), []⟩,
        ⟨none, (some 24), .ld esz true (.t 23), []⟩,
        ⟨none, (some 25), .call true eqE [.t 20, .t 24], []⟩,
        ⟨none, (some 26), .un .not (.t 25), []⟩])
      (.cond (.t 26)
       (.seq
        (.reg [4] [
          ⟨none, (some 4), .mov (.c (.bool false)), []⟩])
        .ret)
       .skip)))
    (.reg [5] [
      ⟨none, (some 15), .mov (.t 5), []⟩,
      ⟨none, (some 16), .bin .add (.t 15) (.c (.int .i64 1)), []⟩,
      ⟨none, (some 5), .mov (.t 16), []⟩])))
def eqSK (eqE : Nat) (esz : Nat) : Cd :=
  (.seq
   (.reg [4] [
     ⟨none, (some 4), .mov (.c (.bool false)), []⟩])
   (.seq
    (.seq
     (.reg [10] [
       ⟨none, (some 6), .mov (.t 0), []⟩,
       ⟨none, (some 7), .len (.t 6), []⟩,
       ⟨none, (some 8), .mov (.t 1), []⟩,
       ⟨none, (some 9), .len (.t 8), []⟩,
       ⟨none, (some 10), .bin .neq (.t 7) (.t 9), []⟩])
     (.cond (.t 10)
      (.seq
       (.reg [4] [
         ⟨none, (some 4), .mov (.c (.bool false)), []⟩])
       .ret)
      .skip))
    (.seq
     (.seq
      (.reg [5] [
        ⟨none, (some 5), .mov (.c (.int .i64 0)), []⟩])
      (.block 0
       (.loop (eqSB1 eqE esz))))
     (.seq
      (.reg [4] [
        ⟨none, (some 4), .mov (.c (.bool true)), []⟩])
      .ret))))
def eqSC (eqE : Nat) (esz : Nat) : Fn := { np := 2, nt := 27, kind := .pure, res := [.t 4], body := eqSK eqE esz }
def roomN (n : Nat) : Nat := if n % 6 = 5 then 0 else if n % 3 = 0 then 1 else n
theorem roomN_le {n : Nat} : roomN n ≤ n + 1 := by
  unfold roomN
  split
  · omega
  · split <;> omega
theorem call296 {pu : Bool} {H : Heap} {n : Nat} : Call tab pu 296 [.int .i64 n] H = some (.int .i64 (roomN n), H) := by
  refine Call_wp t296 (.inr rfl) rfl ?_
  have e1 : ((n : Int).tmod 6 == 5) = decide (n % 6 = 5) := by
    rw [Int.tmod_eq_emod_of_nonneg (by omega)]
    apply Bool.eq_iff_iff.2
    simp; omega
  have e2 : ((n : Int).tmod 3 == 0) = decide (n % 3 = 0) := by
    rw [Int.tmod_eq_emod_of_nonneg (by omega)]
    apply Bool.eq_iff_iff.2
    simp; omega
  unfold roomN
  by_cases h1 : n % 6 = 5
  · simp (disch := decide) [c296, k296, e1, h1]
  · by_cases h2 : n % 3 = 0
    · simp (disch := decide) [c296, k296, e1, h1, e2, h2]
    · simp (disch := decide) [c296, k296, e1, h1, e2, h2]
/-- The i-th of a row of things. -/
def elem (vs : List Value) (esz i : Nat) : List Value := (vs.drop (i * esz)).take esz
theorem mul_next {i n esz : Nat} (h : i < n) : i * esz + esz ≤ n * esz := by
  have := Nat.mul_le_mul_right esz (show i + 1 ≤ n from h)
  rwa [Nat.succ_mul] at this
theorem elem_length {vs : List Value} {esz n i : Nat} (hl : vs.length = n * esz) (h : i < n) : (elem vs esz i).length = esz := by
  have := mul_next (esz := esz) h
  simp [elem]; omega
/-- A slice that can be read. -/
structure SlR (H : Heap) (x : Value) (esz n : Nat) (vs : List Value) : Prop where
  size : vs.length = n * esz
  is : (x = .slice none 0 0 ∧ n = 0) ∨ ∃ b off ver cap, x = slc b off ver n cap ∧ n ≤ cap ∧ rd H b off ver (n * esz) = some vs ∧ ∃ k, H[b]? = some k ∧ ver = k.ver ∧ k.esz = esz
theorem SlR.lenV {H : Heap} {x : Value} {esz n : Nat} {vs : List Value} (h : SlR H x esz n vs) : lenV x = some (.int .i64 n) := by
  rcases h.is with ⟨rfl, rfl⟩ | ⟨b, off, ver, cap, rfl, _⟩ <;> rfl
theorem SlR.app {H L : Heap} {x : Value} {esz n : Nat} {vs : List Value} (h : SlR H x esz n vs) : SlR (H ++ L) x esz n vs :=
  ⟨h.size, h.is.imp id fun ⟨b, off, ver, cap, h1, h2, h3, k, h4, h5⟩ => ⟨b, off, ver, cap, h1, h2, rd_app h3, k, by rw [List.getElem?_append_left (List.getElem?_eq_some_iff.1 h4).1]; exact h4, h5⟩⟩
theorem SlR.get {H : Heap} {x : Value} {esz n : Nat} {vs : List Value} (h : SlR H x esz n vs) {i : Nat} (hi : i < n) : ∃ a, idxAV esz x (.int .i64 (i : Int)) = some a ∧ ldH H esz true a = some (agg (elem vs esz i)) := by
  rcases h.is with ⟨rfl, rfl⟩ | ⟨b, off, ver, cap, rfl, h2, h3, _⟩
  · omega
  · refine ⟨adr b (off + i * esz) ver, by rw [idxAV_slc, at_nat hi]; rfl, ?_⟩
    rw [ldH_adr, rd_part h3 (mul_next hi)]; rfl
theorem SlR.of {H : Heap} {x : Value} {esz n : Nat} {vs : List Value} (h1 : vs.length = n * esz) (h : (x = .slice none 0 0 ∧ n = 0) ∨ ∃ b cap, x = slc b 0 0 n cap ∧ n ≤ cap ∧ rd H b 0 0 (n * esz) = some vs ∧ ∃ k, H[b]? = some k ∧ 0 = k.ver ∧ k.esz = esz) : SlR H x esz n vs :=
  ⟨h1, h.imp id fun ⟨b, cap, h1, h2, h3⟩ => ⟨b, 0, 0, cap, h1, h2, h3⟩⟩
theorem sz_call {f : Nat} (hf : tab f = some (.fn szSC)) {pu : Bool} {H : Heap} {x : Value} {esz n : Nat} {vs : List Value} (h : SlR H x esz n vs) {left : Int} (h0 : 0 ≤ left) (h1 : left ≤ 1000000) (hn : n ≤ 9223372036854775807) :
    Call tab pu f [x, .int .i64 left] H = some (.int .i64 (if left - n < 0 then -1 else left - n), H) := by
  refine Call_wp hf (.inr rfl) rfl ?_
  have e1 : IntKind.wrap .i64 (left - n) = left - n := wrap64 (by omega)
  by_cases h2 : left - (n : Int) < 0
  · simp [szSC, szSK, h.lenV, e1, h2]
  · simp [szSC, szSK, h.lenV, e1, h2]
/-- A row of which the first part is written already. -/
theorem splice_tk {C D vs : List Value} {o k : Nat} (hC : C.length = D.length) (hk : o + k ≤ D.length) (h : C.take o = D.take o) (hv : vs = (D.drop o).take k) : (splice C o vs).length = D.length ∧ (splice C o vs).take (o + k) = D.take (o + k) := by
  subst hv
  have e1 : ((D.drop o).take k).length = k := by simp; omega
  unfold splice
  refine ⟨by simp; omega, ?_⟩
  rw [e1, List.take_append_of_le_length (by simp; omega), h, List.take_of_length_le (by simp; omega)]
  exact (List.take_add ..).symm
theorem rep_len {n : Nat} {z : List Value} : (rep n z).length = n * z.length := by
  induction n with
  | zero => simp [rep]
  | succ n ih => simp [rep, ih, Nat.succ_mul]; omega
theorem elem_app {vs ws : List Value} {esz n i : Nat} (hl : vs.length = n * esz) (h : i < n) : elem (vs ++ ws) esz i = elem vs esz i := by
  have := mul_next (esz := esz) h
  unfold elem
  rw [List.drop_append_of_le_length (by omega), List.take_append_of_le_length (by simp; omega)]
theorem elem_rep {z : List Value} {n i : Nat} (h : i < n) : elem (rep n z) z.length i = z := by
  induction n generalizing i with
  | zero => omega
  | succ n ih =>
    cases i with
    | zero => simp [elem, rep]
    | succ i =>
      have := ih (i := i) (by omega)
      unfold elem at this ⊢
      rw [rep, Nat.succ_mul, Nat.add_comm, ← List.drop_drop]
      simpa using this
theorem elem_rep_app {vs z : List Value} {esz n m i : Nat} (hl : vs.length = n * esz) (hz : z.length = esz) (h : n ≤ i) (hi : i < n + m) : elem (vs ++ rep m z) esz i = z := by
  have e1 : elem (vs ++ rep m z) esz i = elem (rep m z) esz (i - n) := by
    unfold elem
    have : i * esz = vs.length + (i - n) * esz := by rw [hl, ← Nat.add_mul]; congr 1; omega
    rw [this, ← List.drop_drop, List.drop_left]
  rw [e1, ← hz]; exact elem_rep (by omega)
/-- What leads nowhere. -/
def NoRef (vs : List Value) : Prop := ∀ v ∈ vs, ∀ n, old0 n v = true
theorem NoRef.all {vs : List Value} (h : NoRef vs) {n : Nat} : vs.all (old0 n) = true := List.all_eq_true.2 fun v hv => h v hv n
theorem NoRef.app {vs ws : List Value} (h : NoRef vs) (h' : NoRef ws) : NoRef (vs ++ ws) := fun v hv n => (List.mem_append.1 hv).elim (fun h1 => h v h1 n) (fun h1 => h' v h1 n)
theorem NoRef.rep {z : List Value} (h : NoRef z) : ∀ {n : Nat}, NoRef (rep n z)
  | 0 => fun v hv => by simp [Fb.rep] at hv
  | n + 1 => h.app (NoRef.rep h)
theorem finish_slc {H G : Heap} {b ver len cap : Nat} {k : Blk} (hp : Pre H G) (hb : H.length ≤ b) (hk : G[b]? = some k) (hv : ver = k.ver) (hr : k.ro = false) (ho : k.cells.all (old0 H.length) = true) :
    finish H.length G [slc b 0 ver len cap] = (slc H.length 0 0 len cap, H ++ [{ k with ver := 0 }]) := by
  have hne : old1 H.length (slc b 0 ver len cap) = false := by
    show (true && decide (b < H.length)) = false
    simp; omega
  have : pack H.length G [slc b 0 ver len cap] [] [] = some ([slc H.length 0 0 len cap], [{ k with ver := 0 }]) := by
    rw [pack, if_neg (by rw [hne]; decide)]
    show (match G[b]? with
      | some k => if ([] : List Nat).contains b = false ∧ ver = k.ver ∧ k.ro = false ∧ k.cells.all (old0 H.length) = true then _ else none
      | none => none) = _
    rw [hk]
    simp only []
    rw [if_pos ⟨by simp, hv, hr, ho⟩]
    rfl
  rw [finish_some this, hp.take]; rfl
/-- The cells of a copy: with room behind. -/
def room (vs : List Value) (n : Nat) (fc : List Value) : List Value := vs ++ rep (roomN n) fc
theorem room_length {vs fc : List Value} {n esz : Nat} (hl : vs.length = n * esz) (hf : fc.length = esz) : (room vs n fc).length = (n + roomN n) * esz := by
  simp [room, rep_len, hl, hf, Nat.add_mul]
def mksV (esz bytes : Nat) (z : List Value) (G : Heap) (x y : Value) : Option (Value × Heap) := match x, y with
  | .int .i64 l, .int .i64 c => if 0 ≤ l ∧ l ≤ c ∧ c * bytes ≤ roomMax then some (slc G.length 0 0 l.toNat c.toNat, G ++ [⟨rep c.toNat z, esz, 0, false⟩]) else none
  | _, _ => none
theorem ev1_mkS {cl : Cl} {n0 : Nat} {wb : Bool} {e : Env} {G : Heap} {esz bytes : Nat} {z : List Value} {x y : Opd} : ev1 cl n0 wb e G (.mkS esz bytes z x y) = mksV esz bytes z G (x.ev e) (y.ev e) := rfl
theorem mksV_int {esz bytes : Nat} {z : List Value} {G : Heap} {l c : Int} : mksV esz bytes z G (.int .i64 l) (.int .i64 c) =
    if 0 ≤ l ∧ l ≤ c ∧ c * bytes ≤ roomMax then some (slc G.length 0 0 l.toNat c.toNat, G ++ [⟨rep c.toNat z, esz, 0, false⟩]) else none := rfl
theorem toS_call {f toE esz bytes : Nat} {z fc : List Value} {fo : Op1} (hf : tab f = some (.fn (toSC toE esz bytes z fo))) (hz : z.length = esz) (hb : bytes ≤ 64)
    (hfo : ∀ n0 e G, ev1 (Call tab) n0 false e G fo = some (agg fc, G)) (hfc : fc.length = esz) {pu : Bool} {H : Heap} {x : Value} {n : Nat} {vs : List Value} (hs : SlR H x esz n vs) (hn : n ≤ 1000000)
    (hE : ∀ i G, i < n → Call tab true toE [agg (elem vs esz i)] G = some (agg (elem vs esz i), G)) (ho : NoRef vs) (ho2 : NoRef fc) {flag : Bool} :
    Call tab pu f [x, .bool flag] H = some (if flag = true ∧ n = 0 then (.slice none 0 0, H) else (slc H.length 0 0 n (n + roomN n), H ++ [⟨room vs n fc, esz, 0, false⟩])) := by
  refine Call_wp hf (.inr rfl) rfl ?_
  by_cases hc : flag = true ∧ n = 0
  · obtain ⟨rfl, rfl⟩ := hc
    simp [toSC, toSK, hs.lenV]
  · have hn0 : flag = true → ¬ n = 0 := fun h h2 => hc ⟨h, h2⟩
    have hr := roomN_le (n := n)
    generalize hR : roomN n = R at hr
    have e1 : IntKind.wrap .i64 ((n : Int) + (R : Int)) = ((n + R : Nat) : Int) := by rw [wrap64 (by omega)]; omega
    have hmk : (0 ≤ ((n + R : Nat) : Int) ∧ ((n + R : Nat) : Int) ≤ ((n + R : Nat) : Int) ∧ ((n + R : Nat) : Int) * bytes ≤ roomMax) := by
      refine ⟨by omega, by omega, ?_⟩
      have h1 : (n + R) * bytes ≤ 3000000 * 64 := Nat.mul_le_mul (by omega) hb
      have h2 : roomMax = 140737488355328 := rfl
      rw [h2]
      have h3 : (((n + R) * bytes : Nat) : Int) ≤ ((3000000 * 64 : Nat) : Int) := Int.ofNat_le.2 h1
      rw [Int.natCast_mul] at h3
      exact Int.le_trans h3 (by decide)
    have hD : (room vs n fc).length = (n + R) * esz := by rw [room_length hs.size hfc, hR]
    have hele : ∀ i, i < n → elem (room vs n fc) esz i = elem vs esz i := fun i hi => elem_app hs.size hi
    have hele2 : ∀ i, n ≤ i → i < n + R → elem (room vs n fc) esz i = fc := fun i hi h2 => by unfold room; rw [hR]; exact elem_rep_app hs.size hfc hi h2
    have hev : ∀ (e : Env) (G : Heap), e 19 = .int .i64 ((n + R : Nat) : Int) → ev1 (Call tab) H.length false e G (.mkS esz bytes z (.t 19) (.t 19)) = some (slc G.length 0 0 (n + R) (n + R), G ++ [⟨rep (n + R) z, esz, 0, false⟩]) := by
      intro e G h
      rw [ev1_mkS, ev_t, h, mksV_int, if_pos hmk, Int.toNat_natCast]
    -- one store
    have hst : ∀ (C : List Value) (i : Nat) (vs' : List Value), C.length = (n + R) * esz → i < n + R → vs'.length = esz → stO H.length false (H ++ [⟨C, esz, 0, false⟩]) esz (adr H.length (i * esz) 0) (agg vs') = some (U, H ++ [⟨splice C (i * esz) vs', esz, 0, false⟩]) := by
      intro C i vs' hC hi hv
      have := mul_next (esz := esz) hi
      rw [stO_adr, cellsOf_agg, if_pos hv, wr_at (k := ⟨C, esz, 0, false⟩) get_last rfl rfl (by simp [may]) (by simp; omega), set_last]; rfl
    have hn1 : flag = true → ((n : Int) == 0) = false := fun h => by have := hn0 h; simp; omega
    have hmk' := hmk
    have hnlt : n < 9223372036854775807 := by omega
    have hbits : ∀ (C : List Value), C.length = (n + R) * esz → C.take ((n + R) * esz) = (room vs n fc).take ((n + R) * esz) → C = room vs n fc := fun C h1 h2 => by
      rwa [List.take_of_length_le (by omega), List.take_of_length_le (by omega)] at h2
    cases flag
    all_goals
      simp [toSC, toSK, hs.lenV, hn1, call296, hR, e1, ev1_mkS, mksV_int, hmk', skip, -Int.natCast_add]
      refine WP_count 6 n n rfl (fun i e H' => e 0 = x ∧ e 5 = slc H.length 0 0 (n + R) (n + R) ∧ ∃ C, C.length = (n + R) * esz ∧ C.take (i * esz) = (room vs n fc).take (i * esz) ∧ H' = H ++ [⟨C, esz, 0, false⟩]) hnlt ?_ ?_ (by simp) (by simp [rep_len, hz])
      · rintro i e _ _ hi hx e6 h6 ⟨h0, h5, C, hC, hCt, rfl⟩
        obtain ⟨a, ha, hl⟩ := (hs.app (L := [⟨C, esz, 0, false⟩])).get hi
        have hel := elem_length hs.size hi
        have hnx := mul_next (esz := esz) (show i < n + R by omega)
        obtain ⟨g1, g2⟩ := splice_tk (C := C) (D := room vs n fc) (vs := elem vs esz i) (o := i * esz) (k := esz) (by omega) (by omega) hCt (hele i hi).symm
        have hi2 : i < n + R := by omega
        simp [toSB1, h6, h0, h5, hx, hs.lenV, ha, hl, hE i _ hi, at_nat hi2, hst C i _ hC hi2 hel, wbOf, e6, -stO_adr]
        exact ⟨by omega, by rw [Nat.succ_mul]; exact g2⟩
      · rintro e _ _ h6 ⟨h0, h5, C, hC, hCt, rfl⟩
        simp [toSB1, h6, h0, h5, hs.lenV]
        refine WP_from 7 n (n + R) ((n + R : Nat) : Int) rfl (fun i e H' => e 0 = x ∧ e 5 = slc H.length 0 0 (n + R) (n + R) ∧ ∃ C, C.length = (n + R) * esz ∧ C.take (i * esz) = (room vs n fc).take (i * esz) ∧ H' = H ++ [⟨C, esz, 0, false⟩]) (by omega) (by omega) ?_ ?_ (by simp) ⟨by simp [h0], by simp [h5], C, hC, hCt, rfl⟩
        · rintro i e _ hni hi hx e6 h7 ⟨h0, h5, C, hC, hCt, rfl⟩
          have hnx := mul_next (esz := esz) hi
          obtain ⟨g1, g2⟩ := splice_tk (C := C) (D := room vs n fc) (vs := fc) (o := i * esz) (k := esz) (by omega) (by omega) hCt (hele2 i hni hi).symm
          simp [toSB2, h7, h0, h5, hx, hfo, at_nat hi, hst C i _ hC hi hfc, wbOf, e6, -stO_adr, -Int.natCast_add]
          exact ⟨by omega, by rw [Nat.succ_mul]; exact g2⟩
        · rintro e _ h7 ⟨h0, h5, C, hC, hCt, rfl⟩
          obtain rfl := hbits C hC hCt
          have hsl : slcAV (H ++ [⟨room vs n fc, esz, 0, false⟩]) esz (slc H.length 0 0 (n + R) (n + R)) none (some (.int .i64 n)) none = some (slc H.length 0 0 n (n + R)) := slcAV_hi get_last rfl rfl (by omega)
          have hfin := finish_slc (H := H) (G := H ++ [⟨room vs n fc, esz, 0, false⟩]) (b := H.length) (ver := 0) (len := n) (cap := n + R) (k := ⟨room vs n fc, esz, 0, false⟩) ⟨_, rfl⟩ (Nat.le_refl _) get_last rfl rfl (NoRef.all (ho.app ho2.rep))
          simp [toSB2, h7, h0, h5, hs.lenV, hsl, hfin, hn0, -Int.natCast_add]
theorem eqS_call {f eqE esz : Nat} (hf : tab f = some (.fn (eqSC eqE esz))) {pu : Bool} {H : Heap} {x y : Value} {n : Nat} {vs : List Value} (hx : SlR H x esz n vs) (hy : SlR H y esz n vs) (hn : n ≤ 1000000000)
    (hE : ∀ i, i < n → Call tab true eqE [agg (elem vs esz i), agg (elem vs esz i)] H = some (.bool true, H)) : Call tab pu f [x, y] H = some (.bool true, H) := by
  refine Call_wp hf (.inr rfl) rfl ?_
  simp [eqSC, eqSK, hx.lenV, hy.lenV]
  refine WP_forH 5 n n rfl (by omega) (fun i e => e 0 = x ∧ e 1 = y) ?_ ?_ (by simp) (by simp)
  · rintro i e hi hlt e4 h5 ⟨h0, h1⟩
    obtain ⟨a, ha, hl⟩ := hx.get hi
    obtain ⟨a', ha', hl'⟩ := hy.get hi
    simp [eqSB1, h5, h0, h1, hlt, hx.lenV, ha, hl, ha', hl', hE i hi, e4]
  · rintro e h5 ⟨h0, h1⟩
    simp [eqSB1, h5, h0, h1, hx.lenV]
/-- What a copy looks like. -/
def IsCp (H : Heap) (x : Value) (esz n : Nat) (vs fc : List Value) : Prop := ∃ b ver, x = slc b 0 ver n (n + roomN n) ∧ H[b]? = some ⟨room vs n fc, esz, ver, false⟩
theorem IsCp.sl {H : Heap} {x : Value} {esz n : Nat} {vs fc : List Value} (h : IsCp H x esz n vs fc) (hl : vs.length = n * esz) (hf : fc.length = esz) : SlR H x esz n vs := by
  obtain ⟨b, ver, rfl, h⟩ := h
  refine ⟨hl, .inr ⟨b, 0, ver, _, rfl, by omega, ?_, _, h, rfl, rfl⟩⟩
  have := room_length hl hf
  rw [Nat.add_mul] at this
  rw [rd_at h rfl (by simp; omega)]
  simp [room, hl]
theorem IsCp.app {H L : Heap} {x : Value} {esz n : Nat} {vs fc : List Value} (h : IsCp H x esz n vs fc) : IsCp (H ++ L) x esz n vs fc := by
  obtain ⟨b, ver, rfl, h⟩ := h
  exact ⟨b, ver, rfl, by rw [List.getElem?_append_left (List.getElem?_eq_some_iff.1 h).1]; exact h⟩
theorem IsCp.mk {H : Heap} {esz n : Nat} {vs fc : List Value} : IsCp (H ++ [⟨room vs n fc, esz, 0, false⟩]) (slc H.length 0 0 n (n + roomN n)) esz n vs fc := ⟨_, _, rfl, get_last⟩
theorem inS_call {f eqS eqE esz : Nat} (hf : tab f = some (.fn (inSC eqS esz))) (hf2 : tab eqS = some (.fn (eqSC eqE esz))) {pu : Bool} {H : Heap} {x y : Value} {n : Nat} {vs fc : List Value} (hx : IsCp H x esz n vs fc) (hy : IsCp H y esz n vs fc) (hn : n ≤ 1000000)
    (hl : vs.length = n * esz) (hfc : fc.length = esz) (hE : ∀ i, i < n → Call tab true eqE [agg (elem vs esz i), agg (elem vs esz i)] H = some (.bool true, H)) (hE2 : Call tab true eqE [agg fc, agg fc] H = some (.bool true, H)) :
    Call tab pu f [x, y] H = some (.bool true, H) := by
  refine Call_wp hf (.inr rfl) rfl ?_
  obtain ⟨b, ver, rfl, h⟩ := hx
  obtain ⟨b', ver', rfl, h'⟩ := hy
  have hr := roomN_le (n := n)
  have e1 : IntKind.wrap .i64 ((n : Int) + (roomN n : Int)) = ((n + roomN n : Nat) : Int) := by rw [wrap64 (by omega)]; omega
  have hlen := room_length hl hfc
  have s1 := slcAV_hi (off := 0) (len := n) (cap := n + roomN n) (kk := .i64) h rfl rfl (Nat.le_refl (n + roomN n))
  have s2 := slcAV_hi (off := 0) (len := n) (cap := n + roomN n) (kk := .i64) h' rfl rfl (Nat.le_refl (n + roomN n))
  have r1 : SlR H (slc b 0 ver (n + roomN n) (n + roomN n)) esz (n + roomN n) (room vs n fc) := ⟨hlen, .inr ⟨b, 0, ver, _, rfl, Nat.le_refl _, by rw [rd_at h rfl (by simp; omega)]; simp [take_all (Nat.le_of_eq hlen)], _, h, rfl, rfl⟩⟩
  have r2 : SlR H (slc b' 0 ver' (n + roomN n) (n + roomN n)) esz (n + roomN n) (room vs n fc) := ⟨hlen, .inr ⟨b', 0, ver', _, rfl, Nat.le_refl _, by rw [rd_at h' rfl (by simp; omega)]; simp [take_all (Nat.le_of_eq hlen)], _, h', rfl, rfl⟩⟩
  have hc := eqS_call hf2 (pu := true) r1 r2 (by omega) fun i hi => by
    rcases Nat.lt_or_ge i n with h3 | h3
    · unfold room; rw [elem_app hl h3]; exact hE i h3
    · unfold room; rw [elem_rep_app hl hfc h3 hi]; exact hE2
  simp [inSC, inSK, call296, e1, s1, s2, hc, -Int.natCast_add]
theorem SlR.pre {H G : Heap} {x : Value} {esz n : Nat} {vs : List Value} (p : Pre H G) (h : SlR H x esz n vs) : SlR G x esz n vs := by obtain ⟨L, rfl⟩ := p; exact h.app
theorem IsCp.pre {H G : Heap} {x : Value} {esz n : Nat} {vs fc : List Value} (p : Pre H G) (h : IsCp H x esz n vs fc) : IsCp G x esz n vs fc := by obtain ⟨L, rfl⟩ := p; exact h.app
/-- What a call that copies a slice brings about. -/
def CpF (f : Nat) (H : Heap) (x : Value) (esz n : Nat) (vs fc : List Value) : Prop := ∀ pu flag, Call tab pu f [x, .bool flag] H = some (if flag = true ∧ n = 0 then (.slice none 0 0, H) else (slc H.length 0 0 n (n + roomN n), H ++ [⟨room vs n fc, esz, 0, false⟩]))
/-- A copy, with a list that is nil where it is empty. -/
theorem cp_true {f : Nat} {pu : Bool} {H : Heap} {x : Value} {esz n : Nat} {vs fc : List Value} (hl : vs.length = n * esz) (hf : fc.length = esz) (h : CpF f H x esz n vs fc) :
    ∃ x' G, Call tab pu f [x, .bool true] H = some (x', G) ∧ SlR G x' esz n vs ∧ Pre H G := by
  have h := h pu true
  by_cases h0 : n = 0
  · subst h0
    refine ⟨.slice none 0 0, H, ?_, ⟨hl, .inl ⟨rfl, rfl⟩⟩, .refl⟩
    rw [h]; simp
  · rw [if_neg (by simp [h0])] at h
    exact ⟨_, _, h, IsCp.mk.sl hl hf, Pre.one⟩
/-- Things of a kind, one behind the other. -/
def rowsC {α : Type} (f : α → List Value) : List α → List Value
  | [] => []
  | a :: r => f a ++ rowsC f r
def at0 {α : Type} [Inhabited α] (l : List α) (i : Nat) : α := l.getD i default
theorem at0_mem {α : Type} [Inhabited α] {l : List α} {i : Nat} (h : i < l.length) : at0 l i ∈ l := by
  rw [at0, List.getD_eq_getElem?_getD, List.getElem?_eq_getElem h]; exact List.getElem_mem h
theorem at0_get {α : Type} [Inhabited α] {l : List α} {i : Nat} (h : i < l.length) : l[i]? = some (at0 l i) := by
  rw [at0, List.getD_eq_getElem?_getD, List.getElem?_eq_getElem h]; rfl
theorem rows_length {α : Type} {f : α → List Value} {esz : Nat} {l : List α} (hf : ∀ a ∈ l, (f a).length = esz) : (rowsC f l).length = l.length * esz := by
  induction l with
  | nil => simp [rowsC]
  | cons a r ih =>
    have h1 := ih fun b hb => hf b (by simp [hb])
    have h2 := hf a (by simp)
    simp [rowsC, h1, h2, Nat.succ_mul]; omega
theorem rows_elem {α : Type} [Inhabited α] {f : α → List Value} {esz : Nat} {l : List α} (hf : ∀ a ∈ l, (f a).length = esz) {i : Nat} (hi : i < l.length) : elem (rowsC f l) esz i = f (at0 l i) := by
  induction l generalizing i with
  | nil => simp at hi
  | cons a r ih =>
    have h2 := hf a (by simp)
    cases i with
    | zero => simp [elem, rowsC, at0, ← h2]
    | succ i =>
      have h1 := ih (fun b hb => hf b (by simp [hb])) (i := i) (by simpa using hi)
      rw [show at0 (a :: r) (i + 1) = at0 r i by simp [at0], ← h1]
      unfold elem
      rw [Nat.succ_mul, Nat.add_comm, ← List.drop_drop, rowsC, ← h2, List.drop_left]
theorem rows_flat {α : Type} {f : α → List Value} {l : List α} (hf : ∀ a ∈ l, NoRef (f a)) : NoRef (rowsC f l) := by
  induction l with
  | nil => intro v hv; simp [rowsC] at hv
  | cons a r ih => exact (hf a (by simp)).app (ih fun b hb => hf b (by simp [hb]))
theorem rows_of {α : Type} {f : α → List Value} {p : α → Prop} {esz n : Nat} {vs : List Value} (hl : vs.length = n * esz) (h : ∀ i, i < n → ∃ a, elem vs esz i = f a ∧ p a) : ∃ l, vs = rowsC f l ∧ l.length = n ∧ ∀ a ∈ l, p a := by
  induction n generalizing vs with
  | zero => exact ⟨[], by simpa [rowsC] using hl, rfl, by simp⟩
  | succ n ih =>
    obtain ⟨a, ha, hp⟩ := h 0 (by omega)
    rw [Nat.succ_mul] at hl
    obtain ⟨l, h1, h2, h3⟩ := ih (vs := vs.drop esz) (by simp; omega) fun i hi => by
      obtain ⟨b, hb, hq⟩ := h (i + 1) (by omega)
      refine ⟨b, ?_, hq⟩
      rw [← hb]
      unfold elem
      rw [List.drop_drop, Nat.succ_mul, Nat.add_comm]
    refine ⟨a :: l, ?_, by simp [h2], fun b hb => ?_⟩
    · rw [rowsC, ← ha, ← h1]
      simp [elem]
    · rcases List.mem_cons.1 hb with rfl | hb
      · exact hp
      · exact h3 b hb
theorem flat_cs {k : IntKind} {l : List Int} : NoRef (cs k l) := by
  intro v hv n
  obtain ⟨a, _, rfl⟩ := List.mem_map.1 hv
  exact old0_int
theorem SlR.get1 {H : Heap} {x : Value} {esz n : Nat} {vs : List Value} (h : SlR H x esz n vs) {i : Nat} (hi : i < n) : ∃ b off ver, idxAV esz x (.int .i64 (i : Int)) = some (adr b off ver) ∧ rd H b off ver esz = some (elem vs esz i) := by
  rcases h.is with ⟨rfl, rfl⟩ | ⟨b, off, ver, cap, rfl, h2, h3, _⟩
  · omega
  · exact ⟨b, _, ver, by rw [idxAV_slc, at_nat hi]; rfl, rd_part h3 (mul_next hi)⟩
def ixFB1 (esz : Nat) (g : Bool) : Cd :=
  (.seq
   (.reg [9] [
     ⟨none, (some 9), .bin .lss (.t 8) (.t 7), []⟩])
   (.seq
    (.cond (.t 9)
     .skip
     (.exit 0))
    (.seq
     (.block 1
      (.seq
       (.reg [5] [
         ⟨none, (some 10), .mov (.t 8), []⟩,
         ⟨none, (some 5), .mov (.t 10), []⟩])
       (.seq
        (.reg [16] [
          ⟨none, (some 11), .mov (.t 1), []⟩,
          ⟨none, (some 12), .mov (.t 0), []⟩,
          ⟨none, (some 13), .mov (.t 5), []⟩,
          ⟨none, (some 14), .idxA esz (.t 12) (.t 13), []⟩,
          ⟨none, (some 15), .ld esz g (.t 14), []⟩,
          ⟨none, (some 16), .callv (.t 11) [.t 15], []⟩])
        (.cond (.t 16)
         (.seq
          (.reg [4] [
            ⟨none, (some 17), .mov (.t 5), []⟩,
            ⟨none, (some 4), .mov (.t 17), []⟩])
          .ret)
         .skip))))
     (.reg [8] [
       ⟨none, (some 18), .bin .add (.t 8) (.c (.int .i64 1)), []⟩,
       ⟨none, (some 8), .mov (.t 18), []⟩]))))
def ixFK (esz : Nat) (g : Bool) : Cd :=
  (.seq
   (.reg [4] [
     ⟨none, (some 4), .mov (.c (.int .i64 0)), []⟩])
   (.seq
    (.seq
     (.reg [7, 8] [
       ⟨none, (some 6), .mov (.t 0), []⟩,
       ⟨none, (some 7), .len (.t 6), []⟩,
       ⟨none, (some 8), .mov (.c (.int .i64 0)), []⟩])
     (.block 0
      (.loop (ixFB1 esz g))))
    (.seq
     (.reg [4] [
       ⟨none, (some 4), .mov (.c (.int .i64 (-1))), []⟩])
     .ret)))
def ixFC (esz : Nat) (g : Bool) : Fn := { np := 2, nt := 19, kind := .pure, res := [.t 4], body := ixFK esz g }
def ctFK (ix : Nat) : Cd :=
  (.seq
   (.reg [4] [
     ⟨none, (some 4), .mov (.c (.bool false)), []⟩])
   (.seq
    (.reg [4] [
      ⟨none, (some 5), .mov (.t 0), []⟩,
      ⟨none, (some 6), .mov (.t 1), []⟩,
      ⟨none, (some 7), .call true ix [.t 5, .t 6], []⟩,
      ⟨none, (some 8), .bin .geq (.t 7) (.c (.int .i64 0)), []⟩,
      ⟨none, (some 4), .mov (.t 8), []⟩])
    .ret))
def ctFC (ix : Nat) : Fn := { np := 2, nt := 9, kind := .pure, res := [.t 4], body := ctFK ix }
/-- The first place with p below n, or -1. -/
def findN (p : Nat → Bool) (n : Nat) : Int := match (List.range n).find? p with
  | some i => i
  | none => -1
def anyN (p : Nat → Bool) (n : Nat) : Bool := (List.range n).any p
theorem findN_some {p : Nat → Bool} {n i : Nat} (hi : i < n) (hn : ∀ j, j < i → p j = false) (hp : p i = true) : findN p n = i := by
  unfold findN
  have : (List.range n).find? p = some i := by
    rw [List.find?_range_eq_some]
    exact ⟨hp, by simpa using hi, fun j hj => by simpa using hn j hj⟩
  rw [this]
theorem findN_none {p : Nat → Bool} {n : Nat} (hn : ∀ j, j < n → p j = false) : findN p n = -1 := by
  unfold findN
  have : (List.range n).find? p = none := by
    rw [List.find?_eq_none]
    intro x hx
    simp [hn x (by simpa using hx)]
  rw [this]
theorem findN_ge {p : Nat → Bool} {n : Nat} : decide (0 ≤ findN p n) = anyN p n := by
  unfold findN anyN
  cases h : (List.range n).find? p with
  | none =>
    rw [List.find?_eq_none] at h
    have : (List.range n).any p = false := by rw [List.any_eq_false]; exact h
    rw [this]; decide
  | some i =>
    have h1 := List.find?_some h
    have : (List.range n).any p = true := List.any_eq_true.2 ⟨i, List.mem_of_find?_eq_some h, h1⟩
    rw [this]; simp
theorem ixF_call {f esz : Nat} {g : Bool} (hf : tab f = some (.fn (ixFC esz g))) {pu : Bool} {H : Heap} {x F : Value} {n : Nat} {vs : List Value} (hx : SlR H x esz n vs) (hn : n ≤ 9223372036854775806) {p : Nat → Bool}
    (hF : ∀ i, i < n → ∃ v, ldv g (elem vs esz i) = some v ∧ callV (Call tab) H F [v] = some (.bool (p i), H)) : Call tab pu f [x, F] H = some (.int .i64 (findN p n), H) := by
  refine Call_wp hf (.inr rfl) rfl ?_
  simp [ixFC, ixFK, hx.lenV]
  refine WP_forH 8 n n rfl (by omega) (fun i e => e 0 = x ∧ e 1 = F ∧ e 7 = .int .i64 n ∧ ∀ j, j < i → p j = false) ?_ ?_ (by simp) (by simp)
  · rintro i e hi hlt e4 h8 ⟨h0, h1, h7, hnp⟩
    obtain ⟨b, off, ver, ha, hr⟩ := hx.get1 hi
    obtain ⟨v, hv, hc⟩ := hF i hi
    cases hp : p i with
    | true =>
      rw [hp] at hc
      simp [ixFB1, h8, h0, h1, h7, hlt, ha, hr, hv, hc, findN_some hi hnp hp]
    | false =>
      rw [hp] at hc
      simp [ixFB1, h8, h0, h1, h7, hlt, ha, hr, hv, hc, e4]
      exact upto_succ hnp hp
  · rintro e h8 ⟨h0, h1, h7, hnp⟩
    simp [ixFB1, h8, h7, findN_none hnp]
theorem ctF_call {f ix esz : Nat} {g : Bool} (hf : tab f = some (.fn (ctFC ix))) (hf2 : tab ix = some (.fn (ixFC esz g))) {pu : Bool} {H : Heap} {x F : Value} {n : Nat} {vs : List Value} (hx : SlR H x esz n vs) (hn : n ≤ 9223372036854775806) {p : Nat → Bool}
    (hF : ∀ i, i < n → ∃ v, ldv g (elem vs esz i) = some v ∧ callV (Call tab) H F [v] = some (.bool (p i), H)) : Call tab pu f [x, F] H = some (.bool (anyN p n), H) := by
  refine Call_wp hf (.inr rfl) rfl ?_
  simp [ctFC, ctFK, ixF_call hf2 hx hn hF, findN_ge]
theorem s547 : tab 547 = some (.fn (ixFC 1 false)) := t547
theorem s445 : tab 445 = some (.fn (ctFC 547)) := t445
theorem s474 : tab 474 = some (.fn (ixFC 12 true)) := t474
theorem s505 : tab 505 = some (.fn (ctFC 474)) := t505
abbrev u16' (n : Int) : Prop := 0 ≤ n ∧ n ≤ 65535
/-- A frame's form. -/
structure FrW (f : List Int) : Prop where
  len : f.length = 12
  ok : ∀ n ∈ f, u16' n
theorem FrW.nth {f : List Int} (h : FrW f) {i : Nat} (hi : i < 12) : u16' (nth f i) := h.ok _ (nth_mem (by rw [h.len]; exact hi))
def okRow (n : Int) : Bool := decide (n ≤ 4095)
def okF (f : List Int) : Bool := f.all okRow
theorem okF_true {f : List Int} (hl : f.length = 12) (h : ∀ i, i < 12 → okRow (nth f i) = true) : okF f = true := all_nth fun j hj => h j (by omega)
theorem okF_false {f : List Int} (hl : f.length = 12) {i : Nat} (hi : i < 12) (h : okRow (nth f i) = false) : okF f = false := all_false (nth_mem (by omega)) h
theorem call359 {pu : Bool} {H : Heap} {b off ver : Nat} {f : List Int} (hl : f.length = 12) (hr : rd H b off ver 12 = some (cs .u16 f)) : Call tab pu 359 [adr b off ver] H = some (.bool (okF f), H) := by
  refine Call_wp t359 (.inr rfl) rfl ?_
  simp [c359, k359]
  refine WP_forH 3 12 12 rfl (by omega) (fun i e => e 0 = adr b off ver ∧ ∀ j, j < i → okRow (nth f j) = true) ?_ ?_ (by simp) (by simp)
  · rintro i e hi hlt e4 h3 ⟨h0, hn⟩
    have d1 := rd_one hr hi
    cases hk : okRow (nth f i) with
    | true =>
      have : ¬ (4095 < nth f i) := by simp [okRow] at hk; omega
      simp [b359_1, h3, h0, hlt, hi, d1, this, e4]
      exact upto_succ hn hk
    | false =>
      have : 4095 < nth f i := by simp [okRow] at hk; omega
      simp [b359_1, h3, h0, hlt, hi, d1, this, okF_false hl hi hk]
  · rintro e h3 ⟨h0, hn⟩
    simp [b359_1, h3, okF_true hl hn]
theorem call446 {pu : Bool} {H : Heap} {n : Int} : Call tab pu 446 [.int .u16 n] H = some (.bool (!okRow n), H) := by
  refine Call_wp t446 (.inr rfl) rfl ?_
  have : decide (4095 < n) = !okRow n := by unfold okRow; by_cases h : n ≤ 4095 <;> simp [h] <;> omega
  simp [c446, k446, this]
theorem anyN_okF {f : List Int} (hl : f.length = 12) : anyN (fun i => !okRow (nth f i)) 12 = !okF f := by
  cases hk : okF f with
  | true =>
    have : anyN (fun i => !okRow (nth f i)) 12 = false := by
      unfold anyN
      rw [List.any_eq_false]
      intro i hi
      have := List.all_eq_true.1 (show f.all okRow = true from hk) _ (nth_mem (i := i) (by rw [hl]; simpa using hi))
      simp [this]
    rw [this]; rfl
  | false =>
    obtain ⟨x, hx, hp⟩ := List.all_eq_false.1 (show f.all okRow = false from hk)
    obtain ⟨i, hi, rfl⟩ := mem_nth hx
    have : anyN (fun i => !okRow (nth f i)) 12 = true := List.any_eq_true.2 ⟨i, by simp; omega, by simpa using hp⟩
    rw [this]; rfl
theorem call234 {pu : Bool} {H : Heap} {f : List Int} (hl : f.length = 12) : Call tab pu 234 [iv .u16 f] H = some (.bool (okF f), H) := by
  refine Call_wp t234 (.inr rfl) rfl ?_
  obtain ⟨G, hG⟩ : ∃ G, G = H ++ [⟨cs .u16 f, 1, 0, false⟩] := ⟨_, rfl⟩
  have hT : G.take H.length = H := by rw [hG]; simp
  have hs : slcPV G 12 1 (adr H.length 0 0) = some (slc H.length 0 0 12 12) := by rw [hG]; exact slcP_last rfl rfl (by simp [hl])
  have hr : SlR G (slc H.length 0 0 12 12) 1 12 (cs .u16 f) := ⟨by simp [hl], .inr ⟨_, 0, 0, 12, rfl, Nat.le_refl _, by rw [hG]; exact rd_last rfl (by simp [hl]), _, by rw [hG]; exact get_last, rfl, rfl⟩⟩
  have hc := ctF_call s445 s547 (pu := true) (F := .func (.func 446) #[] #[]) (p := fun i => !okRow (nth f i)) hr (by omega) fun i hi => ⟨.int .u16 (nth f i), by
    unfold elem; rw [Nat.mul_one, cs_one (by omega)]; rfl, by simp [call446]⟩
  rw [anyN_okF hl] at hc
  simp [c234, k234, hl, ← hG, hT, hs, hc]
theorem call506 {pu : Bool} {H : Heap} {f : List Int} (hl : f.length = 12) : Call tab pu 506 [iv .u16 f] H = some (.bool (!okF f), H) := by
  refine Call_wp t506 (.inr rfl) rfl ?_
  simp [c506, k506, hl, call234 hl]
def frC (f : List Int) : List Value := cs .u16 f
def bkC (b : List (List Int)) : List Value := rowsC frC b
/-- A book's form. -/
def BkW (b : List (List Int)) : Prop := ∀ f ∈ b, FrW f
def fr (b : List (List Int)) (i : Nat) : List Int := at0 b i
theorem BkW.fr {b : List (List Int)} (h : BkW b) {i : Nat} (hi : i < b.length) : FrW (fr b i) := h _ (at0_mem hi)
theorem bkC_length {b : List (List Int)} (h : BkW b) : (bkC b).length = b.length * 12 := rows_length (f := frC) (esz := 12) fun f hf => by simp [frC, (h f hf).len]
theorem bkC_elem {b : List (List Int)} (h : BkW b) {i : Nat} (hi : i < b.length) : elem (bkC b) 12 i = cs .u16 (fr b i) := rows_elem (f := frC) (esz := 12) (fun f hf => by simp [frC, (h f hf).len]) hi
theorem bkC_flat {b : List (List Int)} : NoRef (bkC b) := rows_flat fun _ _ => flat_cs
/-- A book in memory. -/
abbrev Bk (H : Heap) (x : Value) (b : List (List Int)) : Prop := SlR H x 12 b.length (bkC b)
theorem Bk.get {H : Heap} {x : Value} {b : List (List Int)} (h : Bk H x b) (hw : BkW b) {i : Nat} (hi : i < b.length) : ∃ q off ver, idxAV 12 x (.int .i64 (i : Int)) = some (adr q off ver) ∧ rd H q off ver 12 = some (cs .u16 (fr b i)) := by
  obtain ⟨q, off, ver, h1, h2⟩ := SlR.get1 h hi
  rw [bkC_elem hw hi] at h2
  exact ⟨q, off, ver, h1, h2⟩
def okFs (b : List (List Int)) : Bool := b.all okF
def okB (b : List (List Int)) : Bool := okFs b && decide (b.length ≤ 40)
theorem okFs_true {b : List (List Int)} (h : ∀ i, i < b.length → okF (fr b i) = true) : okFs b = true := by
  rw [okFs, List.all_eq_true]
  intro f hf
  obtain ⟨i, hi, rfl⟩ := List.getElem_of_mem hf
  have := h i hi
  rwa [show fr b i = b[i] from Option.some.inj ((at0_get hi).symm.trans (List.getElem?_eq_getElem hi))] at this
theorem okFs_false {b : List (List Int)} {i : Nat} (hi : i < b.length) (h : okF (fr b i) = false) : okFs b = false := by
  rw [okFs, List.all_eq_false]
  exact ⟨_, at0_mem hi, by rw [show at0 b i = fr b i from rfl, h]; decide⟩
theorem okFs_nth {b : List (List Int)} (h : okFs b = true) {i : Nat} (hi : i < b.length) : okF (fr b i) = true := List.all_eq_true.1 (show b.all okF = true from h) _ (at0_mem hi)
theorem call318 {pu : Bool} {H : Heap} {x : Value} {b : List (List Int)} (h : Bk H x b) (hw : BkW b) (hn : b.length ≤ 9223372036854775806) : Call tab pu 318 [x] H = some (.bool (okB b), H) := by
  refine Call_wp t318 (.inr rfl) rfl ?_
  simp [c318, k318]
  refine WP_forH 3 b.length _ rfl (by omega) (fun i e => e 0 = x ∧ ∀ j, j < i → okF (fr b j) = true) ?_ ?_ (by simp) (by simp)
  · rintro i e hi hlt e4 h3 ⟨h0, hnp⟩
    obtain ⟨q, off, ver, ha, hr⟩ := h.get hw hi
    have hc := call359 (pu := true) (hw.fr hi).len hr
    cases hk : okF (fr b i) with
    | true =>
      rw [hk] at hc
      simp [b318_1, h3, h0, hlt, h.lenV, ha, hc, e4]
      exact upto_succ hnp hk
    | false =>
      rw [hk] at hc
      simp [b318_1, h3, h0, hlt, h.lenV, ha, hc, okB, okFs_false hi hk]
  · rintro e h3 ⟨h0, hnp⟩
    have e1 : decide ((b.length : Int) ≤ 40) = decide (b.length ≤ 40) := by apply decide_eq_decide.2; omega
    simp [b318_1, h3, h0, h.lenV, okB, okFs_true hnp, e1]
theorem anyN_okFs {b : List (List Int)} : anyN (fun i => !okF (fr b i)) b.length = !okFs b := by
  cases hk : okFs b with
  | true =>
    have : anyN (fun i => !okF (fr b i)) b.length = false := by
      unfold anyN
      rw [List.any_eq_false]
      intro i hi
      simp [okFs_nth hk (i := i) (by simpa using hi)]
    rw [this]; rfl
  | false =>
    obtain ⟨f, hf, hp⟩ := List.all_eq_false.1 (show b.all okF = false from hk)
    obtain ⟨i, hi, rfl⟩ := List.getElem_of_mem hf
    have : anyN (fun i => !okF (fr b i)) b.length = true := List.any_eq_true.2 ⟨i, by simpa using hi, by
      rw [show fr b i = b[i] from Option.some.inj ((at0_get hi).symm.trans (List.getElem?_eq_getElem hi))]; simpa using hp⟩
    rw [this]; rfl
theorem call351 {pu : Bool} {H : Heap} {x : Value} {b : List (List Int)} (h : Bk H x b) (hw : BkW b) (hn : b.length ≤ 9223372036854775806) : Call tab pu 351 [x] H = some (.bool (okFs b), H) := by
  refine Call_wp t351 (.inr rfl) rfl ?_
  have hc := ctF_call s505 s474 (pu := true) (F := .func (.func 506) #[] #[]) (p := fun i => !okF (fr b i)) h hn fun i hi => ⟨iv .u16 (fr b i), by rw [bkC_elem hw hi]; rfl, by simp [call506 (hw.fr hi).len]⟩
  rw [anyN_okFs] at hc
  simp [c351, k351, hc]
theorem call316 {pu : Bool} {H : Heap} {x : Value} {b : List (List Int)} (h : Bk H x b) (hw : BkW b) (hn : b.length ≤ 9223372036854775806) : Call tab pu 316 [x] H = some (.bool (okB b), H) := by
  refine Call_wp t316 (.inr rfl) rfl ?_
  by_cases h1 : b.length ≤ 40
  · have h2 : (b.length : Int) ≤ 40 := by omega
    simp [c316, k316, h.lenV, h2, call351 h hw hn, okB, h1]
  · have h2 : ¬ ((b.length : Int) ≤ 40) := by omega
    simp [c316, k316, h.lenV, h2, okB, h1, skip]
/-- A row told place by place. -/
def tabN (n : Nat) (g : Nat → Int) : List Int := (List.range n).map g
theorem tabN_length {n : Nat} {g : Nat → Int} : (tabN n g).length = n := by simp [tabN]
theorem nth_tabN {n : Nat} {g : Nat → Int} {i : Nat} (h : i < n) : nth (tabN n g) i = g i := by
  apply nth_of; simp [tabN, h]
theorem tabN_ext {n : Nat} {g h : Nat → Int} (e : ∀ i, i < n → g i = h i) : tabN n g = tabN n h := by
  apply List.map_congr_left
  intro i hi
  exact e i (by simpa using hi)
theorem tabN_of {n : Nat} {g : Nat → Int} {l : List Int} (hl : l.length = n) (e : ∀ i, i < n → nth l i = g i) : l = tabN n g :=
  ext_nth (by rw [hl, tabN_length]) fun i hi => by rw [e i (by omega), nth_tabN (by omega)]
theorem tabN_set {n : Nat} {g h : Nat → Int} {r : Nat} {v : Int} (hr : r < n) (hv : h r = v) (e : ∀ i, i < n → i ≠ r → g i = h i) : (tabN n g).set r v = tabN n h :=
  tabN_of (by simp [tabN_length]) fun i hi => by
    rw [nth_set (by rw [tabN_length]; exact hr)]
    split
    · rename_i h1; subst h1; exact hv.symm
    · rename_i h1; rw [nth_tabN hi, e i hi (Ne.symm h1)]
/-- Two frames, row by row. -/
def mixF (op : Int → Int → Int) (a b : List Int) : List Int := tabN 12 fun j => op (nth a j) (nth b j)
theorem mixF_length {op : Int → Int → Int} {a b : List Int} : (mixF op a b).length = 12 := tabN_length
def mixU (op : Int → Int → Int) (a b : List Int) (i : Nat) : List Int := tabN 12 fun j => if j < i then op (nth a j) (nth b j) else nth a j
theorem mixU_length {op : Int → Int → Int} {a b : List Int} {i : Nat} : (mixU op a b i).length = 12 := tabN_length
theorem mixU_zero {op : Int → Int → Int} {a b : List Int} (h : a.length = 12) : mixU op a b 0 = a := (tabN_of h fun i _ => by simp).symm
theorem mixU_all {op : Int → Int → Int} {a b : List Int} : mixU op a b 12 = mixF op a b := tabN_ext fun i hi => by rw [if_pos hi]
theorem mixU_nth {op : Int → Int → Int} {a b : List Int} {i : Nat} (h : i < 12) : nth (mixU op a b i) i = nth a i := by rw [mixU, nth_tabN h, if_neg (by omega)]
theorem mixU_set {op : Int → Int → Int} {a b : List Int} {i : Nat} (h : i < 12) : (mixU op a b i).set i (op (nth a i) (nth b i)) = mixU op a b (i + 1) :=
  tabN_set h (by rw [if_pos (by omega)]) fun j _ hj => by
    by_cases h1 : j < i
    · rw [if_pos h1, if_pos (by omega)]
    · rw [if_neg h1, if_neg (by omega)]
def xorI (a b : Int) : Int := bitsOf .xor .u16 a b
theorem xorI_eq {a b : Int} : bitsOf .xor .u16 a b = xorI a b := rfl
theorem call443 {pu : Bool} {H : Heap} {F : Value} {op : Int → Int → Int} {a b : List Int} (ha : a.length = 12) (hb : b.length = 12) (hF : ∀ x y, callV (Call tab) H F [.int .u16 x, .int .u16 y] = some (.int .u16 (op x y), H)) :
    Call tab pu 443 [iv .u16 a, iv .u16 b, F] H = some (iv .u16 (mixF op a b), H) := by
  refine Call_wp t443 (.inr rfl) rfl ?_
  simp [c443, k443, zs_cs, agg_cs, ha]
  refine WP_forH 10 12 12 rfl (by omega) (fun i e => e 2 = F ∧ e 3 = iv .u16 (mixU op a b i) ∧ e 4 = iv .u16 b ∧ e 6 = iv .u16 (zr 12 0) ∧ e 9 = iv .u16 a) ?_ ?_ (by simp) (by simp [mixU_zero ha])
  · rintro i e hi hlt e4 h10 ⟨h2, h3, h4, h6, h9⟩
    have hl := mixU_length (op := op) (a := a) (b := b) (i := i)
    have e9 := stc_at (k := .u16) (l := mixU op a b i) (by omega) (mixU_set (op := op) (a := a) (b := b) hi)
    simp (disch := omega) [b443_1, h10, h2, h3, h4, h6, h9, hlt, hi, ha, hb, hF, hl, e9, e4]
  · rintro e h10 ⟨h2, h3, h4, h6, h9⟩
    have hz := stc_zr (k := .u16) (n := 12) (l := mixF op a b) mixF_length
    simp [b443_1, h10, h3, h6, mixU_all, mixF_length, hz, agg_cs]
theorem call512 {pu : Bool} {H : Heap} {a b : Int} : Call tab pu 512 [.int .u16 a, .int .u16 b] H = some (.int .u16 (xorI a b), H) := by
  refine Call_wp t512 (.inr rfl) rfl ?_
  simp [c512, k512, xorI]
theorem call367 {pu : Bool} {H : Heap} {a b : List Int} (ha : a.length = 12) (hb : b.length = 12) : Call tab pu 367 [iv .u16 a, iv .u16 b] H = some (iv .u16 (mixF xorI a b), H) := by
  refine Call_wp t367 (.inr rfl) rfl ?_
  have hz := stc_zr (k := .u16) (n := 12) (l := mixF xorI a b) mixF_length
  have hc := call443 (pu := true) (H := H) (F := .func (.func 512) #[] #[]) (op := xorI) ha hb fun x y => by simp [call512]
  simp [c367, k367, zs_cs, agg_cs, ha, hb, hc, mixF_length, hz]
/- Copies of books. -/
theorem call134 {pu : Bool} {H : Heap} {l : List Int} (hl : l.length = 12) : Call tab pu 134 [iv .u16 l] H = some (iv .u16 l, H) := by
  refine Call_wp t134 (.inr rfl) rfl ?_
  simp [c134, k134, zs_cs, agg_cs]
  refine WP_forH 4 12 12 rfl (by omega) (fun i e => e 1 = iv .u16 l ∧ e 3 = iv .u16 (cp l i) ∧ e 2 = iv .u16 (zr 12 0)) ?_ ?_ (by simp) (by simp [cp_zero hl])
  · rintro i e hi hx e4 h4 ⟨h1, h3, h2⟩
    have e5 : stc (iv .u16 (cp l i)) i [.int .u16 (nth l i)] = some (iv .u16 (cp l (i + 1))) := by rw [stc_one (by rw [cp_length] <;> omega) rfl, cp_set (by omega)]
    simp (disch := first | omega | assumption) [b134_1, h4, h1, h3, h2, hx, hi, e4, hl, e5]
  · rintro e h4 ⟨h1, h3, h2⟩
    have e5 : stc (iv .u16 (zr 12 0)) 0 (cs .u16 l) = some (iv .u16 l) := stc_all (by simp [hl])
    simp (disch := first | omega | assumption) [b134_1, h4, h3, h2, hl, e5, agg_cs, cp_all hl]
def bkF : List Int := [60201, 0, 0, 0, 0, 0, 0, 0, 0, 0, 0, 0]
def bkFC : List Value := cs .u16 bkF
theorem s103 : tab 103 = some (.fn szSC) := t103
theorem s105 : tab 105 = some (.fn (toSC 134 12 24 (zs 12 (.int .u16 0)) (.agg (zs 12 (.int .u16 0)) [(0, 1, .c (.int .u16 60201))]))) := t105
theorem s107 : tab 107 = some (.fn (inSC 121 12)) := t107
theorem s121 : tab 121 = some (.fn (eqSC 78 12)) := t121
theorem call105 {H : Heap} {x : Value} {b : List (List Int)} (hs : Bk H x b) (hw : BkW b) (hn : b.length ≤ 1000000) : CpF 105 H x 12 b.length (bkC b) bkFC := fun pu flag =>
  toS_call s105 (by simp) (by omega) (fun n0 e G => by simp [fill, splice, bkFC, bkF, zs_cs, zr]; rfl) rfl hs hn (fun i G hi => by rw [bkC_elem hw hi]; exact call134 (hw.fr hi).len) bkC_flat flat_cs
theorem call107 {pu : Bool} {H : Heap} {x y : Value} {b : List (List Int)} (hx : IsCp H x 12 b.length (bkC b) bkFC) (hy : IsCp H y 12 b.length (bkC b) bkFC) (hw : BkW b) (hn : b.length ≤ 1000000) : Call tab pu 107 [x, y] H = some (.bool true, H) :=
  inS_call s107 s121 hx hy hn (bkC_length hw) rfl (fun i hi => by rw [bkC_elem hw hi]; exact call78 (hw.fr hi).len) (call78 (l := bkF) rfl)
def foldF (op : Int → Int → Int) (z : List Int) (b : List (List Int)) (k : Nat) : List Int := itN (fun k s => mixF op s (fr b k)) z k
theorem foldF_zero {op : Int → Int → Int} {z : List Int} {b : List (List Int)} : foldF op z b 0 = z := itN_zero
theorem foldF_succ {op : Int → Int → Int} {z : List Int} {b : List (List Int)} {k : Nat} : foldF op z b (k + 1) = mixF op (foldF op z b k) (fr b k) := itN_succ
theorem foldF_length {op : Int → Int → Int} {z : List Int} {b : List (List Int)} {k : Nat} (hz : z.length = 12) : (foldF op z b k).length = 12 := by
  cases k with
  | zero => rw [foldF_zero, hz]
  | succ k => rw [foldF_succ]; exact mixF_length
theorem zz : stc (iv .u16 (zr 12 0)) 0 (cs .u16 (zr 12 0)) = some (iv .u16 (zr 12 0)) := stc_zr (by simp)
/- The parity. -/
def parF (b : List (List Int)) : List Int := foldF xorI (zr 12 0) b b.length
theorem call340 {pu : Bool} {H : Heap} {x : Value} {b : List (List Int)} (h : Bk H x b) (hw : BkW b) (hn : b.length ≤ 1000000) : Call tab pu 340 [x] H = some (iv .u16 (parF b), H) := by
  refine Call_wp t340 (.inr rfl) rfl ?_
  simp [c340, k340, zs_cs, agg_cs, fill, zz, h.lenV]
  refine WP_forH 9 b.length _ rfl (by omega) (fun i e => e 2 = iv .u16 (zr 12 0) ∧ e 3 = iv .u16 (foldF xorI (zr 12 0) b i) ∧ e 7 = x ∧ e 8 = .int .i64 b.length) ?_ ?_ (by simp) (by simp [foldF_zero])
  · rintro i e hi hlt e4 h9 ⟨h2, h3, h7, h8⟩
    obtain ⟨q, off, ver, ha, hr⟩ := h.get hw hi
    have hf := (hw.fr hi).len
    have hl := foldF_length (op := xorI) (z := zr 12 0) (b := b) (k := i) (by simp)
    have hst : stc (iv .u16 (zr 12 0)) 0 (cs .u16 (fr b i)) = some (iv .u16 (fr b i)) := stc_zr hf
    have hst2 : stc (iv .u16 (foldF xorI (zr 12 0) b i)) 0 (cs .u16 (mixF xorI (foldF xorI (zr 12 0) b i) (fr b i))) = some (iv .u16 (mixF xorI (foldF xorI (zr 12 0) b i) (fr b i))) := stc_all (by rw [mixF_length, hl])
    simp [b340_1, h9, h2, h3, h7, h8, hlt, ha, hr, zs_cs, agg_cs, hf, hst, hl, call367 hl hf, mixF_length, hst2, e4, foldF_succ]
  · rintro e h9 ⟨h2, h3, h7, h8⟩
    have hl := foldF_length (op := xorI) (z := zr 12 0) (b := b) (k := b.length) (by simp)
    have hz := stc_zr (k := .u16) hl
    simp [b340_1, h9, h2, h3, h8, hl, hz, agg_cs, parF]
theorem call339 {pu : Bool} {H : Heap} {x : Value} {b : List (List Int)} (h : Bk H x b) (hw : BkW b) (hn : b.length ≤ 1000000) : Call tab pu 339 [x] H = some (iv .u16 (parF b), H) := by
  refine Call_wp t339 (.inr rfl) rfl ?_
  simp [c339, k339, zs_cs, agg_cs, fill, zz]
  refine WP_forH 4 b.length _ rfl (by omega) (fun i e => e 0 = x ∧ e 2 = iv .u16 (zr 12 0) ∧ e 3 = iv .u16 (foldF xorI (zr 12 0) b i)) ?_ ?_ (by simp) (by simp [foldF_zero])
  · rintro i e hi hlt e4 h4 ⟨h0, h2, h3⟩
    obtain ⟨q, off, ver, ha, hr⟩ := h.get hw hi
    have hf := (hw.fr hi).len
    have hl := foldF_length (op := xorI) (z := zr 12 0) (b := b) (k := i) (by simp)
    simp [b339_2, h4, h0, hlt, h.lenV]
    refine WP_forH 5 12 12 rfl (by omega) (fun j e => e 0 = x ∧ e 2 = iv .u16 (zr 12 0) ∧ e 4 = .int .i64 i ∧ e 3 = iv .u16 (mixU xorI (foldF xorI (zr 12 0) b i) (fr b i) j)) ?_ ?_ (by simp) (by simp [h0, h2, h3, h4, mixU_zero hl])
    · rintro j e hj hjj e5 h5 ⟨h0, h2, h4, h3⟩
      have hm := mixU_length (op := xorI) (a := foldF xorI (zr 12 0) b i) (b := fr b i) (i := j)
      have hn := mixU_nth (op := xorI) (a := foldF xorI (zr 12 0) b i) (b := fr b i) hj
      have e9 := stc_at (k := .u16) (l := mixU xorI (foldF xorI (zr 12 0) b i) (fr b i) j) (by omega) (mixU_set (op := xorI) (a := foldF xorI (zr 12 0) b i) (b := fr b i) hj)
      simp (disch := omega) [b339_1, h5, h0, h2, h4, h3, hjj, hj, ha, rd_one hr hj, hm, hn, xorI_eq, e9, e5]
    · rintro e h5 ⟨h0, h2, h4, h3⟩
      simp [b339_1, h5, h0, h2, h4, h3, mixU_all, e4, foldF_succ]
  · rintro e h4 ⟨h0, h2, h3⟩
    have hl := foldF_length (op := xorI) (z := zr 12 0) (b := b) (k := b.length) (by simp)
    have hz := stc_zr (k := .u16) hl
    simp [b339_2, h4, h0, h2, h3, h.lenV, hl, hz, agg_cs, parF]
theorem parF_length {b : List (List Int)} : (parF b).length = 12 := foldF_length (by simp)
theorem Pre.set {H G : Heap} {b : Nat} {k : Blk} (p : Pre H G) (hb : H.length ≤ b) : Pre H (G.set b k) := by
  obtain ⟨L, rfl⟩ := p
  exact ⟨L.set (b - H.length) k, by rw [List.set_append_right _ _ hb]⟩
/-- A list of a call's own that grows. -/
def Gr (H G : Heap) (x : Value) (esz n : Nat) (vs : List Value) : Prop := ∃ b ver, x = slc b 0 ver n n ∧ G[b]? = some ⟨vs, esz, ver, false⟩ ∧ H.length ≤ b ∧ vs.length = n * esz ∧ Pre H G
theorem Gr.new {H G : Heap} {esz : Nat} (p : Pre H G) : Gr H (G ++ [⟨[], esz, 0, false⟩]) (slc G.length 0 0 0 0) esz 0 [] := ⟨_, _, rfl, get_last, p.len, by simp, p.app⟩
theorem Gr.pre {H G : Heap} {x : Value} {esz n : Nat} {vs : List Value} (g : Gr H G x esz n vs) : Pre H G := by obtain ⟨b, ver, _, _, _, _, p⟩ := g; exact p
theorem Gr.app {H G L : Heap} {x : Value} {esz n : Nat} {vs : List Value} (g : Gr H G x esz n vs) : Gr H (G ++ L) x esz n vs := by
  obtain ⟨b, ver, rfl, h1, h2, h3, h4⟩ := g
  exact ⟨b, ver, rfl, by rw [List.getElem?_append_left (List.getElem?_eq_some_iff.1 h1).1]; exact h1, h2, h3, h4.app⟩
theorem Gr.sl {H G : Heap} {x : Value} {esz n : Nat} {vs : List Value} (g : Gr H G x esz n vs) : SlR G x esz n vs := by
  obtain ⟨b, ver, rfl, h1, h2, h3, h4⟩ := g
  exact ⟨h3, .inr ⟨b, 0, ver, n, rfl, Nat.le_refl _, by rw [rd_at h1 rfl (by simp [h3])]; simp [take_all (Nat.le_of_eq h3)], _, h1, rfl, rfl⟩⟩
theorem appendTo_grow {n0 : Nat} {wb : Bool} {G : Heap} {esz bytes b ver len n : Nat} {cs : List Value} {k : Blk} (h : G[b]? = some k) (hv : ver = k.ver) (hr : k.ro = false) (hm : may n0 wb b cs = true) (he : k.esz = esz) (hl : len * esz = k.cells.length) (hn : 0 < n)
    (hb : (len + n) * bytes ≤ roomMax) : appendTo n0 wb esz bytes G (slc b 0 ver len len) n cs = some (slc b 0 (ver + 1) (len + n) (len + n), G.set b { k with cells := k.cells ++ cs, ver := ver + 1 }) := by
  unfold appendTo slc
  simp only []
  rw [if_neg (by omega), h]
  simp only []
  exact if_pos ⟨hv, hr, hm, he, trivial, hl, hb⟩
theorem Gr.fin {H G : Heap} {x : Value} {esz n : Nat} {vs : List Value} (g : Gr H G x esz n vs) (hn : NoRef vs) : finish H.length G [x] = (slc H.length 0 0 n n, H ++ [⟨vs, esz, 0, false⟩]) := by
  obtain ⟨b, ver, rfl, h1, h2, h3, h4⟩ := g
  exact finish_slc h4 h2 h1 rfl rfl hn.all
theorem xorI_ok {a b : Int} : u16' (xorI a b) := by
  have e0 : IntKind.bits .u16 = 16 := rfl
  unfold xorI bitsOf
  simp only []
  have : (BitVec.ofInt (IntKind.bits .u16) a ^^^ BitVec.ofInt (IntKind.bits .u16) b).toNat < 2 ^ 16 := by rw [e0]; exact BitVec.isLt _
  rw [wrapu16 (by omega)]; omega
theorem mixF_W {op : Int → Int → Int} {a b : List Int} (h : ∀ x y, u16' (op x y)) : FrW (mixF op a b) := ⟨mixF_length, fun n hn => by
  obtain ⟨i, hi, rfl⟩ := mem_nth hn
  rw [mixF_length] at hi
  rw [mixF, nth_tabN hi]; exact h _ _⟩
theorem xor_W {a b : List Int} : FrW (mixF xorI a b) := mixF_W fun _ _ => xorI_ok
/-- A list of which one knows the block. -/
def Own (G : Heap) (r : Value) (β : Option Nat) (n0 esz n : Nat) (vs : List Value) : Prop := vs.length = n * esz ∧ match β with
  | none => r = .slice none 0 0 ∧ n = 0
  | some b => n0 ≤ b ∧ ∃ ver cap rest, r = slc b 0 ver n cap ∧ n ≤ cap ∧ G[b]? = some ⟨vs ++ rest, esz, ver, false⟩
theorem Own.sl {G : Heap} {r : Value} {β : Option Nat} {n0 esz n : Nat} {vs : List Value} (h : Own G r β n0 esz n vs) : SlR G r esz n vs := by
  obtain ⟨hl, h⟩ := h
  cases β with
  | none => exact ⟨hl, .inl h⟩
  | some b =>
    obtain ⟨_, ver, cap, rest, rfl, hc, hg⟩ := h
    exact ⟨hl, .inr ⟨b, 0, ver, cap, rfl, hc, by rw [rd_at hg rfl (by simp [hl])]; simp [← hl], _, hg, rfl, rfl⟩⟩
theorem Own.pre {G G' : Heap} {r : Value} {β : Option Nat} {n0 esz n : Nat} {vs : List Value} (p : Pre G G') (h : Own G r β n0 esz n vs) : Own G' r β n0 esz n vs := by
  obtain ⟨L, rfl⟩ := p
  obtain ⟨hl, h⟩ := h
  refine ⟨hl, ?_⟩
  cases β with
  | none => exact h
  | some b =>
    obtain ⟨hb, ver, cap, rest, rfl, hc, hg⟩ := h
    exact ⟨hb, ver, cap, rest, rfl, hc, by rw [List.getElem?_append_left (List.getElem?_eq_some_iff.1 hg).1]; exact hg⟩
theorem Own.lt {G : Heap} {r : Value} {b : Nat} {n0 esz n : Nat} {vs : List Value} (h : Own G r (some b) n0 esz n vs) : n0 ≤ b ∧ b < G.length := by
  obtain ⟨hl, hb, ver, cap, rest, rfl, hc, hg⟩ := h
  exact ⟨hb, (List.getElem?_eq_some_iff.1 hg).1⟩
/-- Two heaps that differ in one block at most. -/
structure SameB (G G' : Heap) (β : Option Nat) : Prop where
  len : G'.length = G.length
  get : ∀ b, β ≠ some b → G'[b]? = G[b]?
theorem SameB.refl {G : Heap} {β : Option Nat} : SameB G G β := ⟨rfl, fun _ _ => rfl⟩
theorem SameB.set {G : Heap} {b : Nat} {k : Blk} : SameB G (G.set b k) (some b) := ⟨by simp, fun b' h => by rw [List.getElem?_set_ne]; intro h2; exact h (by rw [h2])⟩
theorem Own.same {G G' : Heap} {r : Value} {β β' : Option Nat} {n0 esz n : Nat} {vs : List Value} (s : SameB G G' β') (h : Own G r β n0 esz n vs) (hne : ∀ b, β = some b → β' ≠ some b) : Own G' r β n0 esz n vs := by
  obtain ⟨hl, h⟩ := h
  refine ⟨hl, ?_⟩
  cases β with
  | none => exact h
  | some b =>
    obtain ⟨hb, ver, cap, rest, rfl, hc, hg⟩ := h
    exact ⟨hb, ver, cap, rest, rfl, hc, by rw [s.get b (hne b rfl)]; exact hg⟩
theorem pre_of_get {H G : Heap} (hl : H.length ≤ G.length) (h : ∀ i, i < H.length → G[i]? = H[i]?) : Pre H G := by
  refine ⟨G.drop H.length, ?_⟩
  have : G.take H.length = H := List.ext_getElem? fun i => by
    rcases Nat.lt_or_ge i H.length with h1 | h1
    · rw [List.getElem?_take, if_pos h1, h i h1]
    · rw [List.getElem?_eq_none (by simp; omega), List.getElem?_eq_none h1]
  conv => lhs; rw [← List.take_append_drop H.length G, this]
theorem Pre.get {H G : Heap} (p : Pre H G) {i : Nat} (hi : i < H.length) : G[i]? = H[i]? := by
  obtain ⟨L, rfl⟩ := p
  rw [List.getElem?_append_left hi]
theorem SameB.pre {H G G' : Heap} {β : Option Nat} (s : SameB G G' β) (p : Pre H G) (hb : ∀ b, β = some b → H.length ≤ b) : Pre H G' :=
  pre_of_get (by rw [s.len]; exact p.len) fun i hi => by rw [s.get i fun h => by have := hb i h; omega, p.get hi]
theorem Own.below {G : Heap} {r : Value} {β : Option Nat} {n0 esz n : Nat} {vs : List Value} (h : Own G r β n0 esz n vs) : ∀ b, β = some b → n0 ≤ b := by
  rintro b rfl; exact h.2.1
/-- A copy, and its block. -/
theorem cp_own {f : Nat} {pu : Bool} {H : Heap} {x : Value} {esz n : Nat} {vs fc : List Value} (hl : vs.length = n * esz) (hf : fc.length = esz) (h : CpF f H x esz n vs fc) :
    ∃ x' G, Call tab pu f [x, .bool false] H = some (x', G) ∧ IsCp G x' esz n vs fc ∧ Own G x' (some H.length) H.length esz n vs ∧ Pre H G := by
  have h := h pu false
  rw [if_neg (by simp)] at h
  exact ⟨_, _, h, IsCp.mk, ⟨hl, Nat.le_refl _, 0, _, _, rfl, by omega, get_last⟩, Pre.one⟩
theorem set_self {G : Heap} {b : Nat} {k : Blk} (h : G[b]? = some k) : G.set b k = G := by
  apply List.ext_getElem?
  intro i
  rw [List.getElem?_set]
  split
  · rename_i h1; subst h1; rw [if_pos (List.getElem?_eq_some_iff.1 h).1, h]
  · rfl
/- Marks. -/
def mkC (ms : Nat → Value) (D : List Value) (k : Nat) : List Value := (List.range k).map ms ++ D.drop k
theorem mkC_zero {ms : Nat → Value} {D : List Value} : mkC ms D 0 = D := by simp [mkC]
theorem mkC_length {ms : Nat → Value} {D : List Value} {k : Nat} (h : k ≤ D.length) : (mkC ms D k).length = D.length := by simp [mkC]; omega
theorem mkC_step {ms : Nat → Value} {D : List Value} {k : Nat} (h : k < D.length) : splice (mkC ms D k) k [ms k] = mkC ms D (k + 1) := by
  have e1 : ((List.range k).map ms).length = k := by simp
  unfold splice mkC
  rw [List.take_append_of_le_length (by omega), List.take_of_length_le (by omega), List.drop_append, List.drop_eq_nil_of_le (by simp), List.range_succ]
  simp
def mkL (ms : Nat → Value) (m : Nat) : List Value := (List.range m).map ms
theorem mkC_all {ms : Nat → Value} {vs rest : List Value} {m : Nat} (h : vs.length = m) : mkC ms (vs ++ rest) m = mkL ms m ++ rest := by subst h; simp [mkC, mkL]
theorem mkL_length {ms : Nat → Value} {m : Nat} : (mkL ms m).length = m := by simp [mkL]
theorem mkL_cell {ms : Nat → Value} {m k : Nat} (h : k < m) : ((mkL ms m).drop k).take 1 = [ms k] := by
  rw [List.drop_eq_getElem_cons (by simpa [mkL] using h)]
  simp [mkL]
/-- What writing marks comes to. -/
def MkF (f esz w : Nat) (ms : Int → Nat → Value) : Prop := ∀ (G : Heap) (r : Value) (β : Option Nat) (n0 n : Nat) (vs : List Value) (c : Int), Own G r β n0 esz n vs → n ≤ 1000000 → 0 ≤ c → c ≤ 1000 →
  ∃ G', Call tab false f [r, .int .i64 c] G = some (.int .i64 (c + (n * w : Nat)), G') ∧ SameB G G' β ∧ Own G' r β n0 esz n (mkL (ms c) (n * esz))
def HdF (f esz w : Nat) (ms : Int → Nat → Value) : Prop := ∀ (pu : Bool) (G : Heap) (r : Value) (β : Option Nat) (n0 n : Nat) (c : Int), Own G r β n0 esz n (mkL (ms c) (n * esz)) → n ≤ 1000000 → 0 ≤ c → c ≤ 1000 →
  Call tab pu f [r, .int .i64 c] G = some (.int .i64 (c + (n * w : Nat)), G)
def msB (c : Int) (i : Nat) : Value := .int .u16 (IntKind.wrap .u16 (c + i))
theorem mark122 : MkF 122 12 12 msB := by
  intro G r β n0 n vs c ho hn hc0 hc1
  cases β with
  | none =>
    obtain ⟨hl, rfl, rfl⟩ := ho
    refine ⟨G, Call_wp t122 (.inl rfl) rfl ?_, .refl, by simp [mkL], rfl, rfl⟩
    simp [c122, k122]
    refine WP_forH 5 0 0 rfl (by omega) (fun i e => e 0 = .slice none 0 0 ∧ e 1 = .int .i64 c) ?_ ?_ (by simp) (by simp)
    · intro i e hi; omega
    · rintro e h5 ⟨h0, h1⟩
      simp [b122_2, h5, h0, h1]
  | some b =>
    obtain ⟨hl, hb, ver, cap, rest, rfl, hcap, hg⟩ := ho
    have hD : n * 12 ≤ (vs ++ rest).length := by simp [hl]
    refine ⟨G.set b ⟨mkL (msB c) (n * 12) ++ rest, 12, ver, false⟩, Call_wp t122 (.inl rfl) rfl ?_, .set, mkL_length, hb, ver, cap, rest, rfl, hcap, get_set hg⟩
    simp [c122, k122]
    have hlen : ∀ k, (G.set b ⟨mkC (msB c) (vs ++ rest) k, 12, ver, false⟩)[b]? = some ⟨mkC (msB c) (vs ++ rest) k, 12, ver, false⟩ := fun k => get_set hg
    refine WP_count 5 n n rfl (fun i e G' => e 0 = slc b 0 ver n cap ∧ e 1 = .int .i64 (c + (i * 12 : Nat)) ∧ G' = G.set b ⟨mkC (msB c) (vs ++ rest) (i * 12), 12, ver, false⟩) (by omega) ?_ ?_ (by simp) ⟨by simp, by simp, by rw [Nat.zero_mul, mkC_zero]; exact (set_self hg).symm⟩
    · rintro i e _ _ hi hii e4 h5 ⟨h0, h1, rfl⟩
      simp [b122_2, h5, h0, hii]
      refine WP_count 6 12 12 rfl (fun j e G' => e 0 = slc b 0 ver n cap ∧ e 5 = .int .i64 i ∧ e 1 = .int .i64 (c + (i * 12 + j : Nat)) ∧ G' = G.set b ⟨mkC (msB c) (vs ++ rest) (i * 12 + j), 12, ver, false⟩) (by omega) ?_ ?_ (by simp) ⟨by simp [h0], by simp [h5], by simp [h1], rfl⟩
      · rintro j e _ _ hj hjj e5 h6 ⟨h0, h5, h1, rfl⟩
        have hk : i * 12 + j < (vs ++ rest).length := by omega
        have hms : Value.int .u16 (IntKind.wrap .u16 (c + (i * 12 + j : Nat))) = msB c (i * 12 + j) := rfl
        have e6 : IntKind.wrap .i64 (c + (i * 12 + j : Nat) + 1) = c + (i * 12 + (j + 1) : Nat) := by rw [wrap64 (by omega)]; omega
        have hw := wr_at (n0 := (G.set b ⟨mkC (msB c) (vs ++ rest) (i * 12 + j), 12, ver, false⟩).length) (wb := true) (off := i * 12 + j) (vs := [msB c (i * 12 + j)]) (ver := ver) (hlen (i * 12 + j)) rfl rfl (by simp [may, msB]) (by simp only [List.length_singleton]; rw [mkC_length (by omega)]; omega)
        rw [mkC_step hk, set_set] at hw
        have hlset : (G.set b ⟨mkC (msB c) (vs ++ rest) (i * 12 + j), 12, ver, false⟩).length = G.length := by simp
        rw [hlset] at hw
        have hcell : cellsOf (msB c (i * 12 + j)) = [msB c (i * 12 + j)] := rfl
        simp [b122_1, h6, h0, h5, h1, hjj, hi, hj, hms, hcell, hw, wbOf, e6, e5, -Int.natCast_add, ← Nat.add_assoc]
      · rintro e _ _ h6 ⟨h0, h5, h1, rfl⟩
        simp [b122_1, h6, h0, h5, h1, e4, Nat.add_mul]
        omega
    · rintro e _ _ h5 ⟨h0, h1, rfl⟩
      simp [b122_2, h5, h0, h1, mkC_all hl]
theorem held123 : HdF 123 12 12 msB := by
  intro pu G r β n0 n c ho hn hc0 hc1
  have hs := ho.sl
  refine Call_wp t123 (.inr rfl) rfl ?_
  simp [c123, k123]
  refine WP_forH 5 n n rfl (by omega) (fun i e => e 0 = r ∧ e 1 = .int .i64 (c + (i * 12 : Nat))) ?_ ?_ (by simp) (by simp)
  · rintro i e hi hii e4 h5 ⟨h0, h1⟩
    obtain ⟨q, off, ver, ha, hr⟩ := hs.get1 hi
    simp [b123_2, h5, h0, hs.lenV, hii]
    refine WP_forH 6 12 12 rfl (by omega) (fun j e => e 0 = r ∧ e 5 = .int .i64 i ∧ e 1 = .int .i64 (c + (i * 12 + j : Nat))) ?_ ?_ (by simp) ⟨by simp [h0], by simp [h5], by simp [h1]⟩
    · rintro j e hj hjj e5 h6 ⟨h0, h5, h1⟩
      have hk : i * 12 + j < n * 12 := by omega
      have hd := rd_part hr (o := j) (m := 1) (by omega)
      have hel : ((elem (mkL (msB c) (n * 12)) 12 i).drop j).take 1 = [msB c (i * 12 + j)] := by
        unfold elem
        rw [List.drop_take, List.take_take, List.drop_drop, Nat.min_eq_left (by omega)]
        exact mkL_cell hk
      rw [hel] at hd
      have e6 : IntKind.wrap .i64 (c + (i * 12 + j : Nat) + 1) = c + (i * 12 + (j + 1) : Nat) := by rw [wrap64 (by omega)]; omega
      simp [b123_1, h6, h0, h5, h1, hjj, hj, ha, hd, msB, e6, e5, -Int.natCast_add, ← Nat.add_assoc]
    · rintro e h6 ⟨h0, h5, h1⟩
      simp [b123_1, h6, h0, h5, h1, e4, Nat.add_mul]
      omega
  · rintro e h5 ⟨h0, h1⟩
    simp [b123_2, h5, h0, hs.lenV, h1]
/-- Lists that hold the same are the same. -/
def EqF (f esz n : Nat) (vs : List Value) : Prop := ∀ (G : Heap) (x y : Value), SlR G x esz n vs → SlR G y esz n vs → Call tab true f [x, y] G = some (.bool true, G)
theorem elder_pre {H G G' : Heap} {v : Value} (p : Pre H G) (p' : Pre H G') {wb : Bool} : elder H.length wb G (v, G') = some (v, G') := elder_same (by rw [p.take, p'.take])
theorem eqS_EqF {f eqE esz n : Nat} {vs : List Value} (hf : tab f = some (.fn (eqSC eqE esz))) (hn : n ≤ 1000000000) (hE : ∀ G i, i < n → Call tab true eqE [agg (elem vs esz i), agg (elem vs esz i)] G = some (.bool true, G)) : EqF f esz n vs :=
  fun G x y hx hy => eqS_call hf hx hy hn fun i hi => hE G i hi
/-- A list that has grown, handed back with a code. -/
theorem Gr.fin2 {H G : Heap} {x : Value} {esz n : Nat} {vs : List Value} (g : Gr H G x esz n vs) (hn : NoRef vs) {c : Int} : finish H.length G [x, .int .i64 c] = (tup [slc H.length 0 0 n n, .int .i64 c], H ++ [⟨vs, esz, 0, false⟩]) := by
  obtain ⟨b, ver, rfl, h1, h2, h3, h4⟩ := g
  have hne : old1 H.length (slc b 0 ver n n) = false := by
    show (true && decide (b < H.length)) = false
    simp; omega
  have : pack H.length G [slc b 0 ver n n, .int .i64 c] [] [] = some ([slc H.length 0 0 n n, .int .i64 c], [⟨vs, esz, 0, false⟩]) := by
    rw [pack, if_neg (by rw [hne]; decide)]
    show (match G[b]? with
      | some k => if ([] : List Nat).contains b = false ∧ ver = k.ver ∧ k.ro = false ∧ k.cells.all (old0 H.length) = true then (pack H.length G [.int .i64 c] [b] ([] ++ [{ k with ver := 0 }])).map fun (q : List Value × List Blk) => (slc (H.length + ([] : List Blk).length) 0 0 n n :: q.1, q.2) else none
      | none => none) = _
    rw [h1]
    simp only []
    rw [if_pos ⟨by simp, trivial, trivial, hn.all⟩]
    simp
  rw [finish_some this, h4.take]; rfl
theorem own_new {H : Heap} {esz n : Nat} {vs : List Value} (hl : vs.length = n * esz) : Own (H ++ [⟨vs, esz, 0, false⟩]) (slc H.length 0 0 n n) (some H.length) H.length esz n vs :=
  ⟨hl, Nat.le_refl _, 0, n, [], rfl, Nat.le_refl _, by rw [List.append_nil]; exact get_last⟩
theorem finish_nil2 {H G : Heap} {c : Int} : finish H.length G [.slice none 0 0, .int .i64 c] = (tup [.slice none 0 0, .int .i64 c], G.take H.length) := finish_vs (by simp)
theorem eqBk {b : List (List Int)} (hw : ∀ f ∈ b, f.length = 12) (hn : b.length ≤ 1000000) : EqF 121 12 b.length (bkC b) :=
  eqS_EqF s121 (by omega) fun G i hi => by
    have : elem (bkC b) 12 i = cs .u16 (fr b i) := rows_elem (f := frC) (esz := 12) (fun f hf => by simp [frC, hw f hf]) hi
    rw [this]; exact call78 (hw _ (at0_mem hi))
/-- A list that grows, in a block that one knows. -/
def GrB (H G : Heap) (b : Nat) (x : Value) (esz n : Nat) (vs : List Value) : Prop := ∃ ver, x = slc b 0 ver n n ∧ G[b]? = some ⟨vs, esz, ver, false⟩ ∧ H.length ≤ b ∧ vs.length = n * esz ∧ Pre H G
theorem GrB.gr {H G : Heap} {b : Nat} {x : Value} {esz n : Nat} {vs : List Value} (g : GrB H G b x esz n vs) : Gr H G x esz n vs := by
  obtain ⟨ver, h⟩ := g
  exact ⟨b, ver, h⟩
def RsX (f : Nat) (extra : List Value) (esz n : Nat) (vs : List Value) (eszR nR : Nat) (vsR : List Value) (c : Int) : Prop := ∀ (G : Heap) (y : Value), SlR G y esz n vs →
  ∃ r G' β, Call tab true f (y :: extra) G = some (tup [r, .int .i64 c], G') ∧ Pre G G' ∧ Own G' r β G.length eszR nR vsR
/-- The steps of a law of a function from a list and more to a list. -/
theorem lbx_steps {to it sp im mA eR mR hR wA wR : Nat} {extra : List Value} {H : Heap} {x : Value} {esz n eszR nR : Nat} {vs fc vsR : List Value} {c : Int} {msA msR : Int → Nat → Value}
    (hs : SlR H x esz n vs) (hbig : n ≤ 1000000) (hl : vs.length = n * esz) (hfc : fc.length = esz)
    (hcp : ∀ G, SlR G x esz n vs → CpF to G x esz n vs fc) (hit : ∀ G y z, IsCp G y esz n vs fc → IsCp G z esz n vs fc → Call tab true it [y, z] G = some (.bool true, G))
    (hsp : RsX sp extra esz n vs eszR nR vsR c) (him : RsX im extra esz n vs eszR nR vsR c) (heq : EqF eR eszR nR vsR) (hmA : MkF mA esz wA msA) (hmR : MkF mR eszR wR msR) (hhR : HdF hR eszR wR msR) (hnR : nR ≤ 1000000) :
    ∃ x1 G1 rs G1' x2 G2 ri G2' x3 G3 G4 G5 x4 G6 r4 G7, Call tab true to [x, .bool false] H = some (x1, G1) ∧ Call tab true sp (x1 :: extra) G1 = some (tup [rs, .int .i64 c], G1') ∧
      Call tab true to [x, .bool false] G1' = some (x2, G2) ∧ Call tab true im (x2 :: extra) G2 = some (tup [ri, .int .i64 c], G2') ∧ Call tab true eR [ri, rs] G2' = some (.bool true, G2') ∧
      Call tab true to [x, .bool false] G2' = some (x3, G3) ∧ Call tab true it [x2, x3] G3 = some (.bool true, G3) ∧
      (Call tab false mA [x2, .int .i64 101] G3).bind (elder H.length false G3) = some (.int .i64 (101 + (n * wA : Nat)), G4) ∧ Call tab true eR [ri, rs] G4 = some (.bool true, G4) ∧
      (Call tab false mR [ri, .int .i64 101] G4).bind (elder H.length false G4) = some (.int .i64 (101 + (nR * wR : Nat)), G5) ∧ Call tab true hR [ri, .int .i64 101] G5 = some (.int .i64 (101 + (nR * wR : Nat)), G5) ∧
      Call tab true to [x, .bool true] G5 = some (x4, G6) ∧ Call tab true im (x4 :: extra) G6 = some (tup [r4, .int .i64 c], G7) ∧ Call tab true eR [r4, rs] G7 = some (.bool true, G7) ∧
      Call tab true hR [ri, .int .i64 101] G7 = some (.int .i64 (101 + (nR * wR : Nat)), G7) ∧ Pre H G7 ∧ SlR G1 x1 esz n vs := by
  obtain ⟨x1, G1, q1, k1, o1, p1⟩ := cp_own (pu := true) hl hfc (hcp H hs)
  obtain ⟨rs, G1', βs, w1, p1', os⟩ := hsp G1 x1 o1.sl
  have P1 := p1.trans p1'
  obtain ⟨x2, G2, q2, k2, o2, p2⟩ := cp_own (pu := true) hl hfc (hcp G1' (hs.pre P1))
  obtain ⟨ri, G2', βi, w2, p2', oi⟩ := him G2 x2 o2.sl
  have P2 := (P1.trans p2).trans p2'
  have os2 := (os.pre p2).pre p2'
  have e1 := heq G2' ri rs oi.sl os2.sl
  obtain ⟨x3, G3, q3, k3, o3, p3⟩ := cp_own (pu := true) hl hfc (hcp G2' (hs.pre P2))
  have P3 := P2.trans p3
  have e2 := hit G3 x2 x3 ((k2.pre p2').pre p3) k3
  have os3 := os2.pre p3
  have oi3 := oi.pre p3
  have o23 := (o2.pre p2').pre p3
  obtain ⟨G4, w3, s4, o24⟩ := hmA G3 x2 _ _ n vs 101 o23 hbig (by omega) (by omega)
  have hG1 : H.length ≤ G1'.length := P1.len
  have P4 : Pre H G4 := s4.pre P3 fun b hb => by cases hb; exact hG1
  have hb2 : G1'.length < G2.length := o2.lt.2
  have os4 : Own G4 rs βs G1.length eszR nR vsR := os3.same s4 fun b hb he => by
    subst hb
    have := os.lt
    cases he; omega
  have oi4 : Own G4 ri βi G2.length eszR nR vsR := oi3.same s4 fun b hb he => by
    subst hb
    have := oi.lt
    cases he; omega
  have e3 := heq G4 ri rs oi4.sl os4.sl
  obtain ⟨G5, w4, s5, oi5⟩ := hmR G4 ri βi _ nR vsR 101 oi4 hnR (by omega) (by omega)
  have hG2 : H.length ≤ G2.length := (P1.trans p2).len
  have P5 : Pre H G5 := s5.pre P4 fun b hb => Nat.le_trans hG2 (oi.below b hb)
  have os5 : Own G5 rs βs G1.length eszR nR vsR := os4.same s5 fun b hb he => by
    subst hb
    have h1 := os.lt
    have h2 := oi.below b he
    have h3 := p2.len
    omega
  have w5 := hhR true G5 ri βi _ nR 101 oi5 hnR (by omega) (by omega)
  obtain ⟨x4, G6, q4, r4, p6⟩ := cp_true (pu := true) hl hfc (hcp G5 (hs.pre P5))
  obtain ⟨r4', G7, β4, w6, p7, o4⟩ := him G6 x4 r4
  have P7 := (P5.trans p6).trans p7
  have os7 := (os5.pre p6).pre p7
  have oi7 := (oi5.pre p6).pre p7
  have e4 := heq G7 r4' rs o4.sl os7.sl
  have w7 := hhR true G7 ri βi _ nR 101 oi7 hnR (by omega) (by omega)
  refine ⟨x1, G1, rs, G1', x2, G2, ri, G2', x3, G3, G4, G5, x4, G6, r4', G7, q1, w1, q2, w2, e1, q3, e2, ?_, e3, ?_, w5, q4, w6, e4, w7, P7, o1.sl⟩
  · rw [w3]; exact elder_pre P3 P4
  · rw [w4]; exact elder_pre P4 P5
/-- All of a list behind another one. -/
theorem Gr.append {H G : Heap} {x y : Value} {esz n m bytes : Nat} {vs ws : List Value} (g : Gr H G x esz n vs) (hy : SlR G y esz m ws) (hb : (n + m) * bytes ≤ roomMax) {wb : Bool} :
    ∃ x' G', ((srcOf esz G y).bind fun q => appendTo H.length wb esz bytes G x q.1 q.2) = some (x', G') ∧ ∃ b ver, (x' = slc b 0 ver (n + m) (n + m) ∧ H.length ≤ b ∧ G' = G.set b ⟨vs ++ ws, esz, ver, false⟩) ∧ Gr H G' x' esz (n + m) (vs ++ ws) := by
  obtain ⟨b, ver, rfl, h1, h2, h3, h4⟩ := g
  have e1 : srcOf esz G y = some (m, ws) := by
    rcases hy.is with ⟨rfl, rfl⟩ | ⟨c, off, v, cap, rfl, _, hr, _⟩
    · have : ws = [] := by have := hy.size; simpa using this
      rw [this]; rfl
    · show (rd G c off v (m * esz)).map (fun cs => (m, cs)) = _
      rw [hr]; rfl
  rw [e1, Option.bind_some]
  have hsz := hy.size
  rcases Nat.eq_zero_or_pos m with h0 | h0
  · subst h0
    have : ws = [] := by simpa using hsz
    subst this
    have hset : G.set b ⟨vs ++ [], esz, ver, false⟩ = G := by rw [List.append_nil]; exact set_self h1
    refine ⟨slc b 0 ver n n, G, ?_, b, ver, ⟨rfl, h2, hset.symm⟩, b, ver, rfl, by rw [List.append_nil]; exact h1, h2, by simpa using h3, h4⟩
    unfold appendTo slc
    simp only []
    rw [if_pos (by omega), wr_at h1 rfl rfl (by simp [may, h2]) (by simp [h3])]
    have : splice vs (0 + n * esz) [] = vs := by simp [splice]
    rw [this]
    show some (slc b 0 ver (n + 0) n, G.set b ⟨vs, esz, ver, false⟩) = _
    rw [set_self h1]; rfl
  · refine ⟨slc b 0 (ver + 1) (n + m) (n + m), G.set b ⟨vs ++ ws, esz, ver + 1, false⟩, appendTo_grow h1 rfl rfl (by simp [may, h2]) rfl h3.symm h0 hb, b, ver + 1, ⟨rfl, h2, rfl⟩, b, ver + 1, rfl, get_set h1, h2, by simp [h3, hsz, Nat.add_mul], h4.set h2⟩
/-- A place in a list that grows. -/
theorem Gr.place {H G : Heap} {x : Value} {esz n : Nat} {vs : List Value} (g : Gr H G x esz n vs) {i : Nat} (hi : i < n) : ∃ b ver, idxAV esz x (.int .i64 (i : Int)) = some (adr b (i * esz) ver) ∧ H.length ≤ b ∧ G[b]? = some ⟨vs, esz, ver, false⟩ ∧
    (∀ o m, o + m ≤ esz → rd G b (i * esz + o) ver m = some ((elem vs esz i).drop o |>.take m)) ∧
    ∀ o ws wb, o + ws.length ≤ esz → wr H.length wb G b (i * esz + o) ver ws = some (G.set b ⟨splice vs (i * esz + o) ws, esz, ver, false⟩) ∧ Gr H (G.set b ⟨splice vs (i * esz + o) ws, esz, ver, false⟩) x esz n (splice vs (i * esz + o) ws) := by
  obtain ⟨b, ver, rfl, h1, h2, h3, h4⟩ := g
  have hm := mul_next (esz := esz) hi
  refine ⟨b, ver, by rw [idxAV_slc, at_nat hi]; simp, h2, h1, fun o m ho => ?_, fun o ws wb ho => ⟨?_, b, ver, rfl, get_set h1, h2, ?_, h4.set h2⟩⟩
  · rw [rd_at h1 rfl (by simp only []; omega)]
    unfold elem
    rw [List.drop_take, List.take_take, List.drop_drop, Nat.min_eq_left (by omega)]
  · rw [wr_at h1 rfl rfl (by simp [may, h2]) (by simp only []; omega)]
  · rw [← h3]; simp [splice]; omega
theorem GrB.append {H G : Heap} {b : Nat} {x y : Value} {esz n m bytes : Nat} {vs ws : List Value} (g : GrB H G b x esz n vs) (hy : SlR G y esz m ws) (hb : (n + m) * bytes ≤ roomMax) {wb : Bool} :
    ∃ x' G', ((srcOf esz G y).bind fun q => appendTo H.length wb esz bytes G x q.1 q.2) = some (x', G') ∧ GrB H G' b x' esz (n + m) (vs ++ ws) ∧ G'.length = G.length ∧ ∀ b', b' ≠ b → G'[b']? = G[b']? := by
  obtain ⟨ver, rfl, h1, h2, h3, h4⟩ := g
  have e1 : srcOf esz G y = some (m, ws) := by
    rcases hy.is with ⟨rfl, rfl⟩ | ⟨c, off, v, cap, rfl, _, hr, _⟩
    · have : ws = [] := by have := hy.size; simpa using this
      rw [this]; rfl
    · show (rd G c off v (m * esz)).map (fun cs => (m, cs)) = _
      rw [hr]; rfl
  rw [e1, Option.bind_some]
  have hsz := hy.size
  rcases Nat.eq_zero_or_pos m with h0 | h0
  · subst h0
    have : ws = [] := by simpa using hsz
    subst this
    refine ⟨slc b 0 ver n n, G, ?_, ⟨ver, rfl, by rw [List.append_nil]; exact h1, h2, by simpa using h3, h4⟩, rfl, fun _ _ => rfl⟩
    unfold appendTo slc
    simp only []
    rw [if_pos (by omega), wr_at h1 rfl rfl (by simp [may, h2]) (by simp [h3])]
    have : splice vs (0 + n * esz) [] = vs := by simp [splice]
    rw [this]
    show some (slc b 0 ver (n + 0) n, G.set b ⟨vs, esz, ver, false⟩) = _
    rw [set_self h1]; rfl
  · refine ⟨slc b 0 (ver + 1) (n + m) (n + m), G.set b ⟨vs ++ ws, esz, ver + 1, false⟩, appendTo_grow h1 rfl rfl (by simp [may, h2]) rfl h3.symm h0 hb, ⟨ver + 1, rfl, get_set h1, h2, by simp [h3, hsz, Nat.add_mul], h4.set h2⟩, by simp, fun b' hne => ?_⟩
    rw [List.getElem?_set_ne fun h => hne h.symm]
theorem GrB.place {H G : Heap} {b : Nat} {x : Value} {esz n : Nat} {vs : List Value} (g : GrB H G b x esz n vs) {i : Nat} (hi : i < n) : ∃ ver, idxAV esz x (.int .i64 (i : Int)) = some (adr b (i * esz) ver) ∧
    (∀ o m, o + m ≤ esz → rd G b (i * esz + o) ver m = some ((elem vs esz i).drop o |>.take m)) ∧
    ∀ o ws wb, o + ws.length ≤ esz → wr H.length wb G b (i * esz + o) ver ws = some (G.set b ⟨splice vs (i * esz + o) ws, esz, ver, false⟩) ∧ GrB H (G.set b ⟨splice vs (i * esz + o) ws, esz, ver, false⟩) b x esz n (splice vs (i * esz + o) ws) := by
  obtain ⟨ver, rfl, h1, h2, h3, h4⟩ := g
  have hm := mul_next (esz := esz) hi
  refine ⟨ver, by rw [idxAV_slc, at_nat hi]; simp, fun o m ho => ?_, fun o ws wb ho => ⟨?_, ver, rfl, get_set h1, h2, ?_, h4.set h2⟩⟩
  · rw [rd_at h1 rfl (by simp only []; omega)]
    unfold elem
    rw [List.drop_take, List.take_take, List.drop_drop, Nat.min_eq_left (by omega)]
  · rw [wr_at h1 rfl rfl (by simp [may, h2]) (by simp only []; omega)]
  · rw [← h3]; simp [splice]; omega
/- Books as rows of numbers. -/
theorem bkC_flat' {b : List (List Int)} : bkC b = cs .u16 b.flatten := by
  induction b with
  | nil => rfl
  | cons f r ih => rw [bkC, rowsC, ← bkC, ih]; simp [frC, cs]
theorem cs_inj {k : IntKind} {a b : List Int} (h : cs k a = cs k b) : a = b := by
  have := congrArg (List.map fun v => match v with | .int _ n => n | _ => (0 : Int)) h
  simpa [cs, Function.comp_def] using this
theorem flat_len {b : List (List Int)} (hw : ∀ f ∈ b, f.length = 12) : b.flatten.length = b.length * 12 := by
  have := rows_length (f := frC) (esz := 12) (l := b) fun f hf => by simp [frC, hw f hf]
  rw [show rowsC frC b = bkC b from rfl, bkC_flat', length_cs] at this
  exact this
theorem flat_sub {b : List (List Int)} (hw : ∀ f ∈ b, f.length = 12) {i : Nat} (hi : i < b.length) : sub b.flatten (i * 12) 12 = fr b i := by
  have : elem (bkC b) 12 i = cs .u16 (fr b i) := rows_elem (f := frC) (esz := 12) (fun f hf => by simp [frC, hw f hf]) hi
  rw [bkC_flat', elem, cs_sub] at this
  exact cs_inj this
theorem flat_nth {b : List (List Int)} (hw : ∀ f ∈ b, f.length = 12) {i j : Nat} (hi : i < b.length) (hj : j < 12) : nth b.flatten (i * 12 + j) = nth (fr b i) j := by
  rw [← flat_sub hw hi, nth_sub hj]
theorem fr_set {b : List (List Int)} {i j : Nat} {f : List Int} (hj : j < b.length) : fr (b.set i f) j = if i = j then f else fr b j := by
  have h1 := at0_get (l := b.set i f) (i := j) (by simpa using hj)
  rw [List.getElem?_set] at h1
  split at h1
  · rename_i h2; subst h2
    rw [if_pos hj] at h1
    rw [if_pos rfl]; exact (Option.some.inj h1).symm
  · rename_i h2
    rw [if_neg h2, at0_get hj] at *
    exact (Option.some.inj h1).symm
theorem set_len12 {b : List (List Int)} (hw : ∀ f ∈ b, f.length = 12) {i : Nat} {f : List Int} (hf : f.length = 12) : ∀ g ∈ b.set i f, g.length = 12 := by
  intro g hg
  rcases List.mem_or_eq_of_mem_set hg with h | h
  · exact hw g h
  · rw [h]; exact hf
theorem bkC_write {b : List (List Int)} (hw : ∀ f ∈ b, f.length = 12) {i : Nat} (hi : i < b.length) {k : Nat} {vs : List Int} (hk : k + vs.length ≤ 12) : splice (bkC b) (i * 12 + k) (cs .u16 vs) = bkC (b.set i (wrt (fr b i) k vs)) := by
  have hfl : (fr b i).length = 12 := hw _ (at0_mem hi)
  have hwl : (wrt (fr b i) k vs).length = 12 := by rw [wrt_length (by omega), hfl]
  have hw2 := set_len12 hw (i := i) hwl
  have l1 := flat_len hw
  have l2 := flat_len hw2
  rw [List.length_set] at l2
  have hm := mul_next (esz := 12) hi
  rw [bkC_flat', bkC_flat', splice_cs]
  congr 1
  refine ext_nth (by rw [wrt_length (by omega)]; omega) fun p hp => ?_
  rw [wrt_length (by omega), l1] at hp
  have hp1 : p / 12 < b.length := by omega
  have e1 : p = p / 12 * 12 + p % 12 := by omega
  rw [nth_wrt (by omega)]
  have e2 := flat_nth hw2 (i := p / 12) (j := p % 12) (by simpa using hp1) (by omega)
  rw [← e1, fr_set hp1] at e2
  have e3 := flat_nth hw (i := p / 12) (j := p % 12) hp1 (by omega)
  rw [← e1] at e3
  rw [e2]
  by_cases h1 : i = p / 12
  · rw [if_pos h1, nth_wrt (by omega)]
    by_cases h2 : k ≤ p % 12 ∧ p % 12 < k + vs.length
    · rw [if_pos h2, if_pos ⟨by omega, by omega⟩]; congr 1; omega
    · rw [if_neg h2, if_neg (by omega), e3, ← h1]
  · rw [if_neg h1, if_neg (by omega), e3]
theorem wrt_one {l : List Int} {k : Nat} {v : Int} (h : k < l.length) : wrt l k [v] = l.set k v := by
  unfold wrt
  rw [List.set_eq_take_append_cons_drop, if_pos h]; simp
theorem wrt_all {l vs : List Int} (h : l.length = vs.length) : wrt l 0 vs = vs := by simp [wrt, ← h]
theorem xorI_nat {n m : Nat} (h1 : n ≤ 65535) (h2 : m ≤ 65535) : xorI n m = ((n ^^^ m : Nat) : Int) := by
  have e0 : IntKind.bits .u16 = 16 := rfl
  unfold xorI bitsOf
  simp only []
  have e1 : (BitVec.ofInt (IntKind.bits .u16) (n : Int) ^^^ BitVec.ofInt (IntKind.bits .u16) (m : Int)).toNat = n ^^^ m := by
    rw [BitVec.toNat_xor, e0, BitVec.ofInt_natCast, BitVec.ofInt_natCast, BitVec.toNat_ofNat, BitVec.toNat_ofNat, Nat.mod_eq_of_lt (show n < 2 ^ 16 by omega), Nat.mod_eq_of_lt (show m < 2 ^ 16 by omega)]
  have e2 : n ^^^ m < 2 ^ 16 := Nat.xor_lt_two_pow (by omega) (by omega)
  rw [e1, wrapu16 (by omega)]
theorem xorI_mix {a p g : Int} (ha : u16' a) (hp : u16' p) (hg : u16' g) : xorI a (xorI p g) = xorI (xorI p a) g := by
  obtain ⟨n, rfl⟩ := Int.eq_ofNat_of_zero_le ha.1
  obtain ⟨m, rfl⟩ := Int.eq_ofNat_of_zero_le hp.1
  obtain ⟨k, rfl⟩ := Int.eq_ofNat_of_zero_le hg.1
  have h1 : m ^^^ k < 2 ^ 16 := Nat.xor_lt_two_pow (by omega) (by omega)
  have h2 : m ^^^ n < 2 ^ 16 := Nat.xor_lt_two_pow (by omega) (by omega)
  rw [xorI_nat (by omega) (by omega), xorI_nat (by omega) (by omega), xorI_nat (by omega) (by omega), xorI_nat (by omega) (by omega)]
  congr 1
  rw [← Nat.xor_assoc, Nat.xor_comm n m]
theorem foldX_W {b : List (List Int)} {k : Nat} : FrW (foldF xorI (zr 12 0) b k) := by
  cases k with
  | zero => rw [foldF_zero]; exact ⟨by simp, fun n hn => by
      have := List.eq_of_mem_replicate (show n ∈ List.replicate 12 (0 : Int) from hn)
      omega⟩
  | succ k => rw [foldF_succ]; exact xor_W
/-- The page that is restored. -/
def resF (b : List (List Int)) (f : List Int) (i : Nat) : List Int := mixF xorI (mixF xorI (parF b) (fr b i)) f
theorem resF_length {b : List (List Int)} {f : List Int} {i : Nat} : (resF b f i).length = 12 := mixF_length
def resB (b : List (List Int)) (f : List Int) (p : Int) : List (List Int) := if okB b = true ∧ okF f = true ∧ 0 ≤ p ∧ p < b.length then b.set p.toNat (resF b f p.toNat) else []
def resC (b : List (List Int)) (f : List Int) (p : Int) : Int := if okB b = true ∧ okF f = true then if 0 ≤ p ∧ p < b.length then 0 else 2 else 1
theorem resB_W {b : List (List Int)} {f : List Int} {p : Int} (hw : BkW b) : ∀ g ∈ resB b f p, g.length = 12 := by
  unfold resB; split
  · exact set_len12 (fun g hg => (hw g hg).len) resF_length
  · intro g hg; simp at hg
theorem resB_len {b : List (List Int)} {f : List Int} {p : Int} (hn : b.length ≤ 1000000) : (resB b f p).length ≤ 1000000 := by
  unfold resB; split
  · simpa using hn
  · simp
theorem resB_cells {b : List (List Int)} {f : List Int} {p : Int} (hw : BkW b) : (bkC (resB b f p)).length = (resB b f p).length * 12 := rows_length (f := frC) (esz := 12) fun g hg => by simp [frC, resB_W hw g hg]
theorem call365 {pu : Bool} {H : Heap} {x : Value} {n : Nat} (h : lenV x = some (.int .i64 n)) (hn : n ≤ 1000000) {p : Int} : Call tab pu 365 [x, .int .i64 p] H = some (.bool (decide (0 ≤ p ∧ p < n)), H) := by
  refine Call_wp t365 (.inr rfl) rfl ?_
  have e1 : IntKind.wrap .i64 ((n : Int) - 1) = (n : Int) - 1 := wrap64 (by omega)
  have e2 : decide (p ≤ (n : Int) - 1) = decide (p < n) := by apply decide_eq_decide.2; omega
  simp [c365, k365, h, e1, call295, e2]
theorem isSlc {H : Heap} {x : Value} {esz n : Nat} {vs : List Value} (h : SlR H x esz n vs) (hn : 0 < n) : ∃ b off ver cap, x = slc b off ver n cap := by
  rcases h.is with ⟨_, h0⟩ | ⟨b, off, ver, cap, h, _⟩
  · omega
  · exact ⟨b, off, ver, cap, h⟩
theorem roomA {n m : Nat} (h : n ≤ 1000000) (hm : m ≤ 64) : (0 + n) * m ≤ roomMax := by
  have : roomMax = 140737488355328 := rfl
  have h2 : (0 + n) * m ≤ 1000000 * 64 := Nat.mul_le_mul (by omega) hm
  omega
theorem call366 {pu : Bool} {H : Heap} {x : Value} {b : List (List Int)} (h : Bk H x b) (hw : BkW b) (hn : b.length ≤ 1000000) (h0 : 0 < b.length) : Call tab pu 366 [x] H = some (slc H.length 0 0 b.length b.length, H ++ [⟨bkC b, 12, 0, false⟩]) := by
  refine Call_wp t366 (.inr rfl) rfl ?_
  obtain ⟨q, off, ver, cap, hx⟩ := isSlc h h0
  have hnil : eqV .n x (.slice none 0 0) = some false := by rw [hx]; rfl
  obtain ⟨x', G', hap, c, v, hx', hg⟩ := (Gr.new (H := H) (esz := 12) .refl).append (h.app (L := [⟨[], 12, 0, false⟩])) (roomA (m := 24) hn (by omega)) (wb := false)
  rw [Nat.zero_add, List.nil_append] at hg
  have hf := hg.fin bkC_flat
  simp [c366, k366, hnil, fill, rep, hap, hf, wbOf]
end Fb
