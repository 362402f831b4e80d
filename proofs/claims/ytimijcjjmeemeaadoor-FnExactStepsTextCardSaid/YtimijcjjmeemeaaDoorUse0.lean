/- What each function computes. -/
import Derived.Test.YtimijcjjmeemeaaDoorTab
import Derived.Test.YtimijcjjmeemeaaDoorPl
set_option linter.unusedVariables false
set_option linter.unusedSimpArgs false
namespace Fb
open Go
theorem call304 {pu : Bool} {a b c : Int} {H : Heap} : Call tab pu 304 [.int .i64 a, .int .i64 b, .int .i64 c] H = some (.bool (decide (b ≤ a ∧ a ≤ c)), H) := by
  refine Call_wp t304 (.inr rfl) rfl ?_
  by_cases h : b ≤ a <;> simp [c304, k304, h, skip]
theorem call295 {pu : Bool} {a b c : Int} {H : Heap} : Call tab pu 295 [.int .i64 a, .int .i64 b, .int .i64 c] H = some (.bool (decide (b ≤ a ∧ a ≤ c)), H) := by
  refine Call_wp t295 (.inr rfl) rfl ?_
  by_cases h : b ≤ a <;> simp [c295, k295, h, skip]
/-- A number that fits. -/
abbrev i16 (n : Int) : Prop := -32768 ≤ n ∧ n ≤ 32767
def okL (n : Int) : Bool := decide (0 ≤ n ∧ n ≤ 1000)
def okAll (l : List Int) : Bool := l.all okL
theorem upto_succ {p : Nat → Prop} {i : Nat} (h : ∀ j, j < i → p j) (hi : p i) : ∀ j, j < i + 1 → p j := by
  intro j hj
  rcases Nat.lt_or_ge j i with h1 | h1
  · exact h j h1
  · obtain rfl : j = i := by omega
    exact hi
/-- The first m numbers of a row are turned. -/
def part (f : Int → Int) (m : Nat) (l : List Int) : List Int := (l.take m).map f ++ l.drop m
def bit (x : Nat) : Int := 2 ^ x
def szSK  : Cd :=
  (.seq
   (.reg [4] [
     ⟨none, (some 4), .mov (.c (.int .i64 0)), []⟩])
   (.seq
    (.reg [1] [
      ⟨none, (some 5), .mov (.t 1), []⟩,
      ⟨none, (some 6), .mov (.t 0), []⟩,
      ⟨none, (some 7), .len (.t 6), []⟩,
      ⟨none, (some 8), .bin .sub (.t 5) (.t 7), []⟩,
      ⟨none, (some 1), .mov (.t 8), []⟩])
    (.seq
     (.seq
      (.reg [10] [
        ⟨none, (some 9), .mov (.t 1), []⟩,
        ⟨none, (some 10), .bin .lss (.t 9) (.c (.int .i64 0)), []⟩])
      (.cond (.t 10)
       (.seq
        (.reg [4] [
          ⟨none, (some 4), .mov (.c (.int .i64 (-1))), []⟩])
        .ret)
       .skip))
     (.seq
      (.reg [4] [
        ⟨none, (some 11), .mov (.t 1), []⟩,
        ⟨none, (some 4), .mov (.t 11), []⟩])
      .ret))))
def szSC  : Fn := { np := 2, nt := 12, kind := .pure, res := [.t 4], body := szSK  }
def toSB1 (toE : Nat) (esz : Nat) (bytes : Nat) (z : List Value) (fo : Op1) : Cd :=
  (.seq
   (.seq
    (.reg [24] [
      ⟨none, (some 21), .mov (.t 6), []⟩,
      ⟨none, (some 22), .mov (.t 0), []⟩,
      ⟨none, (some 23), .len (.t 22), []⟩,
      ⟨none, (some 24), .bin .lss (.t 21) (.t 23), []⟩])
    (.cond (.t 24)
     .skip
     (.exit 0)))
   (.seq
    (.block 1
     (.reg [] [
       ⟨none, (some 27), .mov (.t 5), []⟩,
       ⟨none, (some 28), .mov (.t 6), []⟩,
       ⟨none, (some 29), .mov (.t 0), []⟩,
       ⟨none, (some 30), .mov (.t 6), []⟩,
       ⟨none, (some 31), .idxA esz (.t 29) (.t 30), []⟩,
       ⟨none, (some 32), .ld esz true (.t 31), []⟩,
       ⟨none, (some 33), .call true toE [.t 32], []⟩,
       ⟨none, (some 34), .idxA esz (.t 27) (.t 28), []⟩,
       ⟨none, none, .st esz (.t 34) (.t 33), []⟩]))
    (.reg [6] [
      ⟨none, (some 25), .mov (.t 6), []⟩,
      ⟨none, (some 26), .bin .add (.t 25) (.c (.int .i64 1)), []⟩,
      ⟨none, (some 6), .mov (.t 26), []⟩])))
def toSB2 (toE : Nat) (esz : Nat) (bytes : Nat) (z : List Value) (fo : Op1) : Cd :=
  (.seq
   (.seq
    (.reg [40] [
      ⟨none, (some 37), .mov (.t 7), []⟩,
      ⟨none, (some 38), .mov (.t 5), []⟩,
      ⟨none, (some 39), .len (.t 38), []⟩,
      ⟨none, (some 40), .bin .lss (.t 37) (.t 39), []⟩])
    (.cond (.t 40)
     .skip
     (.exit 2)))
   (.seq
    (.block 3
     (.reg [] [
       ⟨none, (some 43), .mov (.t 5), []⟩,
       ⟨none, (some 44), .mov (.t 7), []⟩,
       ⟨none, (some 45), fo, []⟩,
       ⟨none, (some 46), .idxA esz (.t 43) (.t 44), []⟩,
       ⟨none, none, .st esz (.t 46) (.t 45), []⟩]))
    (.reg [7] [
      ⟨none, (some 41), .mov (.t 7), []⟩,
      ⟨none, (some 42), .bin .add (.t 41) (.c (.int .i64 1)), []⟩,
      ⟨none, (some 7), .mov (.t 42), []⟩])))
def toSK (toE : Nat) (esz : Nat) (bytes : Nat) (z : List Value) (fo : Op1) : Cd :=
  (.seq
   (.reg [4] [
     ⟨none, (some 4), .mov (.c (.slice none 0 0)), []⟩])
   (.seq
    (.seq
     (.reg [13] [
       ⟨none, (some 8), .mov (.t 1), []⟩,
       ⟨none, (some 9), .mov (.t 8), []⟩,
       ⟨(some (9, true)), (some 10), .mov (.t 0), []⟩,
       ⟨(some (9, true)), (some 11), .len (.t 10), []⟩,
       ⟨(some (9, true)), (some 12), .bin .eql (.t 11) (.c (.int .i64 0)), []⟩,
       ⟨none, (some 13), .pick (.t 9) (.t 12) (.c (.bool false)), []⟩])
     (.cond (.t 13)
      (.seq
       (.reg [4] [
         ⟨none, (some 4), .mov (.c (.slice none 0 0)), []⟩])
       .ret)
      .skip))
    (.seq
     (.reg [5] [
       ⟨none, (some 14), .mov (.t 0), []⟩,
       ⟨none, (some 15), .len (.t 14), []⟩,
       ⟨none, (some 16), .mov (.t 0), []⟩,
       ⟨none, (some 17), .len (.t 16), []⟩,
       ⟨none, (some 18), .call true 296 [.t 17], []⟩,
       ⟨none, (some 19), .bin .add (.t 15) (.t 18), []⟩,
       ⟨none, (some 20), .mkS esz bytes z (.t 19) (.t 19), []⟩,
       ⟨none, (some 5), .mov (.t 20), []⟩])
     (.seq
      (.seq
       (.reg [6] [
         ⟨none, (some 6), .mov (.c (.int .i64 0)), []⟩])
       (.block 0
        (.loop (toSB1 toE esz bytes z fo))))
      (.seq
       (.seq
        (.reg [7] [
          ⟨none, (some 35), .mov (.t 0), []⟩,
          ⟨none, (some 36), .len (.t 35), []⟩,
          ⟨none, (some 7), .mov (.t 36), []⟩])
        (.block 2
         (.loop (toSB2 toE esz bytes z fo))))
       (.seq
        (.reg [4] [
          ⟨none, (some 47), .mov (.t 5), []⟩,
          ⟨none, (some 48), .mov (.t 0), []⟩,
          ⟨none, (some 49), .len (.t 48), []⟩,
          ⟨none, (some 50), .slcA esz (.t 47) none (some (.t 49)) none, []⟩,
          ⟨none, (some 4), .mov (.t 50), []⟩])
        .ret))))))
def toSC (toE : Nat) (esz : Nat) (bytes : Nat) (z : List Value) (fo : Op1) : Fn := { np := 2, nt := 51, kind := .pure, res := [.t 4], body := toSK toE esz bytes z fo }
def inSK (eqS : Nat) (esz : Nat) : Cd :=
  (.seq
   (.reg [4] [
     ⟨none, (some 4), .mov (.c (.bool false)), []⟩])
   (.seq
    (.reg [5] [
      ⟨none, (some 6), .mov (.t 1), []⟩,
      ⟨none, (some 7), .len (.t 6), []⟩,
      ⟨none, (some 8), .mov (.t 1), []⟩,
      ⟨none, (some 9), .len (.t 8), []⟩,
      ⟨none, (some 10), .call true 296 [.t 9], []⟩,
      ⟨none, (some 11), .bin .add (.t 7) (.t 10), []⟩,
      ⟨none, (some 5), .mov (.t 11), []⟩])
    (.seq
     (.reg [4] [
       ⟨none, (some 12), .mov (.t 0), []⟩,
       ⟨none, (some 13), .len (.t 12), []⟩,
       ⟨none, (some 14), .mov (.t 1), []⟩,
       ⟨none, (some 15), .len (.t 14), []⟩,
       ⟨none, (some 16), .bin .eql (.t 13) (.t 15), []⟩,
       ⟨none, (some 17), .mov (.t 16), []⟩,
       ⟨(some (17, true)), (some 18), .mov (.t 0), []⟩,
       ⟨(some (17, true)), (some 19), .mov (.t 5), []⟩,
       ⟨(some (17, true)), (some 20), .slcA esz (.t 18) none (some (.t 19)) none, []⟩,
       ⟨(some (17, true)), (some 21), .mov (.t 1), []⟩,
       ⟨(some (17, true)), (some 22), .mov (.t 5), []⟩,
       ⟨(some (17, true)), (some 23), .slcA esz (.t 21) none (some (.t 22)) none, []⟩,
       ⟨(some (17, true)), (some 24), .call true eqS [.t 20, .t 23], []⟩,
       ⟨none, (some 25), .pick (.t 17) (.t 24) (.c (.bool false)), []⟩,
       ⟨none, (some 4), .mov (.t 25), []⟩])
     .ret)))
def inSC (eqS : Nat) (esz : Nat) : Fn := { np := 2, nt := 26, kind := .pure, res := [.t 4], body := inSK eqS esz }
def eqSB1 (eqE : Nat) (esz : Nat) : Cd :=
  (.seq
   (.seq
    (.reg [14] [
      ⟨none, (some 11), .mov (.t 5), []⟩,
      ⟨none, (some 12), .mov (.t 0), []⟩,
      ⟨none, (some 13), .len (.t 12), []⟩,
      ⟨none, (some 14), .bin .lss (.t 11) (.t 13), []⟩])
    (.cond (.t 14)
     .skip
     (.exit 0)))
   (.seq
    (.block 1
     (.seq
      (.reg [26] [
        ⟨none, (some 17), .mov (.t 0), []⟩,
        ⟨none, (some 18), .mov (.t 5), []⟩,
        ⟨none, (some 19), .idxA esz (.t 17) (.t 18), []⟩,
        ⟨none, (some 20), .ld esz true (.t 19), []⟩,
        ⟨none, (some 21), .mov (.t 1), []⟩,
        ⟨none, (some 22), .mov (.t 5), []⟩,
        ⟨none, (some 23), .idxA esz (.t 21) (.t 22), []⟩,
        ⟨none, (some 24), .ld esz true (.t 23), []⟩,
        ⟨none, (some 25), .call true eqE [.t 20, .t 24], []⟩,
        ⟨none, (some 26), .un .not (.t 25), []⟩])
      (.cond (.t 26)
       (.seq
        (.reg [4] [
          ⟨none, (some 4), .mov (.c (.bool false)), []⟩])
        .ret)
       .skip)))
    (.reg [5] [
      ⟨none, (some 15), .mov (.t 5), []⟩,
      ⟨none, (some 16), .bin .add (.t 15) (.c (.int .i64 1)), []⟩,
      ⟨none, (some 5), .mov (.t 16), []⟩])))
def eqSK (eqE : Nat) (esz : Nat) : Cd :=
  (.seq
   (.reg [4] [
     ⟨none, (some 4), .mov (.c (.bool false)), []⟩])
   (.seq
    (.seq
     (.reg [10] [
       ⟨none, (some 6), .mov (.t 0), []⟩,
       ⟨none, (some 7), .len (.t 6), []⟩,
       ⟨none, (some 8), .mov (.t 1), []⟩,
       ⟨none, (some 9), .len (.t 8), []⟩,
       ⟨none, (some 10), .bin .neq (.t 7) (.t 9), []⟩])
     (.cond (.t 10)
      (.seq
       (.reg [4] [
         ⟨none, (some 4), .mov (.c (.bool false)), []⟩])
       .ret)
      .skip))
    (.seq
     (.seq
      (.reg [5] [
        ⟨none, (some 5), .mov (.c (.int .i64 0)), []⟩])
      (.block 0
       (.loop (eqSB1 eqE esz))))
     (.seq
      (.reg [4] [
        ⟨none, (some 4), .mov (.c (.bool true)), []⟩])
      .ret))))
def eqSC (eqE : Nat) (esz : Nat) : Fn := { np := 2, nt := 27, kind := .pure, res := [.t 4], body := eqSK eqE esz }
def roomN (n : Nat) : Nat := if n % 6 = 5 then 0 else if n % 3 = 0 then 1 else n
theorem roomN_le {n : Nat} : roomN n ≤ n + 1 := by
  unfold roomN
  split
  · omega
  · split <;> omega
theorem call296 {pu : Bool} {H : Heap} {n : Nat} : Call tab pu 296 [.int .i64 n] H = some (.int .i64 (roomN n), H) := by
  refine Call_wp t296 (.inr rfl) rfl ?_
  have e1 : ((n : Int).tmod 6 == 5) = decide (n % 6 = 5) := by
    rw [Int.tmod_eq_emod_of_nonneg (by omega)]
    apply Bool.eq_iff_iff.2
    simp; omega
  have e2 : ((n : Int).tmod 3 == 0) = decide (n % 3 = 0) := by
    rw [Int.tmod_eq_emod_of_nonneg (by omega)]
    apply Bool.eq_iff_iff.2
    simp; omega
  unfold roomN
  by_cases h1 : n % 6 = 5
  · simp (disch := decide) [c296, k296, e1, h1]
  · by_cases h2 : n % 3 = 0
    · simp (disch := decide) [c296, k296, e1, h1, e2, h2]
    · simp (disch := decide) [c296, k296, e1, h1, e2, h2]
/-- The i-th of a row of things. -/
def elem (vs : List Value) (esz i : Nat) : List Value := (vs.drop (i * esz)).take esz
theorem mul_next {i n esz : Nat} (h : i < n) : i * esz + esz ≤ n * esz := by
  have := Nat.mul_le_mul_right esz (show i + 1 ≤ n from h)
  rwa [Nat.succ_mul] at this
theorem elem_length {vs : List Value} {esz n i : Nat} (hl : vs.length = n * esz) (h : i < n) : (elem vs esz i).length = esz := by
  have := mul_next (esz := esz) h
  simp [elem]; omega
/-- A slice that can be read. -/
structure SlR (H : Heap) (x : Value) (esz n : Nat) (vs : List Value) : Prop where
  size : vs.length = n * esz
  is : (x = .slice none 0 0 ∧ n = 0) ∨ ∃ b off ver cap, x = slc b off ver n cap ∧ n ≤ cap ∧ rd H b off ver (n * esz) = some vs ∧ ∃ k, H[b]? = some k ∧ ver = k.ver ∧ k.esz = esz
theorem SlR.lenV {H : Heap} {x : Value} {esz n : Nat} {vs : List Value} (h : SlR H x esz n vs) : lenV x = some (.int .i64 n) := by
  rcases h.is with ⟨rfl, rfl⟩ | ⟨b, off, ver, cap, rfl, _⟩ <;> rfl
theorem SlR.app {H L : Heap} {x : Value} {esz n : Nat} {vs : List Value} (h : SlR H x esz n vs) : SlR (H ++ L) x esz n vs :=
  ⟨h.size, h.is.imp id fun ⟨b, off, ver, cap, h1, h2, h3, k, h4, h5⟩ => ⟨b, off, ver, cap, h1, h2, rd_app h3, k, by rw [List.getElem?_append_left (List.getElem?_eq_some_iff.1 h4).1]; exact h4, h5⟩⟩
theorem SlR.get {H : Heap} {x : Value} {esz n : Nat} {vs : List Value} (h : SlR H x esz n vs) {i : Nat} (hi : i < n) : ∃ a, idxAV esz x (.int .i64 (i : Int)) = some a ∧ ldH H esz true a = some (agg (elem vs esz i)) := by
  rcases h.is with ⟨rfl, rfl⟩ | ⟨b, off, ver, cap, rfl, h2, h3, _⟩
  · omega
  · refine ⟨adr b (off + i * esz) ver, by rw [idxAV_slc, at_nat hi]; rfl, ?_⟩
    rw [ldH_adr, rd_part h3 (mul_next hi)]; rfl
theorem SlR.of {H : Heap} {x : Value} {esz n : Nat} {vs : List Value} (h1 : vs.length = n * esz) (h : (x = .slice none 0 0 ∧ n = 0) ∨ ∃ b cap, x = slc b 0 0 n cap ∧ n ≤ cap ∧ rd H b 0 0 (n * esz) = some vs ∧ ∃ k, H[b]? = some k ∧ 0 = k.ver ∧ k.esz = esz) : SlR H x esz n vs :=
  ⟨h1, h.imp id fun ⟨b, cap, h1, h2, h3⟩ => ⟨b, 0, 0, cap, h1, h2, h3⟩⟩
theorem sz_call {f : Nat} (hf : tab f = some (.fn szSC)) {pu : Bool} {H : Heap} {x : Value} {esz n : Nat} {vs : List Value} (h : SlR H x esz n vs) {left : Int} (h0 : 0 ≤ left) (h1 : left ≤ 1000000) (hn : n ≤ 9223372036854775807) :
    Call tab pu f [x, .int .i64 left] H = some (.int .i64 (if left - n < 0 then -1 else left - n), H) := by
  refine Call_wp hf (.inr rfl) rfl ?_
  have e1 : IntKind.wrap .i64 (left - n) = left - n := wrap64 (by omega)
  by_cases h2 : left - (n : Int) < 0
  · simp [szSC, szSK, h.lenV, e1, h2]
  · simp [szSC, szSK, h.lenV, e1, h2]
/-- A row of which the first part is written already. -/
theorem splice_tk {C D vs : List Value} {o k : Nat} (hC : C.length = D.length) (hk : o + k ≤ D.length) (h : C.take o = D.take o) (hv : vs = (D.drop o).take k) : (splice C o vs).length = D.length ∧ (splice C o vs).take (o + k) = D.take (o + k) := by
  subst hv
  have e1 : ((D.drop o).take k).length = k := by simp; omega
  unfold splice
  refine ⟨by simp; omega, ?_⟩
  rw [e1, List.take_append_of_le_length (by simp; omega), h, List.take_of_length_le (by simp; omega)]
  exact (List.take_add ..).symm
theorem rep_len {n : Nat} {z : List Value} : (rep n z).length = n * z.length := by
  induction n with
  | zero => simp [rep]
  | succ n ih => simp [rep, ih, Nat.succ_mul]; omega
theorem elem_app {vs ws : List Value} {esz n i : Nat} (hl : vs.length = n * esz) (h : i < n) : elem (vs ++ ws) esz i = elem vs esz i := by
  have := mul_next (esz := esz) h
  unfold elem
  rw [List.drop_append_of_le_length (by omega), List.take_append_of_le_length (by simp; omega)]
theorem elem_rep {z : List Value} {n i : Nat} (h : i < n) : elem (rep n z) z.length i = z := by
  induction n generalizing i with
  | zero => omega
  | succ n ih =>
    cases i with
    | zero => simp [elem, rep]
    | succ i =>
      have := ih (i := i) (by omega)
      unfold elem at this ⊢
      rw [rep, Nat.succ_mul, Nat.add_comm, ← List.drop_drop]
      simpa using this
theorem elem_rep_app {vs z : List Value} {esz n m i : Nat} (hl : vs.length = n * esz) (hz : z.length = esz) (h : n ≤ i) (hi : i < n + m) : elem (vs ++ rep m z) esz i = z := by
  have e1 : elem (vs ++ rep m z) esz i = elem (rep m z) esz (i - n) := by
    unfold elem
    have : i * esz = vs.length + (i - n) * esz := by rw [hl, ← Nat.add_mul]; congr 1; omega
    rw [this, ← List.drop_drop, List.drop_left]
  rw [e1, ← hz]; exact elem_rep (by omega)
/-- What leads nowhere. -/
def NoRef (vs : List Value) : Prop := ∀ v ∈ vs, ∀ n, old0 n v = true
theorem NoRef.all {vs : List Value} (h : NoRef vs) {n : Nat} : vs.all (old0 n) = true := List.all_eq_true.2 fun v hv => h v hv n
theorem NoRef.app {vs ws : List Value} (h : NoRef vs) (h' : NoRef ws) : NoRef (vs ++ ws) := fun v hv n => (List.mem_append.1 hv).elim (fun h1 => h v h1 n) (fun h1 => h' v h1 n)
theorem NoRef.rep {z : List Value} (h : NoRef z) : ∀ {n : Nat}, NoRef (rep n z)
  | 0 => fun v hv => by simp [Fb.rep] at hv
  | n + 1 => h.app (NoRef.rep h)
theorem finish_slc {H G : Heap} {b ver len cap : Nat} {k : Blk} (hp : Pre H G) (hb : H.length ≤ b) (hk : G[b]? = some k) (hv : ver = k.ver) (hr : k.ro = false) (ho : k.cells.all (old0 H.length) = true) :
    finish H.length G [slc b 0 ver len cap] = (slc H.length 0 0 len cap, H ++ [{ k with ver := 0 }]) := by
  have hne : old1 H.length (slc b 0 ver len cap) = false := by
    show (true && decide (b < H.length)) = false
    simp; omega
  have : pack H.length G [slc b 0 ver len cap] [] [] = some ([slc H.length 0 0 len cap], [{ k with ver := 0 }]) := by
    rw [pack, if_neg (by rw [hne]; decide)]
    show (match G[b]? with
      | some k => if ([] : List Nat).contains b = false ∧ ver = k.ver ∧ k.ro = false ∧ k.cells.all (old0 H.length) = true then _ else none
      | none => none) = _
    rw [hk]
    simp only []
    rw [if_pos ⟨by simp, hv, hr, ho⟩]
    rfl
  rw [finish_some this, hp.take]; rfl
/-- The cells of a copy: with room behind. -/
def room (vs : List Value) (n : Nat) (fc : List Value) : List Value := vs ++ rep (roomN n) fc
theorem room_length {vs fc : List Value} {n esz : Nat} (hl : vs.length = n * esz) (hf : fc.length = esz) : (room vs n fc).length = (n + roomN n) * esz := by
  simp [room, rep_len, hl, hf, Nat.add_mul]
def mksV (esz bytes : Nat) (z : List Value) (G : Heap) (x y : Value) : Option (Value × Heap) := match x, y with
  | .int .i64 l, .int .i64 c => if 0 ≤ l ∧ l ≤ c ∧ c * bytes ≤ roomMax then some (slc G.length 0 0 l.toNat c.toNat, G ++ [⟨rep c.toNat z, esz, 0, false⟩]) else none
  | _, _ => none
theorem ev1_mkS {cl : Cl} {n0 : Nat} {wb : Bool} {e : Env} {G : Heap} {esz bytes : Nat} {z : List Value} {x y : Opd} : ev1 cl n0 wb e G (.mkS esz bytes z x y) = mksV esz bytes z G (x.ev e) (y.ev e) := rfl
theorem mksV_int {esz bytes : Nat} {z : List Value} {G : Heap} {l c : Int} : mksV esz bytes z G (.int .i64 l) (.int .i64 c) =
    if 0 ≤ l ∧ l ≤ c ∧ c * bytes ≤ roomMax then some (slc G.length 0 0 l.toNat c.toNat, G ++ [⟨rep c.toNat z, esz, 0, false⟩]) else none := rfl
theorem toS_call {f toE esz bytes : Nat} {z fc : List Value} {fo : Op1} (hf : tab f = some (.fn (toSC toE esz bytes z fo))) (hz : z.length = esz) (hb : bytes ≤ 64)
    (hfo : ∀ n0 e G, ev1 (Call tab) n0 false e G fo = some (agg fc, G)) (hfc : fc.length = esz) {pu : Bool} {H : Heap} {x : Value} {n : Nat} {vs : List Value} (hs : SlR H x esz n vs) (hn : n ≤ 1000000)
    (hE : ∀ i G, i < n → Call tab true toE [agg (elem vs esz i)] G = some (agg (elem vs esz i), G)) (ho : NoRef vs) (ho2 : NoRef fc) {flag : Bool} :
    Call tab pu f [x, .bool flag] H = some (if flag = true ∧ n = 0 then (.slice none 0 0, H) else (slc H.length 0 0 n (n + roomN n), H ++ [⟨room vs n fc, esz, 0, false⟩])) := by
  refine Call_wp hf (.inr rfl) rfl ?_
  by_cases hc : flag = true ∧ n = 0
  · obtain ⟨rfl, rfl⟩ := hc
    simp [toSC, toSK, hs.lenV]
  · have hn0 : flag = true → ¬ n = 0 := fun h h2 => hc ⟨h, h2⟩
    have hr := roomN_le (n := n)
    generalize hR : roomN n = R at hr
    have e1 : IntKind.wrap .i64 ((n : Int) + (R : Int)) = ((n + R : Nat) : Int) := by rw [wrap64 (by omega)]; omega
    have hmk : (0 ≤ ((n + R : Nat) : Int) ∧ ((n + R : Nat) : Int) ≤ ((n + R : Nat) : Int) ∧ ((n + R : Nat) : Int) * bytes ≤ roomMax) := by
      refine ⟨by omega, by omega, ?_⟩
      have h1 : (n + R) * bytes ≤ 3000000 * 64 := Nat.mul_le_mul (by omega) hb
      have h2 : roomMax = 140737488355328 := rfl
      rw [h2]
      have h3 : (((n + R) * bytes : Nat) : Int) ≤ ((3000000 * 64 : Nat) : Int) := Int.ofNat_le.2 h1
      rw [Int.natCast_mul] at h3
      exact Int.le_trans h3 (by decide)
    have hD : (room vs n fc).length = (n + R) * esz := by rw [room_length hs.size hfc, hR]
    have hele : ∀ i, i < n → elem (room vs n fc) esz i = elem vs esz i := fun i hi => elem_app hs.size hi
    have hele2 : ∀ i, n ≤ i → i < n + R → elem (room vs n fc) esz i = fc := fun i hi h2 => by unfold room; rw [hR]; exact elem_rep_app hs.size hfc hi h2
    have hev : ∀ (e : Env) (G : Heap), e 19 = .int .i64 ((n + R : Nat) : Int) → ev1 (Call tab) H.length false e G (.mkS esz bytes z (.t 19) (.t 19)) = some (slc G.length 0 0 (n + R) (n + R), G ++ [⟨rep (n + R) z, esz, 0, false⟩]) := by
      intro e G h
      rw [ev1_mkS, ev_t, h, mksV_int, if_pos hmk, Int.toNat_natCast]
    -- one store
    have hst : ∀ (C : List Value) (i : Nat) (vs' : List Value), C.length = (n + R) * esz → i < n + R → vs'.length = esz → stO H.length false (H ++ [⟨C, esz, 0, false⟩]) esz (adr H.length (i * esz) 0) (agg vs') = some (U, H ++ [⟨splice C (i * esz) vs', esz, 0, false⟩]) := by
      intro C i vs' hC hi hv
      have := mul_next (esz := esz) hi
      rw [stO_adr, cellsOf_agg, if_pos hv, wr_at (k := ⟨C, esz, 0, false⟩) get_last rfl rfl (by simp [may]) (by simp; omega), set_last]; rfl
    have hn1 : flag = true → ((n : Int) == 0) = false := fun h => by have := hn0 h; simp; omega
    have hmk' := hmk
    have hnlt : n < 9223372036854775807 := by omega
    have hbits : ∀ (C : List Value), C.length = (n + R) * esz → C.take ((n + R) * esz) = (room vs n fc).take ((n + R) * esz) → C = room vs n fc := fun C h1 h2 => by
      rwa [List.take_of_length_le (by omega), List.take_of_length_le (by omega)] at h2
    cases flag
    all_goals
      simp [toSC, toSK, hs.lenV, hn1, call296, hR, e1, ev1_mkS, mksV_int, hmk', skip, -Int.natCast_add]
      refine WP_count 6 n n rfl (fun i e H' => e 0 = x ∧ e 5 = slc H.length 0 0 (n + R) (n + R) ∧ ∃ C, C.length = (n + R) * esz ∧ C.take (i * esz) = (room vs n fc).take (i * esz) ∧ H' = H ++ [⟨C, esz, 0, false⟩]) hnlt ?_ ?_ (by simp) (by simp [rep_len, hz])
      · rintro i e _ _ hi hx e6 h6 ⟨h0, h5, C, hC, hCt, rfl⟩
        obtain ⟨a, ha, hl⟩ := (hs.app (L := [⟨C, esz, 0, false⟩])).get hi
        have hel := elem_length hs.size hi
        have hnx := mul_next (esz := esz) (show i < n + R by omega)
        obtain ⟨g1, g2⟩ := splice_tk (C := C) (D := room vs n fc) (vs := elem vs esz i) (o := i * esz) (k := esz) (by omega) (by omega) hCt (hele i hi).symm
        have hi2 : i < n + R := by omega
        simp [toSB1, h6, h0, h5, hx, hs.lenV, ha, hl, hE i _ hi, at_nat hi2, hst C i _ hC hi2 hel, wbOf, e6, -stO_adr]
        exact ⟨by omega, by rw [Nat.succ_mul]; exact g2⟩
      · rintro e _ _ h6 ⟨h0, h5, C, hC, hCt, rfl⟩
        simp [toSB1, h6, h0, h5, hs.lenV]
        refine WP_from 7 n (n + R) ((n + R : Nat) : Int) rfl (fun i e H' => e 0 = x ∧ e 5 = slc H.length 0 0 (n + R) (n + R) ∧ ∃ C, C.length = (n + R) * esz ∧ C.take (i * esz) = (room vs n fc).take (i * esz) ∧ H' = H ++ [⟨C, esz, 0, false⟩]) (by omega) (by omega) ?_ ?_ (by simp) ⟨by simp [h0], by simp [h5], C, hC, hCt, rfl⟩
        · rintro i e _ hni hi hx e6 h7 ⟨h0, h5, C, hC, hCt, rfl⟩
          have hnx := mul_next (esz := esz) hi
          obtain ⟨g1, g2⟩ := splice_tk (C := C) (D := room vs n fc) (vs := fc) (o := i * esz) (k := esz) (by omega) (by omega) hCt (hele2 i hni hi).symm
          simp [toSB2, h7, h0, h5, hx, hfo, at_nat hi, hst C i _ hC hi hfc, wbOf, e6, -stO_adr, -Int.natCast_add]
          exact ⟨by omega, by rw [Nat.succ_mul]; exact g2⟩
        · rintro e _ h7 ⟨h0, h5, C, hC, hCt, rfl⟩
          obtain rfl := hbits C hC hCt
          have hsl : slcAV (H ++ [⟨room vs n fc, esz, 0, false⟩]) esz (slc H.length 0 0 (n + R) (n + R)) none (some (.int .i64 n)) none = some (slc H.length 0 0 n (n + R)) := slcAV_hi get_last rfl rfl (by omega)
          have hfin := finish_slc (H := H) (G := H ++ [⟨room vs n fc, esz, 0, false⟩]) (b := H.length) (ver := 0) (len := n) (cap := n + R) (k := ⟨room vs n fc, esz, 0, false⟩) ⟨_, rfl⟩ (Nat.le_refl _) get_last rfl rfl (NoRef.all (ho.app ho2.rep))
          simp [toSB2, h7, h0, h5, hs.lenV, hsl, hfin, hn0, -Int.natCast_add]
theorem eqS_call {f eqE esz : Nat} (hf : tab f = some (.fn (eqSC eqE esz))) {pu : Bool} {H : Heap} {x y : Value} {n : Nat} {vs : List Value} (hx : SlR H x esz n vs) (hy : SlR H y esz n vs) (hn : n ≤ 1000000000)
    (hE : ∀ i, i < n → Call tab true eqE [agg (elem vs esz i), agg (elem vs esz i)] H = some (.bool true, H)) : Call tab pu f [x, y] H = some (.bool true, H) := by
  refine Call_wp hf (.inr rfl) rfl ?_
  simp [eqSC, eqSK, hx.lenV, hy.lenV]
  refine WP_forH 5 n n rfl (by omega) (fun i e => e 0 = x ∧ e 1 = y) ?_ ?_ (by simp) (by simp)
  · rintro i e hi hlt e4 h5 ⟨h0, h1⟩
    obtain ⟨a, ha, hl⟩ := hx.get hi
    obtain ⟨a', ha', hl'⟩ := hy.get hi
    simp [eqSB1, h5, h0, h1, hlt, hx.lenV, ha, hl, ha', hl', hE i hi, e4]
  · rintro e h5 ⟨h0, h1⟩
    simp [eqSB1, h5, h0, h1, hx.lenV]
/-- What a copy looks like. -/
def IsCp (H : Heap) (x : Value) (esz n : Nat) (vs fc : List Value) : Prop := ∃ b ver, x = slc b 0 ver n (n + roomN n) ∧ H[b]? = some ⟨room vs n fc, esz, ver, false⟩
theorem IsCp.sl {H : Heap} {x : Value} {esz n : Nat} {vs fc : List Value} (h : IsCp H x esz n vs fc) (hl : vs.length = n * esz) (hf : fc.length = esz) : SlR H x esz n vs := by
  obtain ⟨b, ver, rfl, h⟩ := h
  refine ⟨hl, .inr ⟨b, 0, ver, _, rfl, by omega, ?_, _, h, rfl, rfl⟩⟩
  have := room_length hl hf
  rw [Nat.add_mul] at this
  rw [rd_at h rfl (by simp; omega)]
  simp [room, hl]
theorem IsCp.app {H L : Heap} {x : Value} {esz n : Nat} {vs fc : List Value} (h : IsCp H x esz n vs fc) : IsCp (H ++ L) x esz n vs fc := by
  obtain ⟨b, ver, rfl, h⟩ := h
  exact ⟨b, ver, rfl, by rw [List.getElem?_append_left (List.getElem?_eq_some_iff.1 h).1]; exact h⟩
theorem IsCp.mk {H : Heap} {esz n : Nat} {vs fc : List Value} : IsCp (H ++ [⟨room vs n fc, esz, 0, false⟩]) (slc H.length 0 0 n (n + roomN n)) esz n vs fc := ⟨_, _, rfl, get_last⟩
theorem inS_call {f eqS eqE esz : Nat} (hf : tab f = some (.fn (inSC eqS esz))) (hf2 : tab eqS = some (.fn (eqSC eqE esz))) {pu : Bool} {H : Heap} {x y : Value} {n : Nat} {vs fc : List Value} (hx : IsCp H x esz n vs fc) (hy : IsCp H y esz n vs fc) (hn : n ≤ 1000000)
    (hl : vs.length = n * esz) (hfc : fc.length = esz) (hE : ∀ i, i < n → Call tab true eqE [agg (elem vs esz i), agg (elem vs esz i)] H = some (.bool true, H)) (hE2 : Call tab true eqE [agg fc, agg fc] H = some (.bool true, H)) :
    Call tab pu f [x, y] H = some (.bool true, H) := by
  refine Call_wp hf (.inr rfl) rfl ?_
  obtain ⟨b, ver, rfl, h⟩ := hx
  obtain ⟨b', ver', rfl, h'⟩ := hy
  have hr := roomN_le (n := n)
  have e1 : IntKind.wrap .i64 ((n : Int) + (roomN n : Int)) = ((n + roomN n : Nat) : Int) := by rw [wrap64 (by omega)]; omega
  have hlen := room_length hl hfc
  have s1 := slcAV_hi (off := 0) (len := n) (cap := n + roomN n) (kk := .i64) h rfl rfl (Nat.le_refl (n + roomN n))
  have s2 := slcAV_hi (off := 0) (len := n) (cap := n + roomN n) (kk := .i64) h' rfl rfl (Nat.le_refl (n + roomN n))
  have r1 : SlR H (slc b 0 ver (n + roomN n) (n + roomN n)) esz (n + roomN n) (room vs n fc) := ⟨hlen, .inr ⟨b, 0, ver, _, rfl, Nat.le_refl _, by rw [rd_at h rfl (by simp; omega)]; simp [take_all (Nat.le_of_eq hlen)], _, h, rfl, rfl⟩⟩
  have r2 : SlR H (slc b' 0 ver' (n + roomN n) (n + roomN n)) esz (n + roomN n) (room vs n fc) := ⟨hlen, .inr ⟨b', 0, ver', _, rfl, Nat.le_refl _, by rw [rd_at h' rfl (by simp; omega)]; simp [take_all (Nat.le_of_eq hlen)], _, h', rfl, rfl⟩⟩
  have hc := eqS_call hf2 (pu := true) r1 r2 (by omega) fun i hi => by
    rcases Nat.lt_or_ge i n with h3 | h3
    · unfold room; rw [elem_app hl h3]; exact hE i h3
    · unfold room; rw [elem_rep_app hl hfc h3 hi]; exact hE2
  simp [inSC, inSK, call296, e1, s1, s2, hc, -Int.natCast_add]
theorem SlR.pre {H G : Heap} {x : Value} {esz n : Nat} {vs : List Value} (p : Pre H G) (h : SlR H x esz n vs) : SlR G x esz n vs := by obtain ⟨L, rfl⟩ := p; exact h.app
theorem IsCp.pre {H G : Heap} {x : Value} {esz n : Nat} {vs fc : List Value} (p : Pre H G) (h : IsCp H x esz n vs fc) : IsCp G x esz n vs fc := by obtain ⟨L, rfl⟩ := p; exact h.app
/-- What a call that copies a slice brings about. -/
def CpF (f : Nat) (H : Heap) (x : Value) (esz n : Nat) (vs fc : List Value) : Prop := ∀ pu flag, Call tab pu f [x, .bool flag] H = some (if flag = true ∧ n = 0 then (.slice none 0 0, H) else (slc H.length 0 0 n (n + roomN n), H ++ [⟨room vs n fc, esz, 0, false⟩]))
/-- Things of a kind, one behind the other. -/
def rowsC {α : Type} (f : α → List Value) : List α → List Value
  | [] => []
  | a :: r => f a ++ rowsC f r
def at0 {α : Type} [Inhabited α] (l : List α) (i : Nat) : α := l.getD i default
theorem at0_mem {α : Type} [Inhabited α] {l : List α} {i : Nat} (h : i < l.length) : at0 l i ∈ l := by
  rw [at0, List.getD_eq_getElem?_getD, List.getElem?_eq_getElem h]; exact List.getElem_mem h
theorem at0_get {α : Type} [Inhabited α] {l : List α} {i : Nat} (h : i < l.length) : l[i]? = some (at0 l i) := by
  rw [at0, List.getD_eq_getElem?_getD, List.getElem?_eq_getElem h]; rfl
theorem rows_length {α : Type} {f : α → List Value} {esz : Nat} {l : List α} (hf : ∀ a ∈ l, (f a).length = esz) : (rowsC f l).length = l.length * esz := by
  induction l with
  | nil => simp [rowsC]
  | cons a r ih =>
    have h1 := ih fun b hb => hf b (by simp [hb])
    have h2 := hf a (by simp)
    simp [rowsC, h1, h2, Nat.succ_mul]; omega
theorem rows_elem {α : Type} [Inhabited α] {f : α → List Value} {esz : Nat} {l : List α} (hf : ∀ a ∈ l, (f a).length = esz) {i : Nat} (hi : i < l.length) : elem (rowsC f l) esz i = f (at0 l i) := by
  induction l generalizing i with
  | nil => simp at hi
  | cons a r ih =>
    have h2 := hf a (by simp)
    cases i with
    | zero => simp [elem, rowsC, at0, ← h2]
    | succ i =>
      have h1 := ih (fun b hb => hf b (by simp [hb])) (i := i) (by simpa using hi)
      rw [show at0 (a :: r) (i + 1) = at0 r i by simp [at0], ← h1]
      unfold elem
      rw [Nat.succ_mul, Nat.add_comm, ← List.drop_drop, rowsC, ← h2, List.drop_left]
theorem rows_flat {α : Type} {f : α → List Value} {l : List α} (hf : ∀ a ∈ l, NoRef (f a)) : NoRef (rowsC f l) := by
  induction l with
  | nil => intro v hv; simp [rowsC] at hv
  | cons a r ih => exact (hf a (by simp)).app (ih fun b hb => hf b (by simp [hb]))
theorem rows_of {α : Type} {f : α → List Value} {p : α → Prop} {esz n : Nat} {vs : List Value} (hl : vs.length = n * esz) (h : ∀ i, i < n → ∃ a, elem vs esz i = f a ∧ p a) : ∃ l, vs = rowsC f l ∧ l.length = n ∧ ∀ a ∈ l, p a := by
  induction n generalizing vs with
  | zero => exact ⟨[], by simpa [rowsC] using hl, rfl, by simp⟩
  | succ n ih =>
    obtain ⟨a, ha, hp⟩ := h 0 (by omega)
    rw [Nat.succ_mul] at hl
    obtain ⟨l, h1, h2, h3⟩ := ih (vs := vs.drop esz) (by simp; omega) fun i hi => by
      obtain ⟨b, hb, hq⟩ := h (i + 1) (by omega)
      refine ⟨b, ?_, hq⟩
      rw [← hb]
      unfold elem
      rw [List.drop_drop, Nat.succ_mul, Nat.add_comm]
    refine ⟨a :: l, ?_, by simp [h2], fun b hb => ?_⟩
    · rw [rowsC, ← ha, ← h1]
      simp [elem]
    · rcases List.mem_cons.1 hb with rfl | hb
      · exact hp
      · exact h3 b hb
theorem flat2 {k k' : IntKind} {a b : Int} : NoRef [.int k a, .int k' b] := by
  intro v hv n
  simp only [List.mem_cons, List.not_mem_nil, or_false] at hv
  rcases hv with rfl | rfl <;> exact old0_int
theorem SlR.sub {H : Heap} {x : Value} {esz n : Nat} {vs : List Value} (h : SlR H x esz n vs) {lo hi : Nat} (h1 : lo ≤ hi) (h2 : hi ≤ n) {k k' : IntKind} :
    ∃ y, slcAV H esz x (some (.int k (lo : Int))) (some (.int k' (hi : Int))) none = some y ∧ SlR H y esz (hi - lo) ((vs.drop (lo * esz)).take ((hi - lo) * esz)) := by
  have hsz := h.size
  have e1 : hi * esz ≤ n * esz := Nat.mul_le_mul_right _ h2
  have e2 : (hi - lo) * esz + lo * esz = hi * esz := by rw [← Nat.add_mul]; congr 1; omega
  have hlen : ((vs.drop (lo * esz)).take ((hi - lo) * esz)).length = (hi - lo) * esz := by simp; omega
  rcases h.is with ⟨rfl, rfl⟩ | ⟨b, off, ver, cap, rfl, g2, g3, kk, g4, g5, g6⟩
  · obtain rfl : hi = 0 := by omega
    obtain rfl : lo = 0 := by omega
    exact ⟨.slice none 0 0, by simp [slcAV, mxOf, bnds, bnd], hlen, .inl ⟨rfl, rfl⟩⟩
  · refine ⟨_, slcAV_lohi g4 g5 g6 (by omega) h1, hlen, .inr ⟨b, _, ver, _, rfl, by omega, rd_part g3 (by omega), kk, g4, g5, g6⟩⟩
theorem SlR.lo {H : Heap} {x : Value} {esz n : Nat} {vs : List Value} (h : SlR H x esz n vs) {lo : Nat} (h2 : lo ≤ n) {k' : IntKind} :
    ∃ y, slcAV H esz x (some (.int k' (lo : Int))) none none = some y ∧ SlR H y esz (n - lo) (vs.drop (lo * esz)) := by
  have hsz := h.size
  have e1 : lo * esz ≤ n * esz := Nat.mul_le_mul_right _ h2
  have hlen : (vs.drop (lo * esz)).length = (n - lo) * esz := by rw [Nat.sub_mul]; simp; omega
  rcases h.is with ⟨rfl, rfl⟩ | ⟨b, off, ver, cap, rfl, g2, g3, kk, g4, g5, g6⟩
  · obtain rfl : lo = 0 := by omega
    exact ⟨.slice none 0 0, by simp [slcAV, mxOf, bnds, bnd], hlen, .inl ⟨rfl, rfl⟩⟩
  · refine ⟨slc b (off + lo * esz) ver (n - lo) (cap - lo), ?_, hlen, .inr ⟨b, _, ver, _, rfl, by omega, ?_, kk, g4, g5, g6⟩⟩
    · rw [slcAV_get g4 g5 g6]; simp [bnds, bnd_nat h2]
    · have e2 : (n - lo) * esz + lo * esz = n * esz := by rw [← Nat.add_mul]; congr 1; omega
      rw [rd_part g3 (by omega), List.take_of_length_le (by omega)]
abbrev i8 (n : Int) : Prop := -128 ≤ n ∧ n ≤ 127
/-- A move. -/
def mvC (m : Int × Int) : List Value := [.int .i8 m.1, .int .i8 m.2]
def mvsC (l : List (Int × Int)) : List Value := rowsC mvC l
def mv (l : List (Int × Int)) (i : Nat) : Int × Int := at0 l i
theorem mvsC_length {l : List (Int × Int)} : (mvsC l).length = l.length * 2 := rows_length (f := mvC) (esz := 2) fun _ _ => rfl
theorem stc2 {v w u : Value} : stc (agg [v, w]) 0 [u] = some (agg [u, w]) := by simp [stc, agg, splice]
theorem stc2b {v w u : Value} : stc (agg [v, w]) 1 [u] = some (agg [v, u]) := by simp [stc, agg, splice]
theorem stc2c {v w u x : Value} : stc (agg [v, w]) 0 [u, x] = some (agg [u, x]) := by simp [stc, agg, splice]
theorem ldc2 {v w : Value} : ldc 1 false (agg [v, w]) 0 = some v := by simp [ldc]
theorem ldc2b {v w : Value} : ldc 1 false (agg [v, w]) 1 = some w := by simp [ldc]
theorem ldc2c {v w : Value} : ldc 2 true (agg [v, w]) 0 = some (agg [v, w]) := by simp [ldc]
theorem fin_agg {n0 : Nat} {H : Heap} {l : List Value} (h : l.all (old0 n0) = true) : finish n0 H [agg l] = (agg l, H.take n0) := by
  refine finish_1 ?_
  show l.toArray.toList.all (old0 n0) = true
  simpa using h
theorem SlR.get1 {H : Heap} {x : Value} {esz n : Nat} {vs : List Value} (h : SlR H x esz n vs) {i : Nat} (hi : i < n) : ∃ b off ver, idxAV esz x (.int .i64 (i : Int)) = some (adr b off ver) ∧ rd H b off ver esz = some (elem vs esz i) := by
  rcases h.is with ⟨rfl, rfl⟩ | ⟨b, off, ver, cap, rfl, h2, h3, _⟩
  · omega
  · exact ⟨b, _, ver, by rw [idxAV_slc, at_nat hi]; rfl, rd_part h3 (mul_next hi)⟩
def chC (m : Int × Int) : List Value := [.int .i8 m.1, .int .u16 m.2]
def chsC (l : List (Int × Int)) : List Value := rowsC chC l
theorem chsC_length {l : List (Int × Int)} : (chsC l).length = l.length * 2 := rows_length (f := chC) (esz := 2) fun _ _ => rfl
theorem chsC_elem {l : List (Int × Int)} {i : Nat} (hi : i < l.length) : elem (chsC l) 2 i = chC (at0 l i) := rows_elem (f := chC) (esz := 2) (fun _ _ => rfl) hi
theorem chsC_flat {l : List (Int × Int)} : NoRef (chsC l) := rows_flat fun _ _ => flat2
def chZ : List Value := [.int .i8 0, .int .u16 0]
def chF : List Value := [.int .i8 (-101), .int .u16 60201]
theorem chF_flat : NoRef chF := flat2
theorem call488 {pu : Bool} {H : Heap} {m : Int × Int} : Call tab pu 488 [agg (chC m)] H = some (agg (chC m), H) := by
  refine Call_wp t488 (.inr rfl) rfl ?_
  simp [c488, k488, chC, stc2, stc2b, stc2c, ldc2, ldc2b, ldc2c, fin_agg]
theorem call489 {pu : Bool} {H : Heap} : Call tab pu 489 [] H = some (agg chF, H) := by
  refine Call_wp t489 (.inr rfl) rfl ?_
  simp [c489, k489, stc2c, fill, splice, fin_agg, chF]
theorem call529 {pu : Bool} {H : Heap} {m : Int × Int} : Call tab pu 529 [agg (chC m), agg (chC m)] H = some (.bool true, H) := by
  refine Call_wp t529 (.inr rfl) rfl ?_
  simp [c529, k529, chC, ldc2, ldc2b]
theorem s311 : tab 311 = some (.fn (toSC 488 2 4 chZ (.call true 489 []))) := t311
theorem s308 : tab 308 = some (.fn szSC) := t308
theorem s313 : tab 313 = some (.fn (inSC 390 2)) := t313
theorem s390 : tab 390 = some (.fn (eqSC 529 2)) := t390
theorem call311 {H : Heap} {x : Value} {l : List (Int × Int)} (hs : SlR H x 2 l.length (chsC l)) (hn : l.length ≤ 1000000) : CpF 311 H x 2 l.length (chsC l) chF := fun pu flag =>
  toS_call s311 rfl (by omega) (fun n0 e G => by simp [call489]) rfl hs hn (fun i G hi => by rw [chsC_elem hi]; exact call488) chsC_flat chF_flat
theorem call313 {pu : Bool} {H : Heap} {x y : Value} {l : List (Int × Int)} (hx : IsCp H x 2 l.length (chsC l) chF) (hy : IsCp H y 2 l.length (chsC l) chF) (hn : l.length ≤ 1000000) : Call tab pu 313 [x, y] H = some (.bool true, H) :=
  inS_call s313 s390 hx hy hn chsC_length rfl (fun i hi => by rw [chsC_elem hi]; exact call529) (call529 (m := (-101, 60201)))
/-- A step: its numbers and its rows. -/
def stp (a b c d : Int) (x : Value) : Value := agg [.int .i8 a, .int .i8 b, .int .i8 c, .int .i8 d, x]
theorem ldc5a {a b c d x : Value} : ldc 1 false (agg [a, b, c, d, x]) 0 = some a := by simp [ldc]
theorem ldc5b {a b c d x : Value} : ldc 1 false (agg [a, b, c, d, x]) 1 = some b := by simp [ldc]
theorem ldc5c {a b c d x : Value} : ldc 1 false (agg [a, b, c, d, x]) 2 = some c := by simp [ldc]
theorem ldc5d {a b c d x : Value} : ldc 1 false (agg [a, b, c, d, x]) 3 = some d := by simp [ldc]
theorem ldc5e {a b c d x : Value} : ldc 1 false (agg [a, b, c, d, x]) 4 = some x := by simp [ldc]
theorem ldc5 {a b c d x : Value} : ldc 5 true (agg [a, b, c, d, x]) 0 = some (agg [a, b, c, d, x]) := by simp [ldc]
theorem stc5a {a b c d x u : Value} : stc (agg [a, b, c, d, x]) 0 [u] = some (agg [u, b, c, d, x]) := by simp [stc, agg, splice]
theorem stc5b {a b c d x u : Value} : stc (agg [a, b, c, d, x]) 1 [u] = some (agg [a, u, c, d, x]) := by simp [stc, agg, splice]
theorem stc5c {a b c d x u : Value} : stc (agg [a, b, c, d, x]) 2 [u] = some (agg [a, b, u, d, x]) := by simp [stc, agg, splice]
theorem stc5d {a b c d x u : Value} : stc (agg [a, b, c, d, x]) 3 [u] = some (agg [a, b, c, u, x]) := by simp [stc, agg, splice]
theorem stc5e {a b c d x u : Value} : stc (agg [a, b, c, d, x]) 4 [u] = some (agg [a, b, c, d, u]) := by simp [stc, agg, splice]
theorem stc5 {a b c d x u v w y z : Value} : stc (agg [a, b, c, d, x]) 0 [u, v, w, y, z] = some (agg [u, v, w, y, z]) := by simp [stc, agg, splice]
/-- A thing that leads to a new block is handed back with all that is there. -/
theorem finish_keep {n0 : Nat} {G : Heap} {l : List Value} (h : l.all (old0 n0) = false) : finish n0 G [agg l] = (agg l, G) := by
  have e1 : old1 n0 (agg l) = false := by
    show l.toArray.toList.all (old0 n0) = false
    simpa using h
  have : pack n0 G [agg l] [] [] = none := by
    rw [pack, if_neg (by rw [e1]; decide)]; rfl
  unfold finish; rw [this]; rfl
theorem old0_slc {n0 b off ver len cap : Nat} : old0 n0 (slc b off ver len cap) = decide (b < n0) := Bool.true_and _
theorem call309 {pu : Bool} {a : Int} {H : Heap} : Call tab pu 309 [.int .i64 a] H = some (.bool (decide (0 ≤ a ∧ a ≤ 2)), H) := by
  refine Call_wp t309 (.inr rfl) rfl ?_
  simp [c309, k309, call304]
def howC (a : Int) : Int := nth [1, 2, 4] a.toNat
def costV (a : Int) (n : Nat) : Int := howC a + 3 * n
theorem call83 {pu : Bool} {H : Heap} {a b c d : Int} {x y : Value} {l : List (Int × Int)} (hx : IsCp H x 2 l.length (chsC l) chF) (hy : IsCp H y 2 l.length (chsC l) chF) (hn : l.length ≤ 1000000) : Call tab pu 83 [stp a b c d x, stp a b c d y] H = some (.bool true, H) := by
  refine Call_wp t83 (.inr rfl) rfl ?_
  simp [c83, k83, stp, ldc5a, ldc5b, ldc5c, ldc5d, ldc5e, call313 hx hy hn]
theorem call79 {pu : Bool} {H : Heap} {a b c d : Int} {x : Value} {l : List (Int × Int)} (hs : SlR H x 2 l.length (chsC l)) (hn : l.length ≤ 9223372036854775807) {left : Int} (h0 : 0 ≤ left) (h1 : left ≤ 1000000) :
    Call tab pu 79 [stp a b c d x, .int .i64 left] H = some (.int .i64 (if left - l.length < 0 then -1 else left - l.length), H) := by
  refine Call_wp t79 (.inr rfl) rfl ?_
  have hsz := sz_call s308 (pu := true) hs h0 h1 hn
  by_cases h2 : left - (l.length : Int) < 0
  · rw [if_pos h2] at hsz
    simp [c79, k79, stp, ldc5e, hsz, h2]
  · rw [if_neg h2] at hsz
    simp [c79, k79, stp, ldc5e, hsz, h2]
/-- The first place with p below n, or -1. -/
def findN (p : Nat → Bool) (n : Nat) : Int := match (List.range n).find? p with
  | some i => i
  | none => -1
abbrev u16' (n : Int) : Prop := 0 ≤ n ∧ n ≤ 65535
/-- A frame's form. -/
structure FrW (f : List Int) : Prop where
  len : f.length = 12
  ok : ∀ n ∈ f, u16' n
theorem FrW.nth {f : List Int} (h : FrW f) {i : Nat} (hi : i < 12) : u16' (nth f i) := h.ok _ (nth_mem (by rw [h.len]; exact hi))
def okRow (n : Int) : Bool := decide (n ≤ 4095)
def okF (f : List Int) : Bool := f.all okRow
theorem okF_true {f : List Int} (hl : f.length = 12) (h : ∀ i, i < 12 → okRow (nth f i) = true) : okF f = true := all_nth fun j hj => h j (by omega)
def frC (f : List Int) : List Value := cs .u16 f
def bkC (b : List (List Int)) : List Value := rowsC frC b
/-- A book's form. -/
def BkW (b : List (List Int)) : Prop := ∀ f ∈ b, FrW f
def fr (b : List (List Int)) (i : Nat) : List Int := at0 b i
theorem BkW.fr {b : List (List Int)} (h : BkW b) {i : Nat} (hi : i < b.length) : FrW (fr b i) := h _ (at0_mem hi)
theorem bkC_length {b : List (List Int)} (h : BkW b) : (bkC b).length = b.length * 12 := rows_length (f := frC) (esz := 12) fun f hf => by simp [frC, (h f hf).len]
theorem bkC_elem {b : List (List Int)} (h : BkW b) {i : Nat} (hi : i < b.length) : elem (bkC b) 12 i = cs .u16 (fr b i) := rows_elem (f := frC) (esz := 12) (fun f hf => by simp [frC, (h f hf).len]) hi
/-- A book in memory. -/
abbrev Bk (H : Heap) (x : Value) (b : List (List Int)) : Prop := SlR H x 12 b.length (bkC b)
theorem Bk.get {H : Heap} {x : Value} {b : List (List Int)} (h : Bk H x b) (hw : BkW b) {i : Nat} (hi : i < b.length) : ∃ q off ver, idxAV 12 x (.int .i64 (i : Int)) = some (adr q off ver) ∧ rd H q off ver 12 = some (cs .u16 (fr b i)) := by
  obtain ⟨q, off, ver, h1, h2⟩ := SlR.get1 h hi
  rw [bkC_elem hw hi] at h2
  exact ⟨q, off, ver, h1, h2⟩
def okFs (b : List (List Int)) : Bool := b.all okF
def okB (b : List (List Int)) : Bool := okFs b && decide (b.length ≤ 40)
/-- A row told place by place. -/
def tabN (n : Nat) (g : Nat → Int) : List Int := (List.range n).map g
theorem tabN_length {n : Nat} {g : Nat → Int} : (tabN n g).length = n := by simp [tabN]
theorem nth_tabN {n : Nat} {g : Nat → Int} {i : Nat} (h : i < n) : nth (tabN n g) i = g i := by
  apply nth_of; simp [tabN, h]
/-- Two frames, row by row. -/
def mixF (op : Int → Int → Int) (a b : List Int) : List Int := tabN 12 fun j => op (nth a j) (nth b j)
theorem mixF_length {op : Int → Int → Int} {a b : List Int} : (mixF op a b).length = 12 := tabN_length
def orI (a b : Int) : Int := bitsOf .or .u16 a b
def xorI (a b : Int) : Int := bitsOf .xor .u16 a b
def lessI (a b : Int) : Int := bitsOf .andNot .u16 a b
def bkF : List Int := [60201, 0, 0, 0, 0, 0, 0, 0, 0, 0, 0, 0]
def allN (p : Nat → Bool) (n : Nat) : Bool := (List.range n).all p
theorem allN_true {p : Nat → Bool} {n : Nat} (h : ∀ i, i < n → p i = true) : allN p n = true := List.all_eq_true.2 fun i hi => h i (by simpa using hi)
theorem allN_false {p : Nat → Bool} {n i : Nat} (hi : i < n) (h : p i = false) : allN p n = false := List.all_eq_false.2 ⟨i, by simpa using hi, by simp [h]⟩
theorem allN_get {p : Nat → Bool} {n : Nat} (h : allN p n = true) {i : Nat} (hi : i < n) : p i = true := List.all_eq_true.1 h i (by simpa using hi)
theorem elem_take {vs : List Value} {esz hi i : Nat} (h : i < hi) : elem (vs.take (hi * esz)) esz i = elem vs esz i := by
  have := mul_next (esz := esz) h
  unfold elem
  rw [List.drop_take, List.take_take, Nat.min_eq_left (by omega)]
theorem elem_drop {vs : List Value} {esz lo i : Nat} : elem (vs.drop (lo * esz)) esz i = elem vs esz (lo + i) := by
  unfold elem
  rw [List.drop_drop, Nat.add_mul]
/-- Does a book repeat by p? -/
def perB (b : List (List Int)) (p : Nat) : Bool := allN (fun i => decide (fr b i = fr b (p + i))) (b.length - p)
def perP (b : List (List Int)) (p : Nat) : Bool := decide (1 ≤ p) && perB b p
theorem Pre.set {H G : Heap} {b : Nat} {k : Blk} (p : Pre H G) (hb : H.length ≤ b) : Pre H (G.set b k) := by
  obtain ⟨L, rfl⟩ := p
  exact ⟨L.set (b - H.length) k, by rw [List.set_append_right _ _ hb]⟩
/-- A list of a call's own that grows. -/
def Gr (H G : Heap) (x : Value) (esz n : Nat) (vs : List Value) : Prop := ∃ b ver, x = slc b 0 ver n n ∧ G[b]? = some ⟨vs, esz, ver, false⟩ ∧ H.length ≤ b ∧ vs.length = n * esz ∧ Pre H G
theorem Gr.pre {H G : Heap} {x : Value} {esz n : Nat} {vs : List Value} (g : Gr H G x esz n vs) : Pre H G := by obtain ⟨b, ver, _, _, _, _, p⟩ := g; exact p
theorem Gr.sl {H G : Heap} {x : Value} {esz n : Nat} {vs : List Value} (g : Gr H G x esz n vs) : SlR G x esz n vs := by
  obtain ⟨b, ver, rfl, h1, h2, h3, h4⟩ := g
  exact ⟨h3, .inr ⟨b, 0, ver, n, rfl, Nat.le_refl _, by rw [rd_at h1 rfl (by simp [h3])]; simp [take_all (Nat.le_of_eq h3)], _, h1, rfl, rfl⟩⟩
theorem fill_one {z : List Value} {v : Value} {esz : Nat} (hv : (cellsOf v).length = esz) (hz : z.length = esz) : fill (rep 1 z) [(0, esz, v)] = some (cellsOf v) := by
  have e1 : rep 1 z = z := by simp [rep]
  rw [e1]
  show (if (cellsOf v).length = esz ∧ 0 + esz ≤ z.length then fill (splice z 0 (cellsOf v)) [] else none) = _
  rw [if_pos ⟨hv, by omega⟩]
  have : splice z 0 (cellsOf v) = cellsOf v := by simp [splice, hv, ← hz]
  rw [this]; rfl
/- Has a frame a dot there? -/
def dotB (row : Int) (x : Nat) : Bool := decide ((row / bit x) % 2 = 1)
def hasF (f : List Int) (x y : Nat) : Bool := dotB (nth f y) x
/- The dots, one behind the other. -/
def hasK (f : List Int) (k : Nat) : Bool := hasF f (k % 12) (k / 12)
def dotL (f : List Int) (k : Nat) : List Nat := (List.range k).filter (hasK f)
theorem dotB_bit {n x : Nat} : dotB (n : Int) x = n.testBit x := by
  unfold dotB bit
  rw [Nat.testBit_eq_decide_div_mod_eq]
  apply decide_eq_decide.2
  have : ((n : Int) / 2 ^ x) = ((n / 2 ^ x : Nat) : Int) := by rw [Int.natCast_ediv]; simp
  rw [this]; omega
/-- How many dots. -/
def cntF (f : List Int) : Int := ((dotL f 144).length : Int)
theorem okF_row {f : List Int} (h : okF f = true) (hw : FrW f) {y : Nat} (hy : y < 12) : ∃ n : Nat, nth f y = n ∧ n < 4096 := by
  have h1 := hw.nth hy
  have h2 := List.all_eq_true.1 (show f.all okRow = true from h) _ (nth_mem (i := y) (by rw [hw.len]; exact hy))
  simp [okRow] at h2
  exact ⟨(nth f y).toNat, by omega, by omega⟩
/-- By how many dots two frames differ. -/
def difF (a b : List Int) : Int := cntF (mixF xorI a b)
abbrev Lp := Option (Nat × Nat × Int)
def stepL (b : List (List Int)) (n : Nat) (i : Nat) (o : Lp) : Lp := match o with
  | none => some (i, n, difF (fr b (i + n - 1)) (fr b i))
  | some (f, c, j) => if difF (fr b (i + n - 1)) (fr b i) < j then some (i, n, difF (fr b (i + n - 1)) (fr b i)) else some (f, c, j)
/-- A list of which one knows the block. -/
def Own (G : Heap) (r : Value) (β : Option Nat) (n0 esz n : Nat) (vs : List Value) : Prop := vs.length = n * esz ∧ match β with
  | none => r = .slice none 0 0 ∧ n = 0
  | some b => n0 ≤ b ∧ ∃ ver cap rest, r = slc b 0 ver n cap ∧ n ≤ cap ∧ G[b]? = some ⟨vs ++ rest, esz, ver, false⟩
theorem Own.sl {G : Heap} {r : Value} {β : Option Nat} {n0 esz n : Nat} {vs : List Value} (h : Own G r β n0 esz n vs) : SlR G r esz n vs := by
  obtain ⟨hl, h⟩ := h
  cases β with
  | none => exact ⟨hl, .inl h⟩
  | some b =>
    obtain ⟨_, ver, cap, rest, rfl, hc, hg⟩ := h
    exact ⟨hl, .inr ⟨b, 0, ver, cap, rfl, hc, by rw [rd_at hg rfl (by simp [hl])]; simp [← hl], _, hg, rfl, rfl⟩⟩
theorem Own.pre {G G' : Heap} {r : Value} {β : Option Nat} {n0 esz n : Nat} {vs : List Value} (p : Pre G G') (h : Own G r β n0 esz n vs) : Own G' r β n0 esz n vs := by
  obtain ⟨L, rfl⟩ := p
  obtain ⟨hl, h⟩ := h
  refine ⟨hl, ?_⟩
  cases β with
  | none => exact h
  | some b =>
    obtain ⟨hb, ver, cap, rest, rfl, hc, hg⟩ := h
    exact ⟨hb, ver, cap, rest, rfl, hc, by rw [List.getElem?_append_left (List.getElem?_eq_some_iff.1 hg).1]; exact hg⟩
theorem Own.lt {G : Heap} {r : Value} {b : Nat} {n0 esz n : Nat} {vs : List Value} (h : Own G r (some b) n0 esz n vs) : n0 ≤ b ∧ b < G.length := by
  obtain ⟨hl, hb, ver, cap, rest, rfl, hc, hg⟩ := h
  exact ⟨hb, (List.getElem?_eq_some_iff.1 hg).1⟩
/-- Two heaps that differ in one block at most. -/
structure SameB (G G' : Heap) (β : Option Nat) : Prop where
  len : G'.length = G.length
  get : ∀ b, β ≠ some b → G'[b]? = G[b]?
theorem SameB.refl {G : Heap} {β : Option Nat} : SameB G G β := ⟨rfl, fun _ _ => rfl⟩
theorem SameB.set {G : Heap} {b : Nat} {k : Blk} : SameB G (G.set b k) (some b) := ⟨by simp, fun b' h => by rw [List.getElem?_set_ne]; intro h2; exact h (by rw [h2])⟩
theorem pre_of_get {H G : Heap} (hl : H.length ≤ G.length) (h : ∀ i, i < H.length → G[i]? = H[i]?) : Pre H G := by
  refine ⟨G.drop H.length, ?_⟩
  have : G.take H.length = H := List.ext_getElem? fun i => by
    rcases Nat.lt_or_ge i H.length with h1 | h1
    · rw [List.getElem?_take, if_pos h1, h i h1]
    · rw [List.getElem?_eq_none (by simp; omega), List.getElem?_eq_none h1]
  conv => lhs; rw [← List.take_append_drop H.length G, this]
theorem Pre.get {H G : Heap} (p : Pre H G) {i : Nat} (hi : i < H.length) : G[i]? = H[i]? := by
  obtain ⟨L, rfl⟩ := p
  rw [List.getElem?_append_left hi]
theorem SameB.pre {H G G' : Heap} {β : Option Nat} (s : SameB G G' β) (p : Pre H G) (hb : ∀ b, β = some b → H.length ≤ b) : Pre H G' :=
  pre_of_get (by rw [s.len]; exact p.len) fun i hi => by rw [s.get i fun h => by have := hb i h; omega, p.get hi]
theorem set_self {G : Heap} {b : Nat} {k : Blk} (h : G[b]? = some k) : G.set b k = G := by
  apply List.ext_getElem?
  intro i
  rw [List.getElem?_set]
  split
  · rename_i h1; subst h1; rw [if_pos (List.getElem?_eq_some_iff.1 h).1, h]
  · rfl
def mkL (ms : Nat → Value) (m : Nat) : List Value := (List.range m).map ms
structure Sted where
  a : Int
  b : Int
  c : Int
  d : Int
  rows : List (Int × Int)
instance : Inhabited Sted := ⟨⟨0, 0, 0, 0, []⟩⟩
structure StW (s : Sted) : Prop where
  a : i8 s.a
  b : i8 s.b
  c : i8 s.c
  d : i8 s.d
  rows : ∀ m ∈ s.rows, i8 m.1 ∧ u16' m.2
/-- The cells of a step. -/
def stC (s : Sted) (y : Value) : List Value := [.int .i8 s.a, .int .i8 s.b, .int .i8 s.c, .int .i8 s.d, y]
theorem stp_eq {s : Sted} {y : Value} : stp s.a s.b s.c s.d y = agg (stC s y) := rfl
/-- The rows of a step in memory. -/
abbrev Rw (G : Heap) (y : Value) (s : Sted) : Prop := SlR G y 2 s.rows.length (chsC s.rows)
abbrev RwC (G : Heap) (y : Value) (s : Sted) : Prop := IsCp G y 2 s.rows.length (chsC s.rows) chF
/-- Steps in memory. -/
def StS (G : Heap) (x : Value) (l : List Sted) : Prop := ∃ vs, SlR G x 5 l.length vs ∧ ∀ i, i < l.length → ∃ y, elem vs 5 i = stC (at0 l i) y ∧ Rw G y (at0 l i)
theorem StS.pre {H G : Heap} {x : Value} {l : List Sted} (p : Pre H G) (h : StS H x l) : StS G x l := by
  obtain ⟨vs, h1, h2⟩ := h
  exact ⟨vs, h1.pre p, fun i hi => by obtain ⟨y, h3, h4⟩ := h2 i hi; exact ⟨y, h3, h4.pre p⟩⟩
theorem StS.lenV {G : Heap} {x : Value} {l : List Sted} (h : StS G x l) : lenV x = some (.int .i64 l.length) := by
  obtain ⟨vs, h1, _⟩ := h; exact h1.lenV
theorem StS.get {G : Heap} {x : Value} {l : List Sted} (h : StS G x l) {i : Nat} (hi : i < l.length) : ∃ q off ver y, idxAV 5 x (.int .i64 (i : Int)) = some (adr q off ver) ∧ rd G q off ver 5 = some (stC (at0 l i) y) ∧ Rw G y (at0 l i) := by
  obtain ⟨vs, h1, h2⟩ := h
  obtain ⟨q, off, ver, h3, h4⟩ := h1.get1 hi
  obtain ⟨y, h5, h6⟩ := h2 i hi
  rw [h5] at h4
  exact ⟨q, off, ver, y, h3, h4, h6⟩
theorem elem_splice {C vs : List Value} {esz n i j : Nat} (hC : C.length = n * esz) (hv : vs.length = esz) (hi : i < n) (hj : j < n) : elem (splice C (i * esz) vs) esz j = if j = i then vs else elem C esz j := by
  have h1 := mul_next (esz := esz) hi
  have h2 := mul_next (esz := esz) hj
  have hl : (C.take (i * esz)).length = i * esz := by simp; omega
  unfold elem splice
  by_cases h : j = i
  · subst h
    rw [if_pos rfl, List.append_assoc, List.drop_append_of_le_length (by omega), List.drop_eq_nil_of_le (by omega), List.nil_append, List.take_append_of_le_length (by omega), List.take_of_length_le (by omega)]
  · rw [if_neg h]
    rcases Nat.lt_or_ge j i with h3 | h3
    · have h4 := mul_next (esz := esz) h3
      rw [List.append_assoc, List.drop_append_of_le_length (by omega), List.take_append_of_le_length (by simp; omega), List.drop_take, List.take_take, Nat.min_eq_left (by omega)]
    · have h4 := mul_next (esz := esz) (show i < j by omega)
      have : j * esz = (C.take (i * esz) ++ vs).length + (j * esz - (i * esz + esz)) := by simp; omega
      rw [this, ← List.drop_drop, List.drop_left, List.drop_drop, hv]
      congr 2
      omega
/-- A copy of steps: what stands in the block, whatever stands in that block itself. -/
structure CpI (H G : Heap) (b : Nat) (flag : Bool) (s : Sted) (y : Value) : Prop where
  r : ∀ k, Rw (G.set b k) y s
  n : y = .slice none 0 0 ∨ old0 H.length y = false
  c : flag = false → (∀ k, RwC (G.set b k) y s) ∧ old0 H.length y = false
theorem CpI.set {H G : Heap} {b : Nat} {flag : Bool} {s : Sted} {y : Value} {k : Blk} (h : CpI H G b flag s y) : CpI H (G.set b k) b flag s y := ⟨fun k' => by rw [set_set]; exact h.r k', h.n, fun hf => ⟨fun k' => by rw [set_set]; exact (h.c hf).1 k', (h.c hf).2⟩⟩
theorem set_pre {G G' : Heap} {b : Nat} {k : Blk} (p : Pre G G') (hb : b < G.length) : Pre (G.set b k) (G'.set b k) := by
  obtain ⟨L, rfl⟩ := p
  exact ⟨L, by rw [List.set_append_left _ _ hb]⟩
theorem CpI.pre {H G G' : Heap} {b : Nat} {flag : Bool} {s : Sted} {y : Value} (h : CpI H G b flag s y) (p : Pre G G') (hb : b < G.length) : CpI H G' b flag s y :=
  ⟨fun k => (h.r k).pre (set_pre p hb), h.n, fun hf => ⟨fun k => ((h.c hf).1 k).pre (set_pre p hb), (h.c hf).2⟩⟩
/-- A copy of a step's rows. -/
theorem cp81 {pu : Bool} {H G : Heap} {b : Nat} {s : Sted} {x : Value} {flag : Bool} (hb : b < G.length) (p : Pre H G) (hs : ∀ k, Rw (G.set b k) x s) (hn : s.rows.length ≤ 1000000) :
    ∃ y G', Call tab pu 81 [agg (stC s x), .bool flag] G = some (agg (stC s y), G') ∧ Pre G G' ∧ CpI H G' b flag s y := by
  obtain ⟨k0, hk0⟩ : ∃ k0, G[b]? = some k0 := ⟨_, List.getElem?_eq_getElem hb⟩
  have hs0 := hs k0
  rw [set_self hk0] at hs0
  have h := call311 hs0 hn true flag
  by_cases hc : flag = true ∧ s.rows.length = 0
  · rw [if_pos hc] at h
    refine ⟨.slice none 0 0, G, Call_wp t81 (.inr rfl) rfl ?_, .refl, fun k => ⟨by rw [chsC_length], .inl ⟨rfl, hc.2⟩⟩, .inl rfl, fun hf => by rw [hf] at hc; cases hc.1⟩
    have : finish G.length G [agg [.int .i8 s.a, .int .i8 s.b, .int .i8 s.c, .int .i8 s.d, .slice none 0 0]] = (agg [.int .i8 s.a, .int .i8 s.b, .int .i8 s.c, .int .i8 s.d, .slice none 0 0], G.take G.length) := fin_agg rfl
    simp [c81, k81, stC, ldc5a, ldc5b, ldc5c, ldc5d, ldc5e, ldc5, stc5a, stc5b, stc5c, stc5d, stc5e, stc5, h, this]
  · rw [if_neg hc] at h
    have hm : ∀ k, RwC ((G ++ [(⟨room (chsC s.rows) s.rows.length chF, 2, 0, false⟩ : Blk)]).set b k) (slc G.length 0 0 s.rows.length (s.rows.length + roomN s.rows.length)) s := fun k => by
      rw [List.set_append_left _ _ hb]
      have := IsCp.mk (H := G.set b k) (esz := 2) (n := s.rows.length) (vs := chsC s.rows) (fc := chF)
      rwa [List.length_set] at this
    have hold : old0 H.length (slc G.length 0 0 s.rows.length (s.rows.length + roomN s.rows.length)) = false := by
      rw [old0_slc]; have := p.len; simp; omega
    refine ⟨_, _, Call_wp t81 (.inr rfl) rfl ?_, Pre.one, fun k => (hm k).sl chsC_length rfl, .inr hold, fun _ => ⟨hm, hold⟩⟩
    have := finish_keep (n0 := G.length) (G := G ++ [⟨room (chsC s.rows) s.rows.length chF, 2, 0, false⟩]) (l := [.int .i8 s.a, .int .i8 s.b, .int .i8 s.c, .int .i8 s.d, slc G.length 0 0 s.rows.length (s.rows.length + roomN s.rows.length)]) (by simp [old0_slc])
    simp [c81, k81, stC, ldc5a, ldc5b, ldc5c, ldc5d, ldc5e, ldc5, stc5a, stc5b, stc5c, stc5d, stc5e, stc5, h, this]
def stpF : Sted := ⟨-101, -101, -101, -101, [(-101, 60201)]⟩
theorem cp382 {pu : Bool} {H G : Heap} {b : Nat} (hb : b < G.length) (p : Pre H G) : ∃ y G', Call tab pu 382 [] G = some (agg (stC stpF y), G') ∧ Pre G G' ∧ CpI H G' b true stpF y ∧ old0 H.length y = false := by
  have hold : old0 H.length (slc G.length 0 0 1 1) = false := by rw [old0_slc]; have := p.len; simp; omega
  refine ⟨slc G.length 0 0 1 1, G ++ [⟨chF, 2, 0, false⟩], Call_wp t382 (.inr rfl) rfl ?_, Pre.one, ⟨fun k => ?_, .inr hold, fun hf => by cases hf⟩, hold⟩
  · have hf1 := fill_one (z := [.int .i8 0, .int .u16 0]) (v := agg chF) (esz := 2) rfl rfl
    have := finish_keep (n0 := G.length) (G := G ++ [⟨chF, 2, 0, false⟩]) (l := [.int .i8 (-101), .int .i8 (-101), .int .i8 (-101), .int .i8 (-101), slc G.length 0 0 1 1]) (by simp [old0_slc])
    simp [c382, k382, call489, hf1, fill, splice, stc5, stC, stpF, this]
  · rw [List.set_append_left _ _ hb]
    refine ⟨rfl, .inr ⟨G.length, 0, 0, 1, rfl, Nat.le_refl _, ?_, ⟨chF, 2, 0, false⟩, ?_, rfl, rfl⟩⟩
    · have := rd_last (H := G.set b k) (b := ⟨chF, 2, 0, false⟩) (n := 2) rfl rfl
      rw [List.length_set] at this
      exact this
    · have := get_last (H := G.set b k) (b := ⟨chF, 2, 0, false⟩)
      rw [List.length_set] at this
      exact this
/-- Steps copied, with room behind. -/
def CpS (G : Heap) (x : Value) (l : List Sted) : Prop := ∃ b ver vs, x = slc b 0 ver l.length (l.length + roomN l.length) ∧ G[b]? = some ⟨vs, 5, ver, false⟩ ∧ vs.length = (l.length + roomN l.length) * 5 ∧
  (∀ i, i < l.length → ∃ y, elem vs 5 i = stC (at0 l i) y ∧ RwC G y (at0 l i)) ∧ ∀ i, l.length ≤ i → i < l.length + roomN l.length → ∃ y, elem vs 5 i = stC stpF y ∧ Rw G y stpF
theorem CpS.sl {G : Heap} {x : Value} {l : List Sted} (h : CpS G x l) : StS G x l := by
  obtain ⟨b, ver, vs, rfl, hg, hl, h1, h2⟩ := h
  have e1 : l.length * 5 ≤ vs.length := by omega
  refine ⟨vs.take (l.length * 5), ⟨by simp; omega, .inr ⟨b, 0, ver, _, rfl, by omega, by rw [rd_at hg rfl (by simp; omega)]; simp, _, hg, rfl, rfl⟩⟩, fun i hi => ?_⟩
  obtain ⟨y, h3, h4⟩ := h1 i hi
  exact ⟨y, by rw [elem_take hi, h3], h4.sl chsC_length rfl⟩
theorem CpS.pre {H G : Heap} {x : Value} {l : List Sted} (p : Pre H G) (h : CpS H x l) : CpS G x l := by
  obtain ⟨b, ver, vs, rfl, hg, hl, h1, h2⟩ := h
  refine ⟨b, ver, vs, rfl, by rw [p.get (List.getElem?_eq_some_iff.1 hg).1]; exact hg, hl, fun i hi => ?_, fun i hi hi2 => ?_⟩
  · obtain ⟨y, h3, h4⟩ := h1 i hi; exact ⟨y, h3, h4.pre p⟩
  · obtain ⟨y, h3, h4⟩ := h2 i hi hi2; exact ⟨y, h3, h4.pre p⟩
theorem finish_keepS {H G : Heap} {b n cap : Nat} {k : Blk} (hb : H.length ≤ b) (hk : G[b]? = some k) (ho : k.cells.all (old0 H.length) = false) : finish H.length G [slc b 0 0 n cap] = (slc b 0 0 n cap, G) := by
  have hne : old1 H.length (slc b 0 0 n cap) = false := by
    show (true && decide (b < H.length)) = false
    simp; omega
  have : pack H.length G [slc b 0 0 n cap] [] [] = none := by
    rw [pack, if_neg (by rw [hne]; decide)]
    show (match G[b]? with
      | some k => if ([] : List Nat).contains b = false ∧ 0 = k.ver ∧ k.ro = false ∧ k.cells.all (old0 H.length) = true then _ else none
      | none => none) = _
    rw [hk]
    simp only []
    rw [if_neg (by rw [ho]; simp)]
  unfold finish; rw [this]; rfl
theorem mem_elem {C : List Value} {esz i : Nat} {v : Value} (h : v ∈ elem C esz i) : v ∈ C := List.mem_of_mem_drop (List.mem_of_mem_take h)
theorem stC_mem {s : Sted} {y : Value} : y ∈ stC s y := by simp [stC]
/-- A call, and what holds of what it comes to. -/
theorem Call_ex {T : Tab} {pu : Bool} {f : Nat} {F : Fn} (hT : T f = some (.fn F)) (hp : pu = false ∨ F.kind = .pure) {xs : List Value} {H : Heap} {P : Value × Heap → Prop} (hn : xs.length = F.np)
    (h : WK T H.length (wbOf F.kind) F.body [] (ini xs) H fun x e' H' => (∀ i, x ≠ .exit i) ∧ ∃ r, (resVs e' H' F.res).map (finish H.length H') = some r ∧ P r) : ∃ r, Call T pu f xs H = some r ∧ P r := by
  obtain ⟨x, e', H', hr, hx, r, q, p⟩ := h
  exact ⟨r, Call_wp0 hT hp hn ⟨x, e', H', hr, hx, q⟩, p⟩
theorem roomN_pos {n : Nat} : 0 < n + roomN n := by
  rcases Nat.eq_zero_or_pos n with h | h
  · subst h; decide
  · omega
/-- The copy's blocks are its own. -/
def CpB (lo : Nat) (G : Heap) (x : Value) (l : List Sted) : Prop := ∃ b ver vs, x = slc b 0 ver l.length (l.length + roomN l.length) ∧ G[b]? = some ⟨vs, 5, ver, false⟩ ∧ lo ≤ b ∧ ∀ i, i < l.length → ∃ y, elem vs 5 i = stC (at0 l i) y ∧ old0 lo y = false
theorem cpB159 {pu : Bool} {H : Heap} {x : Value} {l : List Sted} {flag : Bool} (hs : StS H x l) (hn : l.length ≤ 1000000) (hr : ∀ s ∈ l, s.rows.length ≤ 1000000) :
    ∃ x' G, Call tab pu 159 [x, .bool flag] H = some (x', G) ∧ StS G x' l ∧ Pre H G ∧ (flag = false → CpS G x' l ∧ CpB H.length G x' l) := by
  by_cases hc : flag = true ∧ l.length = 0
  · obtain ⟨rfl, h0⟩ := hc
    have hl0 : l = [] := List.length_eq_zero_iff.1 h0
    subst hl0
    have hlen : lenV x = some (.int .i64 0) := hs.lenV
    refine ⟨.slice none 0 0, H, Call_wp t159 (.inr rfl) rfl ?_, ⟨[], ⟨rfl, .inl ⟨rfl, rfl⟩⟩, fun i hi => by simp at hi⟩, .refl, fun h => by cases h⟩
    simp [c159, k159, hlen]
  · have hn0 : flag = true → ¬ l.length = 0 := fun h h2 => hc ⟨h, h2⟩
    have hn1 : flag = true → ((l.length : Int) == 0) = false := fun h => by have := hn0 h; simpa using this
    have hRp := roomN_pos (n := l.length)
    have hrr := roomN_le (n := l.length)
    generalize hR : roomN l.length = R at hrr hRp
    have e1 : IntKind.wrap .i64 ((l.length : Int) + (R : Int)) = ((l.length + R : Nat) : Int) := by rw [wrap64 (by omega)]; omega
    have hmk : (0 ≤ ((l.length + R : Nat) : Int) ∧ ((l.length + R : Nat) : Int) ≤ ((l.length + R : Nat) : Int) ∧ ((l.length + R : Nat) : Int) * 32 ≤ (roomMax : Int)) := by
      have h2 : roomMax = 140737488355328 := rfl
      omega
    have hmk' := hmk
    -- what holds at the end
    suffices main : ∃ G C, Call tab pu 159 [x, .bool flag] H = some (finish H.length G [slc H.length 0 0 l.length (l.length + R)]) ∧ Pre H G ∧ G[H.length]? = some ⟨C, 5, 0, false⟩ ∧ C.length = (l.length + R) * 5 ∧
        (∀ j, j < l.length → ∃ y, elem C 5 j = stC (at0 l j) y ∧ CpI H G H.length flag (at0 l j) y) ∧ ∀ j, l.length ≤ j → j < l.length + R → ∃ y, elem C 5 j = stC stpF y ∧ CpI H G H.length true stpF y ∧ old0 H.length y = false by
      obtain ⟨G, C, hcall, hP, hg, hC, h1, h2⟩ := main
      have hsub : ∀ i, i < l.length → (C.take (l.length * 5)).length = l.length * 5 := fun _ _ => by simp; omega
      cases ho : C.all (old0 H.length) with
      | false =>
        rw [finish_keepS (Nat.le_refl _) hg ho] at hcall
        have hset : ∀ k, G[H.length]? = some k → G.set H.length k = G := fun k h => set_self h
        refine ⟨_, G, hcall, ⟨C.take (l.length * 5), ⟨by simp; omega, .inr ⟨H.length, 0, 0, _, rfl, by omega, by rw [rd_at hg rfl (by simp; omega)]; simp, _, hg, rfl, rfl⟩⟩, fun i hi => ?_⟩, hP, fun hf => ⟨⟨H.length, 0, C, by rw [hR], hg, by rw [hR]; exact hC, fun i hi => ?_, fun i hi hi2 => ?_⟩, H.length, 0, C, by rw [hR], hg, Nat.le_refl _, fun i hi => ?_⟩⟩
        · obtain ⟨y, h3, h4⟩ := h1 i hi
          have := h4.r ⟨C, 5, 0, false⟩
          rw [hset _ hg] at this
          exact ⟨y, by rw [elem_take hi, h3], this⟩
        · obtain ⟨y, h3, h4⟩ := h1 i hi
          have := (h4.c hf).1 ⟨C, 5, 0, false⟩
          rw [hset _ hg] at this
          exact ⟨y, h3, this⟩
        · rw [hR] at hi2
          obtain ⟨y, h3, h4, _⟩ := h2 i hi hi2
          have := h4.r ⟨C, 5, 0, false⟩
          rw [hset _ hg] at this
          exact ⟨y, h3, this⟩
        · obtain ⟨y, h3, h4⟩ := h1 i hi
          exact ⟨y, h3, (h4.c hf).2⟩
      | true =>
        have hall := List.all_eq_true.1 ho
        rw [finish_slc hP (Nat.le_refl _) hg rfl rfl ho] at hcall
        refine ⟨_, _, hcall, ⟨C.take (l.length * 5), ⟨by simp; omega, .inr ⟨H.length, 0, 0, _, rfl, by omega, by rw [rd_at get_last rfl (by simp; omega)]; simp, _, get_last, rfl, rfl⟩⟩, fun i hi => ?_⟩, Pre.one, fun hf => ?_⟩
        · obtain ⟨y, h3, h4⟩ := h1 i hi
          have hy := hall y (mem_elem (esz := 5) (i := i) (by rw [h3]; exact stC_mem))
          rcases h4.n with h5 | h5
          · subst h5
            refine ⟨_, by rw [elem_take hi, h3], ?_⟩
            have h6 := h4.r ⟨C, 5, 0, false⟩
            refine ⟨h6.size, ?_⟩
            rcases h6.is with h7 | ⟨_, _, _, _, h7, _⟩
            · exact .inl h7
            · cases h7
          · rw [hy] at h5; cases h5
        · exfalso
          rcases Nat.eq_zero_or_pos l.length with h0 | h0
          · obtain ⟨y, h3, h4, h5⟩ := h2 0 (by omega) (by omega)
            have hy := hall y (mem_elem (esz := 5) (i := 0) (by rw [h3]; exact stC_mem))
            rw [hy] at h5; cases h5
          · obtain ⟨y, h3, h4⟩ := h1 0 h0
            have hy := hall y (mem_elem (esz := 5) (i := 0) (by rw [h3]; exact stC_mem))
            have h6 := (h4.c hf).2
            rw [hy] at h6; cases h6
    have key : ∀ fl, fl = flag → ∃ r, Call tab pu 159 [x, .bool flag] H = some r ∧ ∃ G C, r = finish H.length G [slc H.length 0 0 l.length (l.length + R)] ∧ Pre H G ∧ G[H.length]? = some ⟨C, 5, 0, false⟩ ∧ C.length = (l.length + R) * 5 ∧
        (∀ j, j < l.length → ∃ y, elem C 5 j = stC (at0 l j) y ∧ CpI H G H.length fl (at0 l j) y) ∧ ∀ j, l.length ≤ j → j < l.length + R → ∃ y, elem C 5 j = stC stpF y ∧ CpI H G H.length true stpF y ∧ old0 H.length y = false := by
      intro fl hfl
      refine Call_ex t159 (.inr rfl) rfl ?_
      cases flag
      all_goals
        simp [c159, k159, hs.lenV, hn1, call296, hR, e1, ev1_mkS, mksV_int, hmk', skip, -Int.natCast_add]
        refine WP_count 6 l.length l.length rfl (fun i e G => e 0 = x ∧ e 1 = .bool fl ∧ e 5 = slc H.length 0 0 (l.length + R) (l.length + R) ∧ Pre H G ∧ ∃ C, G[H.length]? = some ⟨C, 5, 0, false⟩ ∧ C.length = (l.length + R) * 5 ∧ ∀ j, j < i → ∃ y, elem C 5 j = stC (at0 l j) y ∧ CpI H G H.length fl (at0 l j) y) (by omega) ?_ ?_ (by simp)
          ⟨by simp, by simp [hfl], by simp, Pre.one, _, get_last, by simp [rep_len], fun j hj => by omega⟩
        · rintro i e G _ hi hii e6 h6 ⟨h0, h1, h5, hP, C, hg, hC, hj⟩
          obtain ⟨q, off, ver, y0, ha, hrd, hrw⟩ := hs.get hi
          have hbG : H.length < G.length := (List.getElem?_eq_some_iff.1 hg).1
          obtain ⟨y, G', hcy, hPy, hI⟩ := cp81 (pu := true) (flag := fl) hbG hP (fun k => hrw.pre (hP.set (Nat.le_refl _))) (hr _ (at0_mem hi))
          have hi2 : i < l.length + R := by omega
          have hg' : G'[H.length]? = some ⟨C, 5, 0, false⟩ := by rw [hPy.get hbG]; exact hg
          have hm := mul_next (esz := 5) hi2
          have hwr := wr_at (n0 := H.length) (wb := false) (off := i * 5) (vs := stC (at0 l i) y) (ver := 0) hg' rfl rfl (by simp [may]) (by simp [stC]; omega)
          have hP' := (hP.trans hPy).set (b := H.length) (k := ⟨splice C (i * 5) (stC (at0 l i) y), 5, 0, false⟩) (Nat.le_refl _)
          have hlen : (stC (at0 l i) y).length = 5 := rfl
          simp [b159_1, h6, h0, h1, h5, hii, hs.lenV, ha, hP.rd hrd, hcy, at_nat hi2, hlen, hwr, wbOf, e6]
          refine ⟨hP', _, get_set hg', by rw [← hC]; simp [splice, stC]; omega, fun j hj2 => ?_⟩
          rw [elem_splice hC rfl hi2 (by omega)]
          by_cases hji : j = i
          · subst hji
            exact ⟨y, by rw [if_pos rfl], hI.set⟩
          · obtain ⟨y', h7, h8⟩ := hj j (by omega)
            exact ⟨y', by rw [if_neg hji, h7], (h8.pre hPy hbG).set⟩
        · rintro e G _ h6 ⟨h0, h1, h5, hP, C, hg, hC, hj⟩
          simp [b159_1, h6, h0, h5, hs.lenV]
          refine WP_from 7 l.length (l.length + R) ((l.length + R : Nat) : Int) rfl (fun i e G => e 0 = x ∧ e 5 = slc H.length 0 0 (l.length + R) (l.length + R) ∧ Pre H G ∧ ∃ C, G[H.length]? = some ⟨C, 5, 0, false⟩ ∧ C.length = (l.length + R) * 5 ∧ (∀ j, j < l.length → ∃ y, elem C 5 j = stC (at0 l j) y ∧ CpI H G H.length fl (at0 l j) y) ∧
            ∀ j, l.length ≤ j → j < i → ∃ y, elem C 5 j = stC stpF y ∧ CpI H G H.length true stpF y ∧ old0 H.length y = false) (by omega) (by omega) ?_ ?_ (by simp) ⟨by simp [h0], by simp [h5], hP, C, hg, hC, hj, fun j h1 h2 => by omega⟩
          · rintro i e G hni hi2 hii e6 h7 ⟨h0, h5, hP, C, hg, hC, hj, hj2⟩
            have hbG : H.length < G.length := (List.getElem?_eq_some_iff.1 hg).1
            obtain ⟨y, G', hcy, hPy, hI, ho⟩ := cp382 (pu := true) hbG hP
            have hg' : G'[H.length]? = some ⟨C, 5, 0, false⟩ := by rw [hPy.get hbG]; exact hg
            have hm := mul_next (esz := 5) hi2
            have hwr := wr_at (n0 := H.length) (wb := false) (off := i * 5) (vs := stC stpF y) (ver := 0) hg' rfl rfl (by simp [may]) (by simp [stC]; omega)
            have hP' := (hP.trans hPy).set (b := H.length) (k := ⟨splice C (i * 5) (stC stpF y), 5, 0, false⟩) (Nat.le_refl _)
            have hlen : (stC stpF y).length = 5 := rfl
            simp [b159_2, h7, h0, h5, hii, hcy, at_nat hi2, hlen, hwr, wbOf, e6, -Int.natCast_add]
            refine ⟨hP', _, get_set hg', by rw [← hC]; simp [splice, stC]; omega, fun j hjl => ?_, fun j hjl hji => ?_⟩
            · rw [elem_splice hC rfl hi2 (by omega), if_neg (by omega)]
              obtain ⟨y', h8, h9⟩ := hj j hjl
              exact ⟨y', h8, (h9.pre hPy hbG).set⟩
            · rw [elem_splice hC rfl hi2 (by omega)]
              by_cases hji2 : j = i
              · subst hji2
                exact ⟨y, by rw [if_pos rfl], hI.set, ho⟩
              · obtain ⟨y', h8, h9, h10⟩ := hj2 j hjl (by omega)
                exact ⟨y', by rw [if_neg hji2, h8], (h9.pre hPy hbG).set, h10⟩
          · rintro e G h7 ⟨h0, h5, hP, C, hg, hC, hj, hj2⟩
            have hsl : slcAV G 5 (slc H.length 0 0 (l.length + R) (l.length + R)) none (some (.int .i64 l.length)) none = some (slc H.length 0 0 l.length (l.length + R)) := slcAV_hi hg rfl rfl (by omega)
            simp [b159_2, h7, h0, h5, hs.lenV, hsl, -Int.natCast_add]
            exact ⟨G, rfl, hP, C, hg, hC, hj, hj2⟩
    obtain ⟨r, hcall, G, C, rfl, h⟩ := key flag rfl
    exact ⟨G, C, hcall, h⟩
theorem cp159 {pu : Bool} {H : Heap} {x : Value} {l : List Sted} {flag : Bool} (hs : StS H x l) (hn : l.length ≤ 1000000) (hr : ∀ s ∈ l, s.rows.length ≤ 1000000) :
    ∃ x' G, Call tab pu 159 [x, .bool flag] H = some (x', G) ∧ StS G x' l ∧ Pre H G ∧ (flag = false → CpS G x' l) := by
  obtain ⟨x', G, h1, h2, h3, h4⟩ := cpB159 (pu := pu) (flag := flag) hs hn hr
  exact ⟨x', G, h1, h2, h3, fun hf => (h4 hf).1⟩
theorem eqS2_call {f eqE esz : Nat} (hf : tab f = some (.fn (eqSC eqE esz))) {pu : Bool} {H : Heap} {x y : Value} {n : Nat} {vs ws : List Value} (hx : SlR H x esz n vs) (hy : SlR H y esz n ws) (hn : n ≤ 1000000000)
    (hE : ∀ i, i < n → Call tab true eqE [agg (elem vs esz i), agg (elem ws esz i)] H = some (.bool true, H)) : Call tab pu f [x, y] H = some (.bool true, H) := by
  refine Call_wp hf (.inr rfl) rfl ?_
  simp [eqSC, eqSK, hx.lenV, hy.lenV]
  refine WP_forH 5 n n rfl (by omega) (fun i e => e 0 = x ∧ e 1 = y) ?_ ?_ (by simp) (by simp)
  · rintro i e hi hlt e4 h5 ⟨h0, h1⟩
    obtain ⟨a, ha, hl⟩ := hx.get hi
    obtain ⟨a', ha', hl'⟩ := hy.get hi
    simp [eqSB1, h5, h0, h1, hlt, hx.lenV, ha, hl, ha', hl', hE i hi, e4]
  · rintro e h5 ⟨h0, h1⟩
    simp [eqSB1, h5, h0, h1, hx.lenV]
theorem call390 {pu : Bool} {H : Heap} {y y' : Value} {s : Sted} (h : Rw H y s) (h' : Rw H y' s) (hn : s.rows.length ≤ 1000000) : Call tab pu 390 [y, y'] H = some (.bool true, H) :=
  eqS_call s390 h h' (by omega) fun i hi => by rw [chsC_elem hi]; exact call529
theorem call166 {pu : Bool} {H : Heap} {y y' : Value} {s : Sted} (h : Rw H y s) (h' : Rw H y' s) (hn : s.rows.length ≤ 1000000) : Call tab pu 166 [agg (stC s y), agg (stC s y')] H = some (.bool true, H) := by
  refine Call_wp t166 (.inr rfl) rfl ?_
  simp [c166, k166, stC, ldc5a, ldc5b, ldc5c, ldc5d, ldc5e, call390 h h' hn]
theorem s213 : tab 213 = some (.fn (eqSC 166 5)) := t213
theorem in161 {pu : Bool} {H : Heap} {x y : Value} {l : List Sted} (hx : CpS H x l) (hy : CpS H y l) (hn : l.length ≤ 1000000) (hr : ∀ s ∈ l, s.rows.length ≤ 1000000) : Call tab pu 161 [x, y] H = some (.bool true, H) := by
  refine Call_wp t161 (.inr rfl) rfl ?_
  have sx := hx.sl
  have sy := hy.sl
  obtain ⟨b, ver, vs, rfl, hg, hl, h1, h2⟩ := hx
  obtain ⟨b', ver', ws, rfl, hg', hl', h1', h2'⟩ := hy
  have hrr := roomN_le (n := l.length)
  generalize hR : roomN l.length = R at *
  have e1 : IntKind.wrap .i64 ((l.length : Int) + (R : Int)) = ((l.length + R : Nat) : Int) := by rw [wrap64 (by omega)]; omega
  have s1 := slcAV_lohi (off := 0) (len := l.length) (cap := l.length + R) (lo := l.length) (hi := l.length + R) (kk := .i64) (kk' := .i64) hg rfl rfl (Nat.le_refl _) (by omega)
  have s2 := slcAV_lohi (off := 0) (len := l.length) (cap := l.length + R) (lo := l.length) (hi := l.length + R) (kk := .i64) (kk' := .i64) hg' rfl rfl (Nat.le_refl _) (by omega)
  rw [Nat.zero_add, show l.length + R - l.length = R by omega] at s1 s2
  have r1 : SlR H (slc b (l.length * 5) ver R R) 5 R (vs.drop (l.length * 5)) := ⟨by simp; omega, .inr ⟨b, _, ver, R, rfl, Nat.le_refl _, by rw [rd_at hg rfl (by simp only []; omega), List.take_of_length_le (by simp; omega)], _, hg, rfl, rfl⟩⟩
  have r2 : SlR H (slc b' (l.length * 5) ver' R R) 5 R (ws.drop (l.length * 5)) := ⟨by simp; omega, .inr ⟨b', _, ver', R, rfl, Nat.le_refl _, by rw [rd_at hg' rfl (by simp only []; omega), List.take_of_length_le (by simp; omega)], _, hg', rfl, rfl⟩⟩
  have hc := eqS2_call s213 (pu := true) r1 r2 (by omega) fun i hi => by
    obtain ⟨y1, e1, q1⟩ := h2 (l.length + i) (by omega) (by omega)
    obtain ⟨y2, e2, q2⟩ := h2' (l.length + i) (by omega) (by omega)
    rw [elem_drop, elem_drop, e1, e2]
    exact call166 q1 q2 (by decide)
  obtain ⟨x0, hx0⟩ : ∃ x0, x0 = slc b 0 ver l.length (l.length + R) := ⟨_, rfl⟩
  obtain ⟨y0, hy0⟩ : ∃ y0, y0 = slc b' 0 ver' l.length (l.length + R) := ⟨_, rfl⟩
  rw [← hx0] at s1 sx ⊢
  rw [← hy0] at s2 sy ⊢
  simp [c161, k161, sx.lenV, sy.lenV, call296, hR, e1, -Int.natCast_add]
  refine WP_forH 6 l.length _ rfl (by omega) (fun i e => e 0 = x0 ∧ e 1 = y0 ∧ e 5 = .int .i64 (l.length + R : Nat)) ?_ ?_ (by simp) (by simp)
  · rintro i e hi hlt e4 h6 ⟨h0, h1e, h5⟩
    obtain ⟨y1, g1, q1⟩ := h1 i hi
    obtain ⟨y2, g2, q2⟩ := h1' i hi
    have m := mul_next (esz := 5) (show i < l.length + R by omega)
    have a1 : idxAV 5 x0 (.int .i64 (i : Int)) = some (adr b (i * 5) ver) := by rw [hx0, idxAV_slc, at_nat hi]; simp
    have a2 : idxAV 5 y0 (.int .i64 (i : Int)) = some (adr b' (i * 5) ver') := by rw [hy0, idxAV_slc, at_nat hi]; simp
    have d1 : rd H b (i * 5) ver 5 = some (stC (at0 l i) y1) := by rw [rd_at hg rfl (by simp only []; omega), ← g1]; rfl
    have d2 : rd H b' (i * 5) ver' 5 = some (stC (at0 l i) y2) := by rw [rd_at hg' rfl (by simp only []; omega), ← g2]; rfl
    have hi83 := call83 (pu := true) (a := (at0 l i).a) (b := (at0 l i).b) (c := (at0 l i).c) (d := (at0 l i).d) q1 q2 (hr _ (at0_mem hi))
    rw [stp_eq, stp_eq] at hi83
    simp [b161_1, h6, h0, h1e, h5, hlt, sy.lenV, a1, a2, d1, d2, hi83, e4, -Int.natCast_add]
  · rintro e h6 ⟨h0, h1e, h5⟩
    simp [b161_1, h6, h0, h1e, h5, sy.lenV, s1, s2, hc, -Int.natCast_add]
theorem sz157 {H : Heap} {x : Value} {l : List Sted} (hs : StS H x l) (hn : l.length ≤ 9223372036854775807) (hr : ∀ s ∈ l, s.rows.length ≤ 9223372036854775807) {left : Int} (h0 : 0 ≤ left) (h1 : left ≤ 1000000) :
    ∃ v, Call tab true 157 [x, .int .i64 left] H = some (.int .i64 v, H) ∧ v ≤ left ∧ (0 ≤ v → l.length ≤ 1000000 ∧ ∀ s ∈ l, s.rows.length ≤ 1000000) := by
  have key : ∃ r, Call tab true 157 [x, .int .i64 left] H = some r ∧ ∃ v, r = (.int .i64 v, H) ∧ v ≤ left ∧ (0 ≤ v → l.length ≤ 1000000 ∧ ∀ s ∈ l, s.rows.length ≤ 1000000) := by
    refine Call_ex t157 (.inr rfl) rfl ?_
    have e1 : IntKind.wrap .i64 (left - l.length) = left - l.length := wrap64 (by omega)
    by_cases h2 : left - (l.length : Int) < 0
    · simp [c157, k157, hs.lenV, e1, h2]
      omega
    · simp [c157, k157, hs.lenV, e1, h2]
      refine WP_forH 5 l.length _ rfl (by omega) (fun i e => e 0 = x ∧ ∃ v, e 1 = .int .i64 v ∧ 0 ≤ v ∧ v ≤ left ∧ ∀ j, j < i → (at0 l j).rows.length ≤ 1000000) ?_ ?_ (by simp) ⟨by simp, _, by simp; rfl, by omega, by omega, fun j hj => by omega⟩
      · rintro i e hi hlt e4 h5 ⟨h0e, v, h1e, hv0, hv1, hj⟩
        obtain ⟨q, off, ver, y, ha, hrd, hrw⟩ := hs.get hi
        have hsz := call79 (pu := true) (a := (at0 l i).a) (b := (at0 l i).b) (c := (at0 l i).c) (d := (at0 l i).d) hrw (hr _ (at0_mem hi)) hv0 (by omega)
        rw [stp_eq] at hsz
        by_cases h3 : v - ((at0 l i).rows.length : Int) < 0
        · rw [if_pos h3] at hsz
          simp [b157_1, h5, h0e, h1e, hlt, hs.lenV, ha, hrd, hsz]
          omega
        · rw [if_neg h3] at hsz
          simp [b157_1, h5, h0e, h1e, hlt, hs.lenV, ha, hrd, hsz, h3, e4]
          exact ⟨by omega, by omega, upto_succ hj (by omega)⟩
      · rintro e h5 ⟨h0e, v, h1e, hv0, hv1, hj⟩
        simp [b157_1, h5, h0e, h1e, hs.lenV]
        exact ⟨hv1, fun _ => ⟨by omega, fun s hs' => by
          obtain ⟨i, hi, rfl⟩ := List.getElem_of_mem hs'
          have := hj i hi
          rwa [show at0 l i = l[i] from Option.some.inj ((at0_get hi).symm.trans (List.getElem?_eq_getElem hi))] at this⟩⟩
  obtain ⟨r, hc, v, rfl, h⟩ := key
  exact ⟨v, hc, h⟩
def rw' (s : Sted) (j : Nat) : Int × Int := at0 s.rows j
def in1 (n lo hi : Int) : Bool := decide (lo ≤ n ∧ n ≤ hi)
def rowB (s : Sted) (j : Nat) : Bool := in1 (rw' s j).1 0 11 && in1 (rw' s j).2 1 4095 && (decide (j = 0) || decide ((rw' s (j - 1)).1 < (rw' s j).1))
def rowsB (s : Sted) : Bool := allN (rowB s) s.rows.length
def stillB (s : Sted) : Bool := (s.c == 0) && (s.d == 0)
def kindB (s : Sted) (i : Nat) : Bool :=
  if (s.a == 0) = true then (s.b == 0) && stillB s else if (s.a == 1) = true then in1 s.b 0 ((i : Int) - 1) && stillB s
  else if (s.a == 2) = true then in1 s.b 0 ((i : Int) - 1) && !stillB s && in1 s.c (-12) 12 && in1 s.d (-12) 12 else false
def okSt (s : Sted) (i : Nat) : Bool := rowsB s && kindB s i
def okSts (l : List Sted) : Bool := allN (fun i => okSt (at0 l i) i) l.length && decide (l.length ≤ 40)
theorem in295 {pu : Bool} {H : Heap} {n lo hi : Int} : Call tab pu 295 [.int .i64 n, .int .i64 lo, .int .i64 hi] H = some (.bool (in1 n lo hi), H) := call295
theorem in304 {pu : Bool} {H : Heap} {n lo hi : Int} : Call tab pu 304 [.int .i64 n, .int .i64 lo, .int .i64 hi] H = some (.bool (in1 n lo hi), H) := call304
theorem Rw.at {H : Heap} {y : Value} {s : Sted} (h : Rw H y s) {j : Nat} (hj : j < s.rows.length) : ∃ q off ver, idxAV 2 y (.int .i64 (j : Int)) = some (adr q off ver) ∧ rd H q off ver 2 = some [.int .i8 (rw' s j).1, .int .u16 (rw' s j).2] ∧
    rd H q off ver 1 = some [.int .i8 (rw' s j).1] ∧ rd H q (off + 1) ver 1 = some [.int .u16 (rw' s j).2] := by
  obtain ⟨q, off, ver, h1, h2⟩ := SlR.get1 h hj
  rw [chsC_elem hj] at h2
  have h3 := rd_part h2 (o := 0) (m := 1) (by omega)
  have h4 := rd_part h2 (o := 1) (m := 1) (by omega)
  exact ⟨q, off, ver, h1, h2, h3, h4⟩
theorem StW.row {s : Sted} (h : StW s) {j : Nat} (hj : j < s.rows.length) : i8 (rw' s j).1 ∧ u16' (rw' s j).2 := h.rows _ (at0_mem hj)
theorem call573 {pu : Bool} {H : Heap} {y : Value} {s : Sted} (h : Rw H y s) (hw : StW s) (hn : s.rows.length ≤ 1000000) : Call tab pu 573 [y] H = some (.bool (rowsB s), H) := by
  refine Call_wp t573 (.inr rfl) rfl ?_
  simp [c573, k573]
  refine WP_forH 3 s.rows.length _ rfl (by omega) (fun j e => e 0 = y ∧ ∀ i, i < j → rowB s i = true) ?_ ?_ (by simp) (by simp)
  · rintro j e hj hjj e4 h3 ⟨h0, hp⟩
    obtain ⟨q, off, ver, ha, hr, hr1, hr2⟩ := Rw.at h hj
    obtain ⟨w1, w2⟩ := hw.row hj
    have e1 : IntKind.wrap .i64 (rw' s j).1 = (rw' s j).1 := wrap64 (by omega)
    have e2 : IntKind.wrap .i64 (rw' s j).2 = (rw' s j).2 := wrap64 (by omega)
    cases b1 : in1 (rw' s j).1 0 11 with
    | false =>
      have hb : rowB s j = false := by simp [rowB, b1]
      simp [b573_1, h3, h0, hjj, SlR.lenV h, ha, hr1, e1, in304, b1, skip, rowsB, allN_false hj hb]
    | true =>
      cases b2 : in1 (rw' s j).2 1 4095 with
      | false =>
        have hb : rowB s j = false := by simp [rowB, b2]
        simp [b573_1, h3, h0, hjj, SlR.lenV h, ha, hr1, hr2, e1, e2, in304, b1, b2, skip, rowsB, allN_false hj hb]
      | true =>
        rcases Nat.eq_zero_or_pos j with h0j | h0j
        · subst h0j
          have hb : rowB s 0 = true := by simp [rowB, b1, b2]
          have ha' : idxAV 2 y (.int .i64 0) = some (adr q off ver) := ha
          have h3' : e 3 = .int .i64 0 := h3
          have hj' : (0 : Int) < s.rows.length := by omega
          have e4' : IntKind.wrap .i64 (0 + 1) = 1 := by decide
          simp [b573_1, h3', h0, hj, SlR.lenV h, ha', hr1, hr2, e1, e2, in304, b1, b2, skip, e4']
          exact hb
        · obtain ⟨q', off', ver', ha', hr', hr1', hr2'⟩ := Rw.at h (j := j - 1) (by omega)
          have c1 : IntKind.wrap .i64 ((j : Int) - 1) = ((j - 1 : Nat) : Int) := by rw [wrap64 (by omega)]; omega
          have hj0 : (0 : Int) < (j : Int) := by omega
          by_cases hlt : (rw' s (j - 1)).1 < (rw' s j).1
          · have hb : rowB s j = true := by simp [rowB, b1, b2, hlt]
            have hnle : ¬ ((rw' s j).1 ≤ (rw' s (j - 1)).1) := by omega
            simp [b573_1, h3, h0, hjj, SlR.lenV h, ha, hr1, hr2, e1, e2, in304, b1, b2, h0j, c1, ha', hr1', hnle, skip, e4]
            exact upto_succ hp hb
          · have hb : rowB s j = false := by simp [rowB, hlt]; intro _ _; omega
            have hle : (rw' s j).1 ≤ (rw' s (j - 1)).1 := by omega
            simp [b573_1, h3, h0, hjj, SlR.lenV h, ha, hr1, hr2, e1, e2, in304, b1, b2, h0j, c1, ha', hr1', hle, skip, rowsB, allN_false hj hb]
  · rintro e h3 ⟨h0, hp⟩
    simp [b573_1, h3, h0, SlR.lenV h, rowsB, allN_true hp]
theorem call572 {pu : Bool} {H : Heap} {n : Int} : Call tab pu 572 [.int .i64 n] H = some (.bool (in1 n (-12) 12), H) := by
  refine Call_wp t572 (.inr rfl) rfl ?_
  simp [c572, k572, in304]
theorem call524 {pu : Bool} {H : Heap} {q off ver : Nat} {y : Value} {s : Sted} {i : Nat} (hrd : rd H q off ver 5 = some (stC s y)) (h : Rw H y s) (hw : StW s) (hn : s.rows.length ≤ 1000000) (hi : i ≤ 1000000) : Call tab pu 524 [adr q off ver, .int .i64 i] H = some (.bool (okSt s i), H) := by
  refine Call_wp t524 (.inr rfl) rfl ?_
  have hrows := call573 (pu := true) h hw hn
  obtain ⟨wa, wb, wc, wd, _⟩ := hw
  have d0 := rd_part hrd (o := 0) (m := 1) (by omega)
  have d1 := rd_part hrd (o := 1) (m := 1) (by omega)
  have d2 := rd_part hrd (o := 2) (m := 1) (by omega)
  have d3 := rd_part hrd (o := 3) (m := 1) (by omega)
  have d4 := rd_part hrd (o := 4) (m := 1) (by omega)
  simp [stC] at d0 d1 d2 d3 d4
  have ea : IntKind.wrap .i64 s.a = s.a := wrap64 (by omega)
  have eb : IntKind.wrap .i64 s.b = s.b := wrap64 (by omega)
  have ec : IntKind.wrap .i64 s.c = s.c := wrap64 (by omega)
  have ed : IntKind.wrap .i64 s.d = s.d := wrap64 (by omega)
  have ei : IntKind.wrap .i64 ((i : Int) - 1) = (i : Int) - 1 := wrap64 (by omega)
  have h309 : ∀ (pu : Bool) (G : Heap) (n : Int), Call tab pu 309 [.int .i64 n] G = some (.bool (in1 n 0 2), G) := fun pu G n => call309
  cases hr : rowsB s with
  | false =>
    have hok : okSt s i = false := by simp [okSt, hr]
    cases b1 : in1 s.a 0 2 <;> cases b2 : in1 s.c (-12) 12 <;> cases b3 : in1 s.d (-12) 12 <;>
      simp [c524, k524, d0, d1, d2, d3, d4, ea, ec, ed, h309, b1, call572, b2, b3, hrows, hr, hok, skip]
  | true =>
    have hok : okSt s i = kindB s i := by simp [okSt, hr]
    cases b1 : in1 s.a 0 2 with
    | false =>
      have a0 : (s.a == 0) = false := by simp [in1] at b1; simp; omega
      have a1 : (s.a == 1) = false := by simp [in1] at b1; simp; omega
      have a2 : (s.a == 2) = false := by simp [in1] at b1; simp; omega
      have hk : kindB s i = false := by simp [kindB, a0, a1, a2]
      simp [c524, k524, d0, d1, d2, d3, d4, ea, ec, ed, h309, b1, hok, hk, skip]
    | true =>
      cases b2 : in1 s.c (-12) 12 with
      | false =>
        have c0 : (s.c == 0) = false := by simp [in1] at b2; simp; omega
        have hk : kindB s i = false := by
          cases a0 : (s.a == 0) <;> cases a1 : (s.a == 1) <;> cases a2 : (s.a == 2) <;> simp [kindB, stillB, a0, a1, a2, c0, b2]
        simp [c524, k524, d0, d1, d2, d3, d4, ea, ec, ed, h309, b1, call572, b2, hok, hk, skip]
      | true =>
        cases b3 : in1 s.d (-12) 12 with
        | false =>
          have c0 : (s.d == 0) = false := by simp [in1] at b3; simp; omega
          have hk : kindB s i = false := by
            cases a0 : (s.a == 0) <;> cases a1 : (s.a == 1) <;> cases a2 : (s.a == 2) <;> simp [kindB, stillB, a0, a1, a2, c0, b3]
          simp [c524, k524, d0, d1, d2, d3, d4, ea, ec, ed, h309, b1, call572, b2, b3, hok, hk, skip]
        | true =>
          have a012 : (s.a == 0) = false → (s.a == 1) = false → (s.a == 2) = true := fun h1 h2 => by simp [in1] at b1 h1 h2 ⊢; omega
          cases a0 : (s.a == 0)
          · cases a1 : (s.a == 1)
            · have a2 := a012 a0 a1
              cases c0 : (s.c == 0) <;> cases e0 : (s.d == 0) <;> cases b5 : in1 s.b 0 ((i : Int) - 1) <;>
                simp [c524, k524, d0, d1, d2, d3, d4, ea, eb, ec, ed, ei, h309, b1, call572, b2, b3, hrows, hr, hok, skip, a0, a1, a2, c0, e0, in304, b5, kindB, stillB]
            · cases c0 : (s.c == 0) <;> cases e0 : (s.d == 0) <;> cases b5 : in1 s.b 0 ((i : Int) - 1) <;>
                simp [c524, k524, d0, d1, d2, d3, d4, ea, eb, ec, ed, ei, h309, b1, call572, b2, b3, hrows, hr, hok, skip, a0, a1, c0, e0, in304, b5, kindB, stillB]
          · cases c0 : (s.c == 0) <;> cases e0 : (s.d == 0) <;> cases b0 : (s.b == 0) <;>
              simp [c524, k524, d0, d1, d2, d3, d4, ea, eb, ec, ed, ei, h309, b1, call572, b2, b3, hrows, hr, hok, skip, a0, c0, e0, b0, kindB, stillB]
structure StsW (l : List Sted) : Prop where
  w : ∀ s ∈ l, StW s
  n : l.length ≤ 1000000
  r : ∀ s ∈ l, s.rows.length ≤ 1000000
theorem call386 {pu : Bool} {H : Heap} {x : Value} {l : List Sted} (h : StS H x l) (hw : StsW l) : Call tab pu 386 [x] H = some (.bool (okSts l), H) := by
  refine Call_wp t386 (.inr rfl) rfl ?_
  have hn := hw.n
  simp [c386, k386]
  refine WP_forH 3 l.length _ rfl (by omega) (fun i e => e 0 = x ∧ ∀ j, j < i → okSt (at0 l j) j = true) ?_ ?_ (by simp) (by simp)
  · rintro i e hi hii e4 h3 ⟨h0, hp⟩
    obtain ⟨q, off, ver, y, ha, hrd, hrw⟩ := h.get hi
    have hc := call524 (pu := true) (i := i) hrd hrw (hw.w _ (at0_mem hi)) (hw.r _ (at0_mem hi)) (by omega)
    cases hk : okSt (at0 l i) i with
    | true =>
      rw [hk] at hc
      simp [b386_1, h3, h0, hii, h.lenV, ha, hc, e4]
      exact upto_succ hp hk
    | false =>
      rw [hk] at hc
      simp [b386_1, h3, h0, hii, h.lenV, ha, hc, okSts, allN_false (p := fun i => okSt (at0 l i) i) hi hk]
  · rintro e h3 ⟨h0, hp⟩
    have e1 : decide ((l.length : Int) ≤ 40) = decide (l.length ≤ 40) := by apply decide_eq_decide.2; omega
    simp [b386_1, h3, h0, h.lenV, okSts, allN_true (p := fun i => okSt (at0 l i) i) hp, e1]
end Fb
