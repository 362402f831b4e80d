/- What each function computes. -/
import Derived.Test.YtjfmgpnkippbpabTab
import Derived.Test.YtjfmgpnkippbpabPl
set_option linter.unusedVariables false
set_option linter.unusedSimpArgs false
namespace Fb
open Go
theorem call304 {pu : Bool} {a b c : Int} {H : Heap} : Call tab pu 304 [.int .i64 a, .int .i64 b, .int .i64 c] H = some (.bool (decide (b ≤ a ∧ a ≤ c)), H) := by
  refine Call_wp t304 (.inr rfl) rfl ?_
  by_cases h : b ≤ a <;> simp [c304, k304, h, skip]
theorem call295 {pu : Bool} {a b c : Int} {H : Heap} : Call tab pu 295 [.int .i64 a, .int .i64 b, .int .i64 c] H = some (.bool (decide (b ≤ a ∧ a ≤ c)), H) := by
  refine Call_wp t295 (.inr rfl) rfl ?_
  by_cases h : b ≤ a <;> simp [c295, k295, h, skip]
/-- The first m numbers of a row are turned. -/
def part (f : Int → Int) (m : Nat) (l : List Int) : List Int := (l.take m).map f ++ l.drop m
def szSK  : Cd :=
  (.seq
   (.reg [4] [
     ⟨none, (some 4), .mov (.c (.int .i64 0)), []⟩])
   (.seq
    (.reg [1] [
      ⟨none, (some 5), .mov (.t 1), []⟩,
      ⟨none, (some 6), .mov (.t 0), []⟩,
      ⟨none, (some 7), .len (.t 6), []⟩,
      ⟨none, (some 8), .bin .sub (.t 5) (.t 7), []⟩,
      ⟨none, (some 1), .mov (.t 8), []⟩])
    (.seq
     (.seq
      (.reg [10] [
        ⟨none, (some 9), .mov (.t 1), []⟩,
        ⟨none, (some 10), .bin .lss (.t 9) (.c (.int .i64 0)), []⟩])
      (.cond (.t 10)
       (.seq
        (.reg [4] [
          ⟨none, (some 4), .mov (.c (.int .i64 (-1))), []⟩])
        .ret)
       .skip))
     (.seq
      (.reg [4] [
        ⟨none, (some 11), .mov (.t 1), []⟩,
        ⟨none, (some 4), .mov (.t 11), []⟩])
      .ret))))
def szSC  : Fn := { np := 2, nt := 12, kind := .pure, res := [.t 4], body := szSK  }
def toSB1 (toE : Nat) (esz : Nat) (bytes : Nat) (z : List Value) (fo : Op1) : Cd :=
  (.seq
   (.seq
    (.reg [24] [
      ⟨none, (some 21), .mov (.t 6), []⟩,
      ⟨none, (some 22), .mov (.t 0), []⟩,
      ⟨none, (some 23), .len (.t 22), []⟩,
      ⟨none, (some 24), .bin .lss (.t 21) (.t 23), []⟩])
    (.cond (.t 24)
     .skip
     (.exit 0)))
   (.seq
    (.block 1
     (.reg [] [
       ⟨none, (some 27), .mov (.t 5), []⟩,
       ⟨none, (some 28), .mov (.t 6), []⟩,
       ⟨none, (some 29), .mov (.t 0), []⟩,
       ⟨none, (some 30), .mov (.t 6), []⟩,
       ⟨none, (some 31), .idxA esz (.t 29) (.t 30), []⟩,
       ⟨none, (some 32), .ld esz true (.t 31), []⟩,
       ⟨none, (some 33), .call true toE [.t 32], []⟩,
       ⟨none, (some 34), .idxA esz (.t 27) (.t 28), []⟩,
       ⟨none, none, .st esz (.t 34) (.t 33), []⟩]))
    (.reg [6] [
      ⟨none, (some 25), .mov (.t 6), []⟩,
      ⟨none, (some 26), .bin .add (.t 25) (.c (.int .i64 1)), []⟩,
      ⟨none, (some 6), .mov (.t 26), []⟩])))
def toSB2 (toE : Nat) (esz : Nat) (bytes : Nat) (z : List Value) (fo : Op1) : Cd :=
  (.seq
   (.seq
    (.reg [40] [
      ⟨none, (some 37), .mov (.t 7), []⟩,
      ⟨none, (some 38), .mov (.t 5), []⟩,
      ⟨none, (some 39), .len (.t 38), []⟩,
      ⟨none, (some 40), .bin .lss (.t 37) (.t 39), []⟩])
    (.cond (.t 40)
     .skip
     (.exit 2)))
   (.seq
    (.block 3
     (.reg [] [
       ⟨none, (some 43), .mov (.t 5), []⟩,
       ⟨none, (some 44), .mov (.t 7), []⟩,
       ⟨none, (some 45), fo, []⟩,
       ⟨none, (some 46), .idxA esz (.t 43) (.t 44), []⟩,
       ⟨none, none, .st esz (.t 46) (.t 45), []⟩]))
    (.reg [7] [
      ⟨none, (some 41), .mov (.t 7), []⟩,
      ⟨none, (some 42), .bin .add (.t 41) (.c (.int .i64 1)), []⟩,
      ⟨none, (some 7), .mov (.t 42), []⟩])))
def toSK (toE : Nat) (esz : Nat) (bytes : Nat) (z : List Value) (fo : Op1) : Cd :=
  (.seq
   (.reg [4] [
     ⟨none, (some 4), .mov (.c (.slice none 0 0)), []⟩])
   (.seq
    (.seq
     (.reg [13] [
       ⟨none, (some 8), .mov (.t 1), []⟩,
       ⟨none, (some 9), .mov (.t 8), []⟩,
       ⟨(some (9, true)), (some 10), .mov (.t 0), []⟩,
       ⟨(some (9, true)), (some 11), .len (.t 10), []⟩,
       ⟨(some (9, true)), (some 12), .bin .eql (.t 11) (.c (.int .i64 0)), []⟩,
       ⟨none, (some 13), .pick (.t 9) (.t 12) (.c (.bool false)), []⟩])
     (.cond (.t 13)
      (.seq
       (.reg [4] [
         ⟨none, (some 4), .mov (.c (.slice none 0 0)), []⟩])
       .ret)
      .skip))
    (.seq
     (.reg [5] [
       ⟨none, (some 14), .mov (.t 0), []⟩,
       ⟨none, (some 15), .len (.t 14), []⟩,
       ⟨none, (some 16), .mov (.t 0), []⟩,
       ⟨none, (some 17), .len (.t 16), []⟩,
       ⟨none, (some 18), .call true 296 [.t 17], []⟩,
       ⟨none, (some 19), .bin .add (.t 15) (.t 18), []⟩,
       ⟨none, (some 20), .mkS esz bytes z (.t 19) (.t 19), []⟩,
       ⟨none, (some 5), .mov (.t 20), []⟩])
     (.seq
      (.seq
       (.reg [6] [
         ⟨none, (some 6), .mov (.c (.int .i64 0)), []⟩])
       (.block 0
        (.loop (toSB1 toE esz bytes z fo))))
      (.seq
       (.seq
        (.reg [7] [
          ⟨none, (some 35), .mov (.t 0), []⟩,
          ⟨none, (some 36), .len (.t 35), []⟩,
          ⟨none, (some 7), .mov (.t 36), []⟩])
        (.block 2
         (.loop (toSB2 toE esz bytes z fo))))
       (.seq
        (.reg [4] [
          ⟨none, (some 47), .mov (.t 5), []⟩,
          ⟨none, (some 48), .mov (.t 0), []⟩,
          ⟨none, (some 49), .len (.t 48), []⟩,
          ⟨none, (some 50), .slcA esz (.t 47) none (some (.t 49)) none, []⟩,
          ⟨none, (some 4), .mov (.t 50), []⟩])
        .ret))))))
def toSC (toE : Nat) (esz : Nat) (bytes : Nat) (z : List Value) (fo : Op1) : Fn := { np := 2, nt := 51, kind := .pure, res := [.t 4], body := toSK toE esz bytes z fo }
def inSK (eqS : Nat) (esz : Nat) : Cd :=
  (.seq
   (.reg [4] [
     ⟨none, (some 4), .mov (.c (.bool false)), []⟩])
   (.seq
    (.reg [5] [
      ⟨none, (some 6), .mov (.t 1), []⟩,
      ⟨none, (some 7), .len (.t 6), []⟩,
      ⟨none, (some 8), .mov (.t 1), []⟩,
      ⟨none, (some 9), .len (.t 8), []⟩,
      ⟨none, (some 10), .call true 296 [.t 9], []⟩,
      ⟨none, (some 11), .bin .add (.t 7) (.t 10), []⟩,
      ⟨none, (some 5), .mov (.t 11), []⟩])
    (.seq
     (.reg [4] [
       ⟨none, (some 12), .mov (.t 0), []⟩,
       ⟨none, (some 13), .len (.t 12), []⟩,
       ⟨none, (some 14), .mov (.t 1), []⟩,
       ⟨none, (some 15), .len (.t 14), []⟩,
       ⟨none, (some 16), .bin .eql (.t 13) (.t 15), []⟩,
       ⟨none, (some 17), .mov (.t 16), []⟩,
       ⟨(some (17, true)), (some 18), .mov (.t 0), []⟩,
       ⟨(some (17, true)), (some 19), .mov (.t 5), []⟩,
       ⟨(some (17, true)), (some 20), .slcA esz (.t 18) none (some (.t 19)) none, []⟩,
       ⟨(some (17, true)), (some 21), .mov (.t 1), []⟩,
       ⟨(some (17, true)), (some 22), .mov (.t 5), []⟩,
       ⟨(some (17, true)), (some 23), .slcA esz (.t 21) none (some (.t 22)) none, []⟩,
       ⟨(some (17, true)), (some 24), .call true eqS [.t 20, .t 23], []⟩,
       ⟨none, (some 25), .pick (.t 17) (.t 24) (.c (.bool false)), []⟩,
       ⟨none, (some 4), .mov (.t 25), []⟩])
     .ret)))
def inSC (eqS : Nat) (esz : Nat) : Fn := { np := 2, nt := 26, kind := .pure, res := [.t 4], body := inSK eqS esz }
def eqSB1 (eqE : Nat) (esz : Nat) : Cd :=
  (.seq
   (.seq
    (.reg [14] [
      ⟨none, (some 11), .mov (.t 5), []⟩,
      ⟨none, (some 12), .mov (.t 0), []⟩,
      ⟨none, (some 13), .len (.t 12), []⟩,
      ⟨none, (some 14), .bin .lss (.t 11) (.t 13), []⟩])
    (.cond (.t 14)
     .skip
     (.exit 0)))
   (.seq
    (.block 1
     (.seq
      (.reg [26] [
        ⟨none, (some 17), .mov (.t 0), []⟩,
        ⟨none, (some 18), .mov (.t 5), []⟩,
        ⟨none, (some 19), .idxA esz (.t 17) (.t 18), []⟩,
        ⟨none, (some 20), .ld esz true (.t 19), []⟩,
        ⟨none, (some 21), .mov (.t 1), []⟩,
        ⟨none, (some 22), .mov (.t 5), []⟩,
        ⟨none, (some 23), .idxA esz (.t 21) (.t 22), []⟩,
        ⟨none, (some 24), .ld esz true (.t 23), []⟩,
        ⟨none, (some 25), .call true eqE [.t 20, .t 24], []⟩,
        ⟨none, (some 26), .un .not (.t 25), []⟩])
      (.cond (.t 26)
       (.seq
        (.reg [4] [
          ⟨none, (some 4), .mov (.c (.bool false)), []⟩])
        .ret)
       .skip)))
    (.reg [5] [
      ⟨none, (some 15), .mov (.t 5), []⟩,
      ⟨none, (some 16), .bin .add (.t 15) (.c (.int .i64 1)), []⟩,
      ⟨none, (some 5), .mov (.t 16), []⟩])))
def eqSK (eqE : Nat) (esz : Nat) : Cd :=
  (.seq
   (.reg [4] [
     ⟨none, (some 4), .mov (.c (.bool false)), []⟩])
   (.seq
    (.seq
     (.reg [10] [
       ⟨none, (some 6), .mov (.t 0), []⟩,
       ⟨none, (some 7), .len (.t 6), []⟩,
       ⟨none, (some 8), .mov (.t 1), []⟩,
       ⟨none, (some 9), .len (.t 8), []⟩,
       ⟨none, (some 10), .bin .neq (.t 7) (.t 9), []⟩])
     (.cond (.t 10)
      (.seq
       (.reg [4] [
         ⟨none, (some 4), .mov (.c (.bool false)), []⟩])
       .ret)
      .skip))
    (.seq
     (.seq
      (.reg [5] [
        ⟨none, (some 5), .mov (.c (.int .i64 0)), []⟩])
      (.block 0
       (.loop (eqSB1 eqE esz))))
     (.seq
      (.reg [4] [
        ⟨none, (some 4), .mov (.c (.bool true)), []⟩])
      .ret))))
def eqSC (eqE : Nat) (esz : Nat) : Fn := { np := 2, nt := 27, kind := .pure, res := [.t 4], body := eqSK eqE esz }
def roomN (n : Nat) : Nat := if n % 6 = 5 then 0 else if n % 3 = 0 then 1 else n
theorem roomN_le {n : Nat} : roomN n ≤ n + 1 := by
  unfold roomN
  split
  · omega
  · split <;> omega
theorem call296 {pu : Bool} {H : Heap} {n : Nat} : Call tab pu 296 [.int .i64 n] H = some (.int .i64 (roomN n), H) := by
  refine Call_wp t296 (.inr rfl) rfl ?_
  have e1 : ((n : Int).tmod 6 == 5) = decide (n % 6 = 5) := by
    rw [Int.tmod_eq_emod_of_nonneg (by omega)]
    apply Bool.eq_iff_iff.2
    simp; omega
  have e2 : ((n : Int).tmod 3 == 0) = decide (n % 3 = 0) := by
    rw [Int.tmod_eq_emod_of_nonneg (by omega)]
    apply Bool.eq_iff_iff.2
    simp; omega
  unfold roomN
  by_cases h1 : n % 6 = 5
  · simp (disch := decide) [c296, k296, e1, h1]
  · by_cases h2 : n % 3 = 0
    · simp (disch := decide) [c296, k296, e1, h1, e2, h2]
    · simp (disch := decide) [c296, k296, e1, h1, e2, h2]
/-- The i-th of a row of things. -/
def elem (vs : List Value) (esz i : Nat) : List Value := (vs.drop (i * esz)).take esz
theorem mul_next {i n esz : Nat} (h : i < n) : i * esz + esz ≤ n * esz := by
  have := Nat.mul_le_mul_right esz (show i + 1 ≤ n from h)
  rwa [Nat.succ_mul] at this
theorem elem_length {vs : List Value} {esz n i : Nat} (hl : vs.length = n * esz) (h : i < n) : (elem vs esz i).length = esz := by
  have := mul_next (esz := esz) h
  simp [elem]; omega
/-- A slice that can be read. -/
structure SlR (H : Heap) (x : Value) (esz n : Nat) (vs : List Value) : Prop where
  size : vs.length = n * esz
  is : (x = .slice none 0 0 ∧ n = 0) ∨ ∃ b off ver cap, x = slc b off ver n cap ∧ n ≤ cap ∧ rd H b off ver (n * esz) = some vs
theorem SlR.lenV {H : Heap} {x : Value} {esz n : Nat} {vs : List Value} (h : SlR H x esz n vs) : lenV x = some (.int .i64 n) := by
  rcases h.is with ⟨rfl, rfl⟩ | ⟨b, off, ver, cap, rfl, _⟩ <;> rfl
theorem SlR.app {H L : Heap} {x : Value} {esz n : Nat} {vs : List Value} (h : SlR H x esz n vs) : SlR (H ++ L) x esz n vs :=
  ⟨h.size, h.is.imp id fun ⟨b, off, ver, cap, h1, h2, h3⟩ => ⟨b, off, ver, cap, h1, h2, rd_app h3⟩⟩
theorem SlR.get {H : Heap} {x : Value} {esz n : Nat} {vs : List Value} (h : SlR H x esz n vs) {i : Nat} (hi : i < n) : ∃ a, idxAV esz x (.int .i64 (i : Int)) = some a ∧ ldH H esz true a = some (agg (elem vs esz i)) := by
  rcases h.is with ⟨rfl, rfl⟩ | ⟨b, off, ver, cap, rfl, h2, h3⟩
  · omega
  · refine ⟨adr b (off + i * esz) ver, by rw [idxAV_slc, at_nat hi]; rfl, ?_⟩
    rw [ldH_adr, rd_part h3 (mul_next hi)]; rfl
theorem SlR.of {H : Heap} {x : Value} {esz n : Nat} {vs : List Value} (h1 : vs.length = n * esz) (h : (x = .slice none 0 0 ∧ n = 0) ∨ ∃ b cap, x = slc b 0 0 n cap ∧ n ≤ cap ∧ rd H b 0 0 (n * esz) = some vs) : SlR H x esz n vs :=
  ⟨h1, h.imp id fun ⟨b, cap, h1, h2, h3⟩ => ⟨b, 0, 0, cap, h1, h2, h3⟩⟩
theorem sz_call {f : Nat} (hf : tab f = some (.fn szSC)) {pu : Bool} {H : Heap} {x : Value} {esz n : Nat} {vs : List Value} (h : SlR H x esz n vs) {left : Int} (h0 : 0 ≤ left) (h1 : left ≤ 1000000) (hn : n ≤ 9223372036854775807) :
    Call tab pu f [x, .int .i64 left] H = some (.int .i64 (if left - n < 0 then -1 else left - n), H) := by
  refine Call_wp hf (.inr rfl) rfl ?_
  have e1 : IntKind.wrap .i64 (left - n) = left - n := wrap64 (by omega)
  by_cases h2 : left - (n : Int) < 0
  · simp [szSC, szSK, h.lenV, e1, h2]
  · simp [szSC, szSK, h.lenV, e1, h2]
/-- A row of which the first part is written already. -/
theorem splice_tk {C D vs : List Value} {o k : Nat} (hC : C.length = D.length) (hk : o + k ≤ D.length) (h : C.take o = D.take o) (hv : vs = (D.drop o).take k) : (splice C o vs).length = D.length ∧ (splice C o vs).take (o + k) = D.take (o + k) := by
  subst hv
  have e1 : ((D.drop o).take k).length = k := by simp; omega
  unfold splice
  refine ⟨by simp; omega, ?_⟩
  rw [e1, List.take_append_of_le_length (by simp; omega), h, List.take_of_length_le (by simp; omega)]
  exact (List.take_add ..).symm
theorem rep_len {n : Nat} {z : List Value} : (rep n z).length = n * z.length := by
  induction n with
  | zero => simp [rep]
  | succ n ih => simp [rep, ih, Nat.succ_mul]; omega
theorem elem_app {vs ws : List Value} {esz n i : Nat} (hl : vs.length = n * esz) (h : i < n) : elem (vs ++ ws) esz i = elem vs esz i := by
  have := mul_next (esz := esz) h
  unfold elem
  rw [List.drop_append_of_le_length (by omega), List.take_append_of_le_length (by simp; omega)]
theorem elem_rep {z : List Value} {n i : Nat} (h : i < n) : elem (rep n z) z.length i = z := by
  induction n generalizing i with
  | zero => omega
  | succ n ih =>
    cases i with
    | zero => simp [elem, rep]
    | succ i =>
      have := ih (i := i) (by omega)
      unfold elem at this ⊢
      rw [rep, Nat.succ_mul, Nat.add_comm, ← List.drop_drop]
      simpa using this
theorem elem_rep_app {vs z : List Value} {esz n m i : Nat} (hl : vs.length = n * esz) (hz : z.length = esz) (h : n ≤ i) (hi : i < n + m) : elem (vs ++ rep m z) esz i = z := by
  have e1 : elem (vs ++ rep m z) esz i = elem (rep m z) esz (i - n) := by
    unfold elem
    have : i * esz = vs.length + (i - n) * esz := by rw [hl, ← Nat.add_mul]; congr 1; omega
    rw [this, ← List.drop_drop, List.drop_left]
  rw [e1, ← hz]; exact elem_rep (by omega)
/-- What leads nowhere. -/
def NoRef (vs : List Value) : Prop := ∀ v ∈ vs, ∀ n, old0 n v = true
theorem NoRef.all {vs : List Value} (h : NoRef vs) {n : Nat} : vs.all (old0 n) = true := List.all_eq_true.2 fun v hv => h v hv n
theorem NoRef.app {vs ws : List Value} (h : NoRef vs) (h' : NoRef ws) : NoRef (vs ++ ws) := fun v hv n => (List.mem_append.1 hv).elim (fun h1 => h v h1 n) (fun h1 => h' v h1 n)
theorem NoRef.rep {z : List Value} (h : NoRef z) : ∀ {n : Nat}, NoRef (rep n z)
  | 0 => fun v hv => by simp [Fb.rep] at hv
  | n + 1 => h.app (NoRef.rep h)
theorem finish_slc {H G : Heap} {b ver len cap : Nat} {k : Blk} (hp : Pre H G) (hb : H.length ≤ b) (hk : G[b]? = some k) (hv : ver = k.ver) (hr : k.ro = false) (ho : k.cells.all (old0 H.length) = true) :
    finish H.length G [slc b 0 ver len cap] = (slc H.length 0 0 len cap, H ++ [{ k with ver := 0 }]) := by
  have hne : old1 H.length (slc b 0 ver len cap) = false := by
    show (true && decide (b < H.length)) = false
    simp; omega
  have : pack H.length G [slc b 0 ver len cap] [] [] = some ([slc H.length 0 0 len cap], [{ k with ver := 0 }]) := by
    rw [pack, if_neg (by rw [hne]; decide)]
    show (match G[b]? with
      | some k => if ([] : List Nat).contains b = false ∧ ver = k.ver ∧ k.ro = false ∧ k.cells.all (old0 H.length) = true then _ else none
      | none => none) = _
    rw [hk]
    simp only []
    rw [if_pos ⟨by simp, hv, hr, ho⟩]
    rfl
  rw [finish_some this, hp.take]; rfl
/-- The cells of a copy: with room behind. -/
def room (vs : List Value) (n : Nat) (fc : List Value) : List Value := vs ++ rep (roomN n) fc
theorem room_length {vs fc : List Value} {n esz : Nat} (hl : vs.length = n * esz) (hf : fc.length = esz) : (room vs n fc).length = (n + roomN n) * esz := by
  simp [room, rep_len, hl, hf, Nat.add_mul]
def mksV (esz bytes : Nat) (z : List Value) (G : Heap) (x y : Value) : Option (Value × Heap) := match x, y with
  | .int .i64 l, .int .i64 c => if 0 ≤ l ∧ l ≤ c ∧ c * bytes ≤ roomMax then some (slc G.length 0 0 l.toNat c.toNat, G ++ [⟨rep c.toNat z, esz, 0, false⟩]) else none
  | _, _ => none
theorem ev1_mkS {cl : Cl} {n0 : Nat} {wb : Bool} {e : Env} {G : Heap} {esz bytes : Nat} {z : List Value} {x y : Opd} : ev1 cl n0 wb e G (.mkS esz bytes z x y) = mksV esz bytes z G (x.ev e) (y.ev e) := rfl
theorem mksV_int {esz bytes : Nat} {z : List Value} {G : Heap} {l c : Int} : mksV esz bytes z G (.int .i64 l) (.int .i64 c) =
    if 0 ≤ l ∧ l ≤ c ∧ c * bytes ≤ roomMax then some (slc G.length 0 0 l.toNat c.toNat, G ++ [⟨rep c.toNat z, esz, 0, false⟩]) else none := rfl
theorem toS_call {f toE esz bytes : Nat} {z fc : List Value} {fo : Op1} (hf : tab f = some (.fn (toSC toE esz bytes z fo))) (hz : z.length = esz) (hb : bytes ≤ 64)
    (hfo : ∀ n0 e G, ev1 (Call tab) n0 false e G fo = some (agg fc, G)) (hfc : fc.length = esz) {pu : Bool} {H : Heap} {x : Value} {n : Nat} {vs : List Value} (hs : SlR H x esz n vs) (hn : n ≤ 1000000)
    (hE : ∀ i G, i < n → Call tab true toE [agg (elem vs esz i)] G = some (agg (elem vs esz i), G)) (ho : NoRef vs) (ho2 : NoRef fc) {flag : Bool} :
    Call tab pu f [x, .bool flag] H = some (if flag = true ∧ n = 0 then (.slice none 0 0, H) else (slc H.length 0 0 n (n + roomN n), H ++ [⟨room vs n fc, esz, 0, false⟩])) := by
  refine Call_wp hf (.inr rfl) rfl ?_
  by_cases hc : flag = true ∧ n = 0
  · obtain ⟨rfl, rfl⟩ := hc
    simp [toSC, toSK, hs.lenV]
  · have hn0 : flag = true → ¬ n = 0 := fun h h2 => hc ⟨h, h2⟩
    have hr := roomN_le (n := n)
    generalize hR : roomN n = R at hr
    have e1 : IntKind.wrap .i64 ((n : Int) + (R : Int)) = ((n + R : Nat) : Int) := by rw [wrap64 (by omega)]; omega
    have hmk : (0 ≤ ((n + R : Nat) : Int) ∧ ((n + R : Nat) : Int) ≤ ((n + R : Nat) : Int) ∧ ((n + R : Nat) : Int) * bytes ≤ roomMax) := by
      refine ⟨by omega, by omega, ?_⟩
      have h1 : (n + R) * bytes ≤ 3000000 * 64 := Nat.mul_le_mul (by omega) hb
      have h2 : roomMax = 140737488355328 := rfl
      rw [h2]
      have h3 : (((n + R) * bytes : Nat) : Int) ≤ ((3000000 * 64 : Nat) : Int) := Int.ofNat_le.2 h1
      rw [Int.natCast_mul] at h3
      exact Int.le_trans h3 (by decide)
    have hD : (room vs n fc).length = (n + R) * esz := by rw [room_length hs.size hfc, hR]
    have hele : ∀ i, i < n → elem (room vs n fc) esz i = elem vs esz i := fun i hi => elem_app hs.size hi
    have hele2 : ∀ i, n ≤ i → i < n + R → elem (room vs n fc) esz i = fc := fun i hi h2 => by unfold room; rw [hR]; exact elem_rep_app hs.size hfc hi h2
    have hev : ∀ (e : Env) (G : Heap), e 19 = .int .i64 ((n + R : Nat) : Int) → ev1 (Call tab) H.length false e G (.mkS esz bytes z (.t 19) (.t 19)) = some (slc G.length 0 0 (n + R) (n + R), G ++ [⟨rep (n + R) z, esz, 0, false⟩]) := by
      intro e G h
      rw [ev1_mkS, ev_t, h, mksV_int, if_pos hmk, Int.toNat_natCast]
    -- one store
    have hst : ∀ (C : List Value) (i : Nat) (vs' : List Value), C.length = (n + R) * esz → i < n + R → vs'.length = esz → stO H.length false (H ++ [⟨C, esz, 0, false⟩]) esz (adr H.length (i * esz) 0) (agg vs') = some (U, H ++ [⟨splice C (i * esz) vs', esz, 0, false⟩]) := by
      intro C i vs' hC hi hv
      have := mul_next (esz := esz) hi
      rw [stO_adr, cellsOf_agg, if_pos hv, wr_at (k := ⟨C, esz, 0, false⟩) get_last rfl rfl (by simp [may]) (by simp; omega), set_last]; rfl
    have hn1 : flag = true → ((n : Int) == 0) = false := fun h => by have := hn0 h; simp; omega
    have hmk' := hmk
    have hnlt : n < 9223372036854775807 := by omega
    have hbits : ∀ (C : List Value), C.length = (n + R) * esz → C.take ((n + R) * esz) = (room vs n fc).take ((n + R) * esz) → C = room vs n fc := fun C h1 h2 => by
      rwa [List.take_of_length_le (by omega), List.take_of_length_le (by omega)] at h2
    cases flag
    all_goals
      simp [toSC, toSK, hs.lenV, hn1, call296, hR, e1, ev1_mkS, mksV_int, hmk', skip, -Int.natCast_add]
      refine WP_count 6 n n rfl (fun i e H' => e 0 = x ∧ e 5 = slc H.length 0 0 (n + R) (n + R) ∧ ∃ C, C.length = (n + R) * esz ∧ C.take (i * esz) = (room vs n fc).take (i * esz) ∧ H' = H ++ [⟨C, esz, 0, false⟩]) hnlt ?_ ?_ (by simp) (by simp [rep_len, hz])
      · rintro i e _ _ hi hx e6 h6 ⟨h0, h5, C, hC, hCt, rfl⟩
        obtain ⟨a, ha, hl⟩ := (hs.app (L := [⟨C, esz, 0, false⟩])).get hi
        have hel := elem_length hs.size hi
        have hnx := mul_next (esz := esz) (show i < n + R by omega)
        obtain ⟨g1, g2⟩ := splice_tk (C := C) (D := room vs n fc) (vs := elem vs esz i) (o := i * esz) (k := esz) (by omega) (by omega) hCt (hele i hi).symm
        have hi2 : i < n + R := by omega
        simp [toSB1, h6, h0, h5, hx, hs.lenV, ha, hl, hE i _ hi, at_nat hi2, hst C i _ hC hi2 hel, wbOf, e6, -stO_adr]
        exact ⟨by omega, by rw [Nat.succ_mul]; exact g2⟩
      · rintro e _ _ h6 ⟨h0, h5, C, hC, hCt, rfl⟩
        simp [toSB1, h6, h0, h5, hs.lenV]
        refine WP_from 7 n (n + R) ((n + R : Nat) : Int) rfl (fun i e H' => e 0 = x ∧ e 5 = slc H.length 0 0 (n + R) (n + R) ∧ ∃ C, C.length = (n + R) * esz ∧ C.take (i * esz) = (room vs n fc).take (i * esz) ∧ H' = H ++ [⟨C, esz, 0, false⟩]) (by omega) (by omega) ?_ ?_ (by simp) ⟨by simp [h0], by simp [h5], C, hC, hCt, rfl⟩
        · rintro i e _ hni hi hx e6 h7 ⟨h0, h5, C, hC, hCt, rfl⟩
          have hnx := mul_next (esz := esz) hi
          obtain ⟨g1, g2⟩ := splice_tk (C := C) (D := room vs n fc) (vs := fc) (o := i * esz) (k := esz) (by omega) (by omega) hCt (hele2 i hni hi).symm
          simp [toSB2, h7, h0, h5, hx, hfo, at_nat hi, hst C i _ hC hi hfc, wbOf, e6, -stO_adr, -Int.natCast_add]
          exact ⟨by omega, by rw [Nat.succ_mul]; exact g2⟩
        · rintro e _ h7 ⟨h0, h5, C, hC, hCt, rfl⟩
          obtain rfl := hbits C hC hCt
          have hsl : slcAV (H ++ [⟨room vs n fc, esz, 0, false⟩]) esz (slc H.length 0 0 (n + R) (n + R)) none (some (.int .i64 n)) none = some (slc H.length 0 0 n (n + R)) := slcAV_hi get_last rfl rfl (by omega)
          have hfin := finish_slc (H := H) (G := H ++ [⟨room vs n fc, esz, 0, false⟩]) (b := H.length) (ver := 0) (len := n) (cap := n + R) (k := ⟨room vs n fc, esz, 0, false⟩) ⟨_, rfl⟩ (Nat.le_refl _) get_last rfl rfl (NoRef.all (ho.app ho2.rep))
          simp [toSB2, h7, h0, h5, hs.lenV, hsl, hfin, hn0, -Int.natCast_add]
theorem eqS_call {f eqE esz : Nat} (hf : tab f = some (.fn (eqSC eqE esz))) {pu : Bool} {H : Heap} {x y : Value} {n : Nat} {vs : List Value} (hx : SlR H x esz n vs) (hy : SlR H y esz n vs) (hn : n ≤ 1000000000)
    (hE : ∀ i, i < n → Call tab true eqE [agg (elem vs esz i), agg (elem vs esz i)] H = some (.bool true, H)) : Call tab pu f [x, y] H = some (.bool true, H) := by
  refine Call_wp hf (.inr rfl) rfl ?_
  simp [eqSC, eqSK, hx.lenV, hy.lenV]
  refine WP_forH 5 n n rfl (by omega) (fun i e => e 0 = x ∧ e 1 = y) ?_ ?_ (by simp) (by simp)
  · rintro i e hi hlt e4 h5 ⟨h0, h1⟩
    obtain ⟨a, ha, hl⟩ := hx.get hi
    obtain ⟨a', ha', hl'⟩ := hy.get hi
    simp [eqSB1, h5, h0, h1, hlt, hx.lenV, ha, hl, ha', hl', hE i hi, e4]
  · rintro e h5 ⟨h0, h1⟩
    simp [eqSB1, h5, h0, h1, hx.lenV]
/-- What a copy looks like. -/
def IsCp (H : Heap) (x : Value) (esz n : Nat) (vs fc : List Value) : Prop := ∃ b ver, x = slc b 0 ver n (n + roomN n) ∧ H[b]? = some ⟨room vs n fc, esz, ver, false⟩
theorem IsCp.sl {H : Heap} {x : Value} {esz n : Nat} {vs fc : List Value} (h : IsCp H x esz n vs fc) (hl : vs.length = n * esz) (hf : fc.length = esz) : SlR H x esz n vs := by
  obtain ⟨b, ver, rfl, h⟩ := h
  refine ⟨hl, .inr ⟨b, 0, ver, _, rfl, by omega, ?_⟩⟩
  have := room_length hl hf
  rw [Nat.add_mul] at this
  rw [rd_at h rfl (by simp; omega)]
  simp [room, hl]
theorem IsCp.app {H L : Heap} {x : Value} {esz n : Nat} {vs fc : List Value} (h : IsCp H x esz n vs fc) : IsCp (H ++ L) x esz n vs fc := by
  obtain ⟨b, ver, rfl, h⟩ := h
  exact ⟨b, ver, rfl, by rw [List.getElem?_append_left (List.getElem?_eq_some_iff.1 h).1]; exact h⟩
theorem IsCp.mk {H : Heap} {esz n : Nat} {vs fc : List Value} : IsCp (H ++ [⟨room vs n fc, esz, 0, false⟩]) (slc H.length 0 0 n (n + roomN n)) esz n vs fc := ⟨_, _, rfl, get_last⟩
theorem inS_call {f eqS eqE esz : Nat} (hf : tab f = some (.fn (inSC eqS esz))) (hf2 : tab eqS = some (.fn (eqSC eqE esz))) {pu : Bool} {H : Heap} {x y : Value} {n : Nat} {vs fc : List Value} (hx : IsCp H x esz n vs fc) (hy : IsCp H y esz n vs fc) (hn : n ≤ 1000000)
    (hl : vs.length = n * esz) (hfc : fc.length = esz) (hE : ∀ i, i < n → Call tab true eqE [agg (elem vs esz i), agg (elem vs esz i)] H = some (.bool true, H)) (hE2 : Call tab true eqE [agg fc, agg fc] H = some (.bool true, H)) :
    Call tab pu f [x, y] H = some (.bool true, H) := by
  refine Call_wp hf (.inr rfl) rfl ?_
  obtain ⟨b, ver, rfl, h⟩ := hx
  obtain ⟨b', ver', rfl, h'⟩ := hy
  have hr := roomN_le (n := n)
  have e1 : IntKind.wrap .i64 ((n : Int) + (roomN n : Int)) = ((n + roomN n : Nat) : Int) := by rw [wrap64 (by omega)]; omega
  have hlen := room_length hl hfc
  have s1 := slcAV_hi (off := 0) (len := n) (cap := n + roomN n) (kk := .i64) h rfl rfl (Nat.le_refl (n + roomN n))
  have s2 := slcAV_hi (off := 0) (len := n) (cap := n + roomN n) (kk := .i64) h' rfl rfl (Nat.le_refl (n + roomN n))
  have r1 : SlR H (slc b 0 ver (n + roomN n) (n + roomN n)) esz (n + roomN n) (room vs n fc) := ⟨hlen, .inr ⟨b, 0, ver, _, rfl, Nat.le_refl _, by rw [rd_at h rfl (by simp; omega)]; simp [take_all (Nat.le_of_eq hlen)]⟩⟩
  have r2 : SlR H (slc b' 0 ver' (n + roomN n) (n + roomN n)) esz (n + roomN n) (room vs n fc) := ⟨hlen, .inr ⟨b', 0, ver', _, rfl, Nat.le_refl _, by rw [rd_at h' rfl (by simp; omega)]; simp [take_all (Nat.le_of_eq hlen)]⟩⟩
  have hc := eqS_call hf2 (pu := true) r1 r2 (by omega) fun i hi => by
    rcases Nat.lt_or_ge i n with h3 | h3
    · unfold room; rw [elem_app hl h3]; exact hE i h3
    · unfold room; rw [elem_rep_app hl hfc h3 hi]; exact hE2
  simp [inSC, inSK, call296, e1, s1, s2, hc, -Int.natCast_add]
theorem SlR.pre {H G : Heap} {x : Value} {esz n : Nat} {vs : List Value} (p : Pre H G) (h : SlR H x esz n vs) : SlR G x esz n vs := by obtain ⟨L, rfl⟩ := p; exact h.app
theorem IsCp.pre {H G : Heap} {x : Value} {esz n : Nat} {vs fc : List Value} (p : Pre H G) (h : IsCp H x esz n vs fc) : IsCp G x esz n vs fc := by obtain ⟨L, rfl⟩ := p; exact h.app
/-- What a call that copies a slice brings about. -/
def CpF (f : Nat) (H : Heap) (x : Value) (esz n : Nat) (vs fc : List Value) : Prop := ∀ pu flag, Call tab pu f [x, .bool flag] H = some (if flag = true ∧ n = 0 then (.slice none 0 0, H) else (slc H.length 0 0 n (n + roomN n), H ++ [⟨room vs n fc, esz, 0, false⟩]))
/-- Things of a kind, one behind the other. -/
def rowsC {α : Type} (f : α → List Value) : List α → List Value
  | [] => []
  | a :: r => f a ++ rowsC f r
def at0 {α : Type} [Inhabited α] (l : List α) (i : Nat) : α := l.getD i default
theorem rows_length {α : Type} {f : α → List Value} {esz : Nat} {l : List α} (hf : ∀ a ∈ l, (f a).length = esz) : (rowsC f l).length = l.length * esz := by
  induction l with
  | nil => simp [rowsC]
  | cons a r ih =>
    have h1 := ih fun b hb => hf b (by simp [hb])
    have h2 := hf a (by simp)
    simp [rowsC, h1, h2, Nat.succ_mul]; omega
theorem rows_elem {α : Type} [Inhabited α] {f : α → List Value} {esz : Nat} {l : List α} (hf : ∀ a ∈ l, (f a).length = esz) {i : Nat} (hi : i < l.length) : elem (rowsC f l) esz i = f (at0 l i) := by
  induction l generalizing i with
  | nil => simp at hi
  | cons a r ih =>
    have h2 := hf a (by simp)
    cases i with
    | zero => simp [elem, rowsC, at0, ← h2]
    | succ i =>
      have h1 := ih (fun b hb => hf b (by simp [hb])) (i := i) (by simpa using hi)
      rw [show at0 (a :: r) (i + 1) = at0 r i by simp [at0], ← h1]
      unfold elem
      rw [Nat.succ_mul, Nat.add_comm, ← List.drop_drop, rowsC, ← h2, List.drop_left]
theorem rows_flat {α : Type} {f : α → List Value} {l : List α} (hf : ∀ a ∈ l, NoRef (f a)) : NoRef (rowsC f l) := by
  induction l with
  | nil => intro v hv; simp [rowsC] at hv
  | cons a r ih => exact (hf a (by simp)).app (ih fun b hb => hf b (by simp [hb]))
theorem rows_of {α : Type} {f : α → List Value} {p : α → Prop} {esz n : Nat} {vs : List Value} (hl : vs.length = n * esz) (h : ∀ i, i < n → ∃ a, elem vs esz i = f a ∧ p a) : ∃ l, vs = rowsC f l ∧ l.length = n ∧ ∀ a ∈ l, p a := by
  induction n generalizing vs with
  | zero => exact ⟨[], by simpa [rowsC] using hl, rfl, by simp⟩
  | succ n ih =>
    obtain ⟨a, ha, hp⟩ := h 0 (by omega)
    rw [Nat.succ_mul] at hl
    obtain ⟨l, h1, h2, h3⟩ := ih (vs := vs.drop esz) (by simp; omega) fun i hi => by
      obtain ⟨b, hb, hq⟩ := h (i + 1) (by omega)
      refine ⟨b, ?_, hq⟩
      rw [← hb]
      unfold elem
      rw [List.drop_drop, Nat.succ_mul, Nat.add_comm]
    refine ⟨a :: l, ?_, by simp [h2], fun b hb => ?_⟩
    · rw [rowsC, ← ha, ← h1]
      simp [elem]
    · rcases List.mem_cons.1 hb with rfl | hb
      · exact hp
      · exact h3 b hb
theorem flat2 {k k' : IntKind} {a b : Int} : NoRef [.int k a, .int k' b] := by
  intro v hv n
  simp only [List.mem_cons, List.not_mem_nil, or_false] at hv
  rcases hv with rfl | rfl <;> exact old0_int
abbrev i8 (n : Int) : Prop := -128 ≤ n ∧ n ≤ 127
theorem stc2 {v w u : Value} : stc (agg [v, w]) 0 [u] = some (agg [u, w]) := by simp [stc, agg, splice]
theorem stc2b {v w u : Value} : stc (agg [v, w]) 1 [u] = some (agg [v, u]) := by simp [stc, agg, splice]
theorem stc2c {v w u x : Value} : stc (agg [v, w]) 0 [u, x] = some (agg [u, x]) := by simp [stc, agg, splice]
theorem ldc2 {v w : Value} : ldc 1 false (agg [v, w]) 0 = some v := by simp [ldc]
theorem ldc2b {v w : Value} : ldc 1 false (agg [v, w]) 1 = some w := by simp [ldc]
theorem ldc2c {v w : Value} : ldc 2 true (agg [v, w]) 0 = some (agg [v, w]) := by simp [ldc]
theorem fin_agg {n0 : Nat} {H : Heap} {l : List Value} (h : l.all (old0 n0) = true) : finish n0 H [agg l] = (agg l, H.take n0) := by
  refine finish_1 ?_
  show l.toArray.toList.all (old0 n0) = true
  simpa using h
def chC (m : Int × Int) : List Value := [.int .i8 m.1, .int .u16 m.2]
def chsC (l : List (Int × Int)) : List Value := rowsC chC l
theorem chsC_length {l : List (Int × Int)} : (chsC l).length = l.length * 2 := rows_length (f := chC) (esz := 2) fun _ _ => rfl
theorem chsC_elem {l : List (Int × Int)} {i : Nat} (hi : i < l.length) : elem (chsC l) 2 i = chC (at0 l i) := rows_elem (f := chC) (esz := 2) (fun _ _ => rfl) hi
theorem chsC_flat {l : List (Int × Int)} : NoRef (chsC l) := rows_flat fun _ _ => flat2
def chZ : List Value := [.int .i8 0, .int .u16 0]
def chF : List Value := [.int .i8 (-101), .int .u16 60201]
theorem chF_flat : NoRef chF := flat2
theorem call488 {pu : Bool} {H : Heap} {m : Int × Int} : Call tab pu 488 [agg (chC m)] H = some (agg (chC m), H) := by
  refine Call_wp t488 (.inr rfl) rfl ?_
  simp [c488, k488, chC, stc2, stc2b, stc2c, ldc2, ldc2b, ldc2c, fin_agg]
theorem call489 {pu : Bool} {H : Heap} : Call tab pu 489 [] H = some (agg chF, H) := by
  refine Call_wp t489 (.inr rfl) rfl ?_
  simp [c489, k489, stc2c, fill, splice, fin_agg, chF]
theorem call529 {pu : Bool} {H : Heap} {m : Int × Int} : Call tab pu 529 [agg (chC m), agg (chC m)] H = some (.bool true, H) := by
  refine Call_wp t529 (.inr rfl) rfl ?_
  simp [c529, k529, chC, ldc2, ldc2b]
theorem s311 : tab 311 = some (.fn (toSC 488 2 4 chZ (.call true 489 []))) := t311
theorem s308 : tab 308 = some (.fn szSC) := t308
theorem s313 : tab 313 = some (.fn (inSC 390 2)) := t313
theorem s390 : tab 390 = some (.fn (eqSC 529 2)) := t390
theorem call311 {H : Heap} {x : Value} {l : List (Int × Int)} (hs : SlR H x 2 l.length (chsC l)) (hn : l.length ≤ 1000000) : CpF 311 H x 2 l.length (chsC l) chF := fun pu flag =>
  toS_call s311 rfl (by omega) (fun n0 e G => by simp [call489]) rfl hs hn (fun i G hi => by rw [chsC_elem hi]; exact call488) chsC_flat chF_flat
theorem call313 {pu : Bool} {H : Heap} {x y : Value} {l : List (Int × Int)} (hx : IsCp H x 2 l.length (chsC l) chF) (hy : IsCp H y 2 l.length (chsC l) chF) (hn : l.length ≤ 1000000) : Call tab pu 313 [x, y] H = some (.bool true, H) :=
  inS_call s313 s390 hx hy hn chsC_length rfl (fun i hi => by rw [chsC_elem hi]; exact call529) (call529 (m := (-101, 60201)))
/-- A step: its numbers and its rows. -/
def stp (a b c d : Int) (x : Value) : Value := agg [.int .i8 a, .int .i8 b, .int .i8 c, .int .i8 d, x]
theorem ldc5a {a b c d x : Value} : ldc 1 false (agg [a, b, c, d, x]) 0 = some a := by simp [ldc]
theorem ldc5b {a b c d x : Value} : ldc 1 false (agg [a, b, c, d, x]) 1 = some b := by simp [ldc]
theorem ldc5c {a b c d x : Value} : ldc 1 false (agg [a, b, c, d, x]) 2 = some c := by simp [ldc]
theorem ldc5d {a b c d x : Value} : ldc 1 false (agg [a, b, c, d, x]) 3 = some d := by simp [ldc]
theorem ldc5e {a b c d x : Value} : ldc 1 false (agg [a, b, c, d, x]) 4 = some x := by simp [ldc]
theorem ldc5 {a b c d x : Value} : ldc 5 true (agg [a, b, c, d, x]) 0 = some (agg [a, b, c, d, x]) := by simp [ldc]
theorem stc5a {a b c d x u : Value} : stc (agg [a, b, c, d, x]) 0 [u] = some (agg [u, b, c, d, x]) := by simp [stc, agg, splice]
theorem stc5b {a b c d x u : Value} : stc (agg [a, b, c, d, x]) 1 [u] = some (agg [a, u, c, d, x]) := by simp [stc, agg, splice]
theorem stc5c {a b c d x u : Value} : stc (agg [a, b, c, d, x]) 2 [u] = some (agg [a, b, u, d, x]) := by simp [stc, agg, splice]
theorem stc5d {a b c d x u : Value} : stc (agg [a, b, c, d, x]) 3 [u] = some (agg [a, b, c, u, x]) := by simp [stc, agg, splice]
theorem stc5e {a b c d x u : Value} : stc (agg [a, b, c, d, x]) 4 [u] = some (agg [a, b, c, d, u]) := by simp [stc, agg, splice]
theorem stc5 {a b c d x u v w y z : Value} : stc (agg [a, b, c, d, x]) 0 [u, v, w, y, z] = some (agg [u, v, w, y, z]) := by simp [stc, agg, splice]
/-- A thing that leads to a new block is handed back with all that is there. -/
theorem finish_keep {n0 : Nat} {G : Heap} {l : List Value} (h : l.all (old0 n0) = false) : finish n0 G [agg l] = (agg l, G) := by
  have e1 : old1 n0 (agg l) = false := by
    show l.toArray.toList.all (old0 n0) = false
    simpa using h
  have : pack n0 G [agg l] [] [] = none := by
    rw [pack, if_neg (by rw [e1]; decide)]; rfl
  unfold finish; rw [this]; rfl
theorem old0_slc {n0 b off ver len cap : Nat} : old0 n0 (slc b off ver len cap) = decide (b < n0) := Bool.true_and _
theorem call81 {pu : Bool} {H : Heap} {a b c d : Int} {x : Value} {l : List (Int × Int)} (hs : SlR H x 2 l.length (chsC l)) (hn : l.length ≤ 1000000) {flag : Bool} :
    ∃ x' G, Call tab pu 81 [stp a b c d x, .bool flag] H = some (stp a b c d x', G) ∧ SlR G x' 2 l.length (chsC l) ∧ Pre H G ∧ (flag = false → IsCp G x' 2 l.length (chsC l) chF) := by
  have h := call311 hs hn true flag
  by_cases hc : flag = true ∧ l.length = 0
  · rw [if_pos hc] at h
    refine ⟨.slice none 0 0, H, Call_wp t81 (.inr rfl) rfl ?_, ⟨by rw [chsC_length], .inl ⟨rfl, hc.2⟩⟩, .refl, fun hf => by rw [hf] at hc; cases hc.1⟩
    have : finish H.length H [agg [.int .i8 a, .int .i8 b, .int .i8 c, .int .i8 d, .slice none 0 0]] = (agg [.int .i8 a, .int .i8 b, .int .i8 c, .int .i8 d, .slice none 0 0], H.take H.length) := fin_agg rfl
    simp [c81, k81, stp, ldc5a, ldc5b, ldc5c, ldc5d, ldc5e, ldc5, stc5a, stc5b, stc5c, stc5d, stc5e, stc5, h, this]
  · rw [if_neg hc] at h
    refine ⟨_, _, Call_wp t81 (.inr rfl) rfl ?_, IsCp.mk.sl chsC_length rfl, Pre.one, fun _ => IsCp.mk⟩
    have := finish_keep (n0 := H.length) (G := H ++ [⟨room (chsC l) l.length chF, 2, 0, false⟩]) (l := [.int .i8 a, .int .i8 b, .int .i8 c, .int .i8 d, slc H.length 0 0 l.length (l.length + roomN l.length)]) (by simp [old0_slc])
    simp [c81, k81, stp, ldc5a, ldc5b, ldc5c, ldc5d, ldc5e, ldc5, stc5a, stc5b, stc5c, stc5d, stc5e, stc5, h, this]
theorem call309 {pu : Bool} {a : Int} {H : Heap} : Call tab pu 309 [.int .i64 a] H = some (.bool (decide (0 ≤ a ∧ a ≤ 2)), H) := by
  refine Call_wp t309 (.inr rfl) rfl ?_
  simp [c309, k309, call304]
theorem call490 {pu : Bool} {H : Heap} {x : Value} {n : Nat} (h : lenV x = some (.int .i64 n)) : Call tab pu 490 [x] H = some (.int .i64 n, H) := by
  refine Call_wp t490 (.inr rfl) rfl ?_
  simp [c490, k490, h]
def howC (a : Int) : Int := nth [1, 2, 4] a.toNat
def costV (a : Int) (n : Nat) : Int := howC a + 3 * n
theorem how_ok {a : Int} (h : 0 ≤ a ∧ a ≤ 2) : 0 ≤ howC a ∧ howC a ≤ 4 := by
  have : a = 0 ∨ a = 1 ∨ a = 2 := by omega
  rcases this with rfl | rfl | rfl <;> decide
theorem at3 {a : Int} {k : IntKind} (h : 0 ≤ a ∧ a ≤ 2) : at' 3 (.int k a) = some a.toNat := at_int ⟨h.1, by omega⟩
theorem ldc3 {a : Int} (h : 0 ≤ a ∧ a ≤ 2) : ldc 1 false (agg [.int .i64 1, .int .i64 2, .int .i64 4]) a.toNat = some (.int .i64 (howC a)) :=
  ldc_iv1 (k := .i64) (l := [1, 2, 4]) (by simp; omega)
theorem stc3 {a b c u v w : Value} : stc (agg [a, b, c]) 0 [u, v, w] = some (agg [u, v, w]) := by simp [stc, agg, splice]
theorem call312 {pu : Bool} {H : Heap} {a b c d : Int} {x : Value} {n : Nat} (h : lenV x = some (.int .i64 n)) (ha : 0 ≤ a ∧ a ≤ 2) (hn : n ≤ 12) : Call tab pu 312 [stp a b c d x] H = some (.int .i64 (costV a n), H) := by
  refine Call_wp t312 (.inr rfl) rfl ?_
  have hh := how_ok ha
  have e1 : 3 * (n : Int) + howC a = costV a n := Int.add_comm _ _
  simp (disch := omega) [c312, k312, stp, fill, splice, stc3, ldc5a, ldc5e, call490 h, at3 ha, ldc3 ha, e1]
theorem call310 {pu : Bool} {H G : Heap} {q : Nat} {a b c d : Int} {x : Value} {n : Nat} (hg : G[q]? = some ⟨[.int .i8 a, .int .i8 b, .int .i8 c, .int .i8 d, x], 1, 0, false⟩) (h : lenV x = some (.int .i64 n)) (ha : 0 ≤ a ∧ a ≤ 2) (hn : n ≤ 12) :
    Call tab pu 310 [adr q 0 0] G = some (.int .i64 (costV a n), G) := by
  refine Call_wp t310 (.inr rfl) rfl ?_
  have hh := how_ok ha
  have d1 := rd_at (off := 0) (n := 1) hg rfl (by simp)
  have d2 := rd_at (off := 4) (n := 1) hg rfl (by simp)
  simp at d1 d2
  simp (disch := omega) [c310, k310, fill, splice, stc3, d1, d2, h, at3 ha, ldc3 ha, costV]
def costR (a : Int) (n : Nat) : Value := if (0 ≤ a ∧ a ≤ 2) ∧ n ≤ 12 then tup [.int .i64 (costV a n), .int .i64 0] else tup [.int .i64 0, .int .i64 2]
theorem call82 {pu : Bool} {H : Heap} {a b c d : Int} {x : Value} {n : Nat} (h : lenV x = some (.int .i64 n)) (hi : i8 a) : Call tab pu 82 [stp a b c d x] H = some (costR a n, H) := by
  refine Call_wp t82 (.inr rfl) rfl ?_
  have h3 : ∀ y, stp a b c d y = agg [.int .i8 a, .int .i8 b, .int .i8 c, .int .i8 d, y] := fun _ => rfl
  have e0 : IntKind.wrap .i64 a = a := wrap64 (by omega)
  by_cases ha : 0 ≤ a ∧ a ≤ 2
  · have ha' : (decide (0 ≤ a) && decide (a ≤ 2)) = true := by simpa using ha
    by_cases hn : n ≤ 12
    · have hn' : ¬ (12 < (n : Int)) := by omega
      have hc := call312 (pu := true) (H := H) (b := b) (c := c) (d := d) h ha hn
      rw [h3] at hc
      simp (disch := omega) [c82, k82, h3, ldc5a, ldc5e, ldc5, call295, ha', e0, h, hn', hc, costR, ha, hn, skip]
    · have hn' : 12 < (n : Int) := by omega
      simp (disch := omega) [c82, k82, h3, ldc5a, ldc5e, ldc5, call295, ha', e0, h, hn', costR, hn, skip]
  · have ha' : (decide (0 ≤ a) && decide (a ≤ 2)) = false := by simpa using ha
    simp (disch := omega) [c82, k82, h3, ldc5a, ldc5e, ldc5, call295, ha', e0, h, costR, ha, skip]
theorem call80 {pu : Bool} {H : Heap} {a b c d : Int} {x : Value} {n : Nat} (h : lenV x = some (.int .i64 n)) (hi : i8 a) : Call tab pu 80 [stp a b c d x] H = some (costR a n, H) := by
  refine Call_wp t80 (.inr rfl) rfl ?_
  have h3 : ∀ y, stp a b c d y = agg [.int .i8 a, .int .i8 b, .int .i8 c, .int .i8 d, y] := fun _ => rfl
  have e0 : IntKind.wrap .i64 a = a := wrap64 (by omega)
  obtain ⟨G, hG⟩ : ∃ G, G = H ++ [⟨[.int .i8 a, .int .i8 b, .int .i8 c, .int .i8 d, x], 1, 0, false⟩] := ⟨_, rfl⟩
  have hT : G.take H.length = H := by rw [hG]; simp
  have hg : G[H.length]? = some ⟨[.int .i8 a, .int .i8 b, .int .i8 c, .int .i8 d, x], 1, 0, false⟩ := by rw [hG]; exact get_last
  have d1 := rd_at (off := 0) (n := 1) hg rfl (by simp)
  have d2 := rd_at (off := 4) (n := 1) hg rfl (by simp)
  simp at d1 d2
  by_cases ha : 0 ≤ a ∧ a ≤ 2
  · have ha' : (decide (0 ≤ a) && decide (a ≤ 2)) = true := by simpa using ha
    by_cases hn : n ≤ 12
    · have hn' : ¬ (12 < (n : Int)) := by omega
      have hc := call310 (pu := true) (H := H) hg h ha hn
      simp (disch := omega) [c80, k80, h3, ← hG, hT, d1, d2, call309, ha', e0, h, hn', hc, costR, ha, hn, skip]
    · have hn' : 12 < (n : Int) := by omega
      simp (disch := omega) [c80, k80, h3, ← hG, hT, d1, d2, call309, ha', e0, h, hn', costR, hn, skip]
  · have ha' : (decide (0 ≤ a) && decide (a ≤ 2)) = false := by simpa using ha
    simp (disch := omega) [c80, k80, h3, ← hG, hT, d1, d2, call309, ha', e0, h, costR, ha, skip]
theorem call83 {pu : Bool} {H : Heap} {a b c d : Int} {x y : Value} {l : List (Int × Int)} (hx : IsCp H x 2 l.length (chsC l) chF) (hy : IsCp H y 2 l.length (chsC l) chF) (hn : l.length ≤ 1000000) : Call tab pu 83 [stp a b c d x, stp a b c d y] H = some (.bool true, H) := by
  refine Call_wp t83 (.inr rfl) rfl ?_
  simp [c83, k83, stp, ldc5a, ldc5b, ldc5c, ldc5d, ldc5e, call313 hx hy hn]
theorem call79 {pu : Bool} {H : Heap} {a b c d : Int} {x : Value} {l : List (Int × Int)} (hs : SlR H x 2 l.length (chsC l)) (hn : l.length ≤ 9223372036854775807) {left : Int} (h0 : 0 ≤ left) (h1 : left ≤ 1000000) :
    Call tab pu 79 [stp a b c d x, .int .i64 left] H = some (.int .i64 (if left - l.length < 0 then -1 else left - l.length), H) := by
  refine Call_wp t79 (.inr rfl) rfl ?_
  have hsz := sz_call s308 (pu := true) hs h0 h1 hn
  by_cases h2 : left - (l.length : Int) < 0
  · rw [if_pos h2] at hsz
    simp [c79, k79, stp, ldc5e, hsz, h2]
  · rw [if_neg h2] at hsz
    simp [c79, k79, stp, ldc5e, hsz, h2]
theorem call9 {H : Heap} {a b c d : Int} {x : Value} {l : List (Int × Int)} (hs : SlR H x 2 l.length (chsC l)) (hn : l.length ≤ 9223372036854775807) (hi : i8 a) : Call tab false 9 [stp a b c d x] H = some (.bool true, H) := by
  refine Call_wp t9 (.inl rfl) rfl ?_
  have h3 : ∀ y, agg [.int .i8 a, .int .i8 b, .int .i8 c, .int .i8 d, y] = stp a b c d y := fun _ => rfl
  have l5 : ∀ y, ldc 5 true (stp a b c d y) 0 = some (stp a b c d y) := fun _ => ldc5
  have hh : ∀ y, has (stp a b c d y) = true := fun _ => has_agg
  have hcl : ∀ y, cellsOf (stp a b c d y) = [.int .i8 a, .int .i8 b, .int .i8 c, .int .i8 d, y] := fun _ => rfl
  have hsz := call79 (pu := true) (a := a) (b := b) (c := c) (d := d) hs hn (left := 1000000) (by omega) (by omega)
  by_cases hbig : l.length ≤ 1000000
  · have hsz' : ¬ (1000000 - (l.length : Int) < 0) := by omega
    rw [if_neg hsz'] at hsz
    obtain ⟨x1, G1, q1, r1, p1, k1⟩ := call81 (pu := true) (a := a) (b := b) (c := c) (d := d) hs hbig (flag := false)
    obtain ⟨x2, G2, q2, r2, p2, k2⟩ := call81 (pu := true) (a := a) (b := b) (c := c) (d := d) (hs.pre p1) hbig (flag := false)
    have p12 := p1.trans p2
    obtain ⟨x3, G3, q3, r3, p3, k3⟩ := call81 (pu := true) (a := a) (b := b) (c := c) (d := d) (hs.pre p12) hbig (flag := false)
    have p13 := p12.trans p3
    obtain ⟨x4, G4, q4, r4, p4, k4⟩ := call81 (pu := true) (a := a) (b := b) (c := c) (d := d) (hs.pre p13) hbig (flag := true)
    have w1 := call80 (pu := true) (H := G1) (b := b) (c := c) (d := d) r1.lenV hi
    have w2 := call82 (pu := true) (H := G2) (b := b) (c := c) (d := d) r2.lenV hi
    have w3 := call83 (pu := true) (a := a) (b := b) (c := c) (d := d) ((k2 rfl).pre p3) (k3 rfl) hbig
    have w4 := call82 (pu := true) (H := G4) (b := b) (c := c) (d := d) r4.lenV hi
    obtain ⟨u, v, hv⟩ : ∃ u v, costR a l.length = tup [.int .i64 u, .int .i64 v] := by unfold costR; split <;> exact ⟨_, _, rfl⟩
    simp [c9, k9, hsz, hsz', l5, hh, hcl, stc5, h3, q1, q2, q3, q4, w1, w2, w3, w4, hv, skip, (p13.trans p4).take]
  · have hsz' : 1000000 - (l.length : Int) < 0 := by omega
    rw [if_pos hsz'] at hsz
    simp [c9, k9, hsz, l5, hh]
end Fb
