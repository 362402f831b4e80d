/- What each function computes. -/
import Derived.Test.YtkkncjfgnielgaaTab
import Derived.Test.YtkkncjfgnielgaaPl
set_option linter.unusedVariables false
set_option linter.unusedSimpArgs false
namespace Fb
open Go
theorem upto_succ {p : Nat → Prop} {i : Nat} (h : ∀ j, j < i → p j) (hi : p i) : ∀ j, j < i + 1 → p j := by
  intro j hj
  rcases Nat.lt_or_ge j i with h1 | h1
  · exact h j h1
  · obtain rfl : j = i := by omega
    exact hi
theorem all_false {l : List Int} {p : Int → Bool} {x : Int} (h : x ∈ l) (hp : p x = false) : l.all p = false := by
  rw [List.all_eq_false]; exact ⟨x, h, by simp [hp]⟩
/-- The first m numbers of a row are turned. -/
def part (f : Int → Int) (m : Nat) (l : List Int) : List Int := (l.take m).map f ++ l.drop m
theorem call78 {pu : Bool} {H : Heap} {l : List Int} (hl : l.length = 12) : Call tab pu 78 [iv .u16 l, iv .u16 l] H = some (.bool true, H) := by
  refine Call_wp t78 (.inr rfl) rfl ?_
  simp [c78, k78]
  refine WP_forH 5 12 12 rfl (by omega) (fun i e => e 2 = iv .u16 l ∧ e 3 = iv .u16 l) ?_ ?_ (by simp) (by simp)
  · rintro i e hi hx e4 h5 ⟨h2, h3⟩
    simp (disch := omega) [b78_1, h5, hx, hi, h2, h3, e4, hl]
  · rintro e h5 ⟨h2, h3⟩
    simp [b78_1, h5]
def szSK  : Cd :=
  (.seq
   (.reg [4] [
     ⟨none, (some 4), .mov (.c (.int .i64 0)), []⟩])
   (.seq
    (.reg [1] [
      ⟨none, (some 5), .mov (.t 1), []⟩,
      ⟨none, (some 6), .mov (.t 0), []⟩,
      ⟨none, (some 7), .len (.t 6), []⟩,
      ⟨none, (some 8), .bin .sub (.t 5) (.t 7), []⟩,
      ⟨none, (some 1), .mov (.t 8), []⟩])
    (.seq
     (.seq
      (.reg [10] [
        ⟨none, (some 9), .mov (.t 1), []⟩,
        ⟨none, (some 10), .bin .lss (.t 9) (.c (.int .i64 0)), []⟩])
      (.cond (.t 10)
       (.seq
        (.reg [4] [
          ⟨none, (some 4), .mov (.c (.int .i64 (-1))), []⟩])
        .ret)
       .skip))
     (.seq
      (.reg [4] [
        ⟨none, (some 11), .mov (.t 1), []⟩,
        ⟨none, (some 4), .mov (.t 11), []⟩])
      .ret))))
def szSC  : Fn := { np := 2, nt := 12, kind := .pure, res := [.t 4], body := szSK  }
def toSB1 (toE : Nat) (esz : Nat) (bytes : Nat) (z : List Value) (fo : Op1) : Cd :=
  (.seq
   (.seq
    (.reg [24] [
      ⟨none, (some 21), .mov (.t 6), []⟩,
      ⟨none, (some 22), .mov (.t 0), []⟩,
      ⟨none, (some 23), .len (.t 22), []⟩,
      ⟨none, (some 24), .bin .lss (.t 21) (.t 23), []⟩])
    (.cond (.t 24)
     .skip
     (.exit 0)))
   (.seq
    (.block 1
     (.reg [] [
       ⟨none, (some 27), .mov (.t 5), []⟩,
       ⟨none, (some 28), .mov (.t 6), []⟩,
       ⟨none, (some 29), .mov (.t 0), []⟩,
       ⟨none, (some 30), .mov (.t 6), []⟩,
       ⟨none, (some 31), .idxA esz (.t 29) (.t 30), []⟩,
       ⟨none, (some 32), .ld esz true (.t 31), []⟩,
       ⟨none, (some 33), .call true toE [.t 32], []⟩,
       ⟨none, (some 34), .idxA esz (.t 27) (.t 28), []⟩,
       ⟨none, none, .st esz (.t 34) (.t 33), []⟩]))
    (.reg [6] [
      ⟨none, (some 25), .mov (.t 6), []⟩,
      ⟨none, (some 26), .bin .add (.t 25) (.c (.int .i64 1)), []⟩,
      ⟨none, (some 6), .mov (.t 26), []⟩])))
def toSB2 (toE : Nat) (esz : Nat) (bytes : Nat) (z : List Value) (fo : Op1) : Cd :=
  (.seq
   (.seq
    (.reg [40] [
      ⟨none, (some 37), .mov (.t 7), []⟩,
      ⟨none, (some 38), .mov (.t 5), []⟩,
      ⟨none, (some 39), .len (.t 38), []⟩,
      ⟨none, (some 40), .bin .lss (.t 37) (.t 39), []⟩])
    (.cond (.t 40)
     .skip
     (.exit 2)))
   (.seq
    (.block 3
     (.reg [] [
       ⟨none, (some 43), .mov (.t 5), []⟩,
       ⟨none, (some 44), .mov (.t 7), []⟩,
       ⟨none, (some 45), fo, []⟩,
       ⟨none, (some 46), .idxA esz (.t 43) (.t 44), []⟩,
       ⟨none, none, .st esz (.t 46) (.t 45), []⟩]))
    (.reg [7] [
      ⟨none, (some 41), .mov (.t 7), []⟩,
      ⟨none, (some 42), .bin .add (.t 41) (.c (.int .i64 1)), []⟩,
      ⟨none, (some 7), .mov (.t 42), []⟩])))
def toSK (toE : Nat) (esz : Nat) (bytes : Nat) (z : List Value) (fo : Op1) : Cd :=
  (.seq
   (.reg [4] [
     ⟨none, (some 4), .mov (.c (.slice none 0 0)), []⟩])
   (.seq
    (.seq
     (.reg [13] [
       ⟨none, (some 8), .mov (.t 1), []⟩,
       ⟨none, (some 9), .mov (.t 8), []⟩,
       ⟨(some (9, true)), (some 10), .mov (.t 0), []⟩,
       ⟨(some (9, true)), (some 11), .len (.t 10), []⟩,
       ⟨(some (9, true)), (some 12), .bin .eql (.t 11) (.c (.int .i64 0)), []⟩,
       ⟨none, (some 13), .pick (.t 9) (.t 12) (.c (.bool false)), []⟩])
     (.cond (.t 13)
      (.seq
       (.reg [4] [
         ⟨none, (some 4), .mov (.c (.slice none 0 0)), []⟩])
       .ret)
      .skip))
    (.seq
     (.reg [5] [
       ⟨none, (some 14), .mov (.t 0), []⟩,
       ⟨none, (some 15), .len (.t 14), []⟩,
       ⟨none, (some 16), .mov (.t 0), []⟩,
       ⟨none, (some 17), .len (.t 16), []⟩,
       ⟨none, (some 18), .call true 296 [.t 17], []⟩,
       ⟨none, (some 19), .bin .add (.t 15) (.t 18), []⟩,
       ⟨none, (some 20), .mkS esz bytes z (.t 19) (.t 19), []⟩,
       ⟨none, (some 5), .mov (.t 20), []⟩])
     (.seq
      (.seq
       (.reg [6] [
         ⟨none, (some 6), .mov (.c (.int .i64 0)), []⟩])
       (.block 0
        (.loop (toSB1 toE esz bytes z fo))))
      (.seq
       (.seq
        (.reg [7] [
          ⟨none, (some 35), .mov (.t 0), []⟩,
          ⟨none, (some 36), .len (.t 35), []⟩,
          ⟨none, (some 7), .mov (.t 36), []⟩])
        (.block 2
         (.loop (toSB2 toE esz bytes z fo))))
       (.seq
        (.reg [4] [
          ⟨none, (some 47), .mov (.t 5), []⟩,
          ⟨none, (some 48), .mov (.t 0), []⟩,
          ⟨none, (some 49), .len (.t 48), []⟩,
          ⟨none, (some 50), .slcA esz (.t 47) none (some (.t 49)) none, []⟩,
          ⟨none, (some 4), .mov (.t 50), []⟩])
        .ret))))))
def toSC (toE : Nat) (esz : Nat) (bytes : Nat) (z : List Value) (fo : Op1) : Fn := { np := 2, nt := 51, kind := .pure, res := [.t 4], body := toSK toE esz bytes z fo }
def inSK (eqS : Nat) (esz : Nat) : Cd :=
  (.seq
   (.reg [4] [
     ⟨none, (some 4), .mov (.c (.bool false)), []⟩])
   (.seq
    (.reg [5] [
      ⟨none, (some 6), .mov (.t 1), []⟩,
      ⟨none, (some 7), .len (.t 6), []⟩,
      ⟨none, (some 8), .mov (.t 1), []⟩,
      ⟨none, (some 9), .len (.t 8), []⟩,
      ⟨none, (some 10), .call true 296 [.t 9], []⟩,
      ⟨none, (some 11), .bin .add (.t 7) (.t 10), []⟩,
      ⟨none, (some 5), .mov (.t 11), []⟩])
    (.seq
     (.reg [4] [
       ⟨none, (some 12), .mov (.t 0), []⟩,
       ⟨none, (some 13), .len (.t 12), []⟩,
       ⟨none, (some 14), .mov (.t 1), []⟩,
       ⟨none, (some 15), .len (.t 14), []⟩,
       ⟨none, (some 16), .bin .eql (.t 13) (.t 15), []⟩,
       ⟨none, (some 17), .mov (.t 16), []⟩,
       ⟨(some (17, true)), (some 18), .mov (.t 0), []⟩,
       ⟨(some (17, true)), (some 19), .mov (.t 5), []⟩,
       ⟨(some (17, true)), (some 20), .slcA esz (.t 18) none (some (.t 19)) none, []⟩,
       ⟨(some (17, true)), (some 21), .mov (.t 1), []⟩,
       ⟨(some (17, true)), (some 22), .mov (.t 5), []⟩,
       ⟨(some (17, true)), (some 23), .slcA esz (.t 21) none (some (.t 22)) none, []⟩,
       ⟨(some (17, true)), (some 24), .call true eqS [.t 20, .t 23], []⟩,
       ⟨none, (some 25), .pick (.t 17) (.t 24) (.c (.bool false)), []⟩,
       ⟨none, (some 4), .mov (.t 25), []⟩])
     .ret)))
def inSC (eqS : Nat) (esz : Nat) : Fn := { np := 2, nt := 26, kind := .pure, res := [.t 4], body := inSK eqS esz }
def eqSB1 (eqE : Nat) (esz : Nat) : Cd :=
  (.seq
   (.seq
    (.reg [14] [
      ⟨none, (some 11), .mov (.t 5), []⟩,
      ⟨none, (some 12), .mov (.t 0), []⟩,
      ⟨none, (some 13), .len (.t 12), []⟩,
      ⟨none, (some 14), .bin .lss (.t 11) (.t 13), []⟩])
    (.cond (.t 14)
     .skip
     (.exit 0)))
   (.seq
    (.block 1
     (.seq
      (.reg [26] [
        ⟨none, (some 17), .mov (.t 0), []⟩,
        ⟨none, (some 18), .mov (.t 5), []⟩,
        ⟨none, (some 19), .idxA esz (.t 17) (.t 18), []⟩,
        ⟨none, (some 20), .ld esz true (.t 19), []⟩,
        ⟨none, (some 21), .mov (.t 1), []⟩,
        ⟨none, (some 22), .mov (.t 5), []⟩,
        ⟨none, (some 23), .idxA esz (.t 21) (.t 22), []⟩,
        ⟨none, (some 24), .ld esz true (.t 23), []⟩,
        ⟨none, (some 25), .call true eqE [.t 20, .t 24], []⟩,
        ⟨none, (some 26), .un .not (.t 25), []⟩])
      (.cond (.t 26)
       (.seq
        (.reg [4] [
          ⟨none, (some 4), .mov (.c (.bool false)), []⟩])
        .ret)
       .skip)))
    (.reg [5] [
      ⟨none, (some 15), .mov (.t 5), []⟩,
      ⟨none, (some 16), .bin .add (.t 15) (.c (.int .i64 1)), []⟩,
      ⟨none, (some 5), .mov (.t 16), []⟩])))
def eqSK (eqE : Nat) (esz : Nat) : Cd :=
  (.seq
   (.reg [4] [
     ⟨none, (some 4), .mov (.c (.bool false)), []⟩])
   (.seq
    (.seq
     (.reg [10] [
       ⟨none, (some 6), .mov (.t 0), []⟩,
       ⟨none, (some 7), .len (.t 6), []⟩,
       ⟨none, (some 8), .mov (.t 1), []⟩,
       ⟨none, (some 9), .len (.t 8), []⟩,
       ⟨none, (some 10), .bin .neq (.t 7) (.t 9), []⟩])
     (.cond (.t 10)
      (.seq
       (.reg [4] [
         ⟨none, (some 4), .mov (.c (.bool false)), []⟩])
       .ret)
      .skip))
    (.seq
     (.seq
      (.reg [5] [
        ⟨none, (some 5), .mov (.c (.int .i64 0)), []⟩])
      (.block 0
       (.loop (eqSB1 eqE esz))))
     (.seq
      (.reg [4] [
        ⟨none, (some 4), .mov (.c (.bool true)), []⟩])
      .ret))))
def eqSC (eqE : Nat) (esz : Nat) : Fn := { np := 2, nt := 27, kind := .pure, res := [.t 4], body := eqSK eqE esz }
def roomN (n : Nat) : Nat := if n % 6 = 5 then 0 else if n % 3 = 0 then 1 else n
theorem roomN_le {n : Nat} : roomN n ≤ n + 1 := by
  unfold roomN
  split
  · omega
  · split <;> omega
theorem call296 {pu : Bool} {H : Heap} {n : Nat} : Call tab pu 296 [.int .i64 n] H = some (.int .i64 (roomN n), H) := by
  refine Call_wp t296 (.inr rfl) rfl ?_
  have e1 : ((n : Int).tmod 6 == 5) = decide (n % 6 = 5) := by
    rw [Int.tmod_eq_emod_of_nonneg (by omega)]
    apply Bool.eq_iff_iff.2
    simp; omega
  have e2 : ((n : Int).tmod 3 == 0) = decide (n % 3 = 0) := by
    rw [Int.tmod_eq_emod_of_nonneg (by omega)]
    apply Bool.eq_iff_iff.2
    simp; omega
  unfold roomN
  by_cases h1 : n % 6 = 5
  · simp (disch := decide) [c296, k296, e1, h1]
  · by_cases h2 : n % 3 = 0
    · simp (disch := decide) [c296, k296, e1, h1, e2, h2]
    · simp (disch := decide) [c296, k296, e1, h1, e2, h2]
/-- The i-th of a row of things. -/
def elem (vs : List Value) (esz i : Nat) : List Value := (vs.drop (i * esz)).take esz
theorem mul_next {i n esz : Nat} (h : i < n) : i * esz + esz ≤ n * esz := by
  have := Nat.mul_le_mul_right esz (show i + 1 ≤ n from h)
  rwa [Nat.succ_mul] at this
theorem elem_length {vs : List Value} {esz n i : Nat} (hl : vs.length = n * esz) (h : i < n) : (elem vs esz i).length = esz := by
  have := mul_next (esz := esz) h
  simp [elem]; omega
/-- A slice that can be read. -/
structure SlR (H : Heap) (x : Value) (esz n : Nat) (vs : List Value) : Prop where
  size : vs.length = n * esz
  is : (x = .slice none 0 0 ∧ n = 0) ∨ ∃ b off ver cap, x = slc b off ver n cap ∧ n ≤ cap ∧ rd H b off ver (n * esz) = some vs ∧ ∃ k, H[b]? = some k ∧ ver = k.ver ∧ k.esz = esz
theorem SlR.lenV {H : Heap} {x : Value} {esz n : Nat} {vs : List Value} (h : SlR H x esz n vs) : lenV x = some (.int .i64 n) := by
  rcases h.is with ⟨rfl, rfl⟩ | ⟨b, off, ver, cap, rfl, _⟩ <;> rfl
theorem SlR.app {H L : Heap} {x : Value} {esz n : Nat} {vs : List Value} (h : SlR H x esz n vs) : SlR (H ++ L) x esz n vs :=
  ⟨h.size, h.is.imp id fun ⟨b, off, ver, cap, h1, h2, h3, k, h4, h5⟩ => ⟨b, off, ver, cap, h1, h2, rd_app h3, k, by rw [List.getElem?_append_left (List.getElem?_eq_some_iff.1 h4).1]; exact h4, h5⟩⟩
theorem SlR.get {H : Heap} {x : Value} {esz n : Nat} {vs : List Value} (h : SlR H x esz n vs) {i : Nat} (hi : i < n) : ∃ a, idxAV esz x (.int .i64 (i : Int)) = some a ∧ ldH H esz true a = some (agg (elem vs esz i)) := by
  rcases h.is with ⟨rfl, rfl⟩ | ⟨b, off, ver, cap, rfl, h2, h3, _⟩
  · omega
  · refine ⟨adr b (off + i * esz) ver, by rw [idxAV_slc, at_nat hi]; rfl, ?_⟩
    rw [ldH_adr, rd_part h3 (mul_next hi)]; rfl
theorem SlR.of {H : Heap} {x : Value} {esz n : Nat} {vs : List Value} (h1 : vs.length = n * esz) (h : (x = .slice none 0 0 ∧ n = 0) ∨ ∃ b cap, x = slc b 0 0 n cap ∧ n ≤ cap ∧ rd H b 0 0 (n * esz) = some vs ∧ ∃ k, H[b]? = some k ∧ 0 = k.ver ∧ k.esz = esz) : SlR H x esz n vs :=
  ⟨h1, h.imp id fun ⟨b, cap, h1, h2, h3⟩ => ⟨b, 0, 0, cap, h1, h2, h3⟩⟩
theorem sz_call {f : Nat} (hf : tab f = some (.fn szSC)) {pu : Bool} {H : Heap} {x : Value} {esz n : Nat} {vs : List Value} (h : SlR H x esz n vs) {left : Int} (h0 : 0 ≤ left) (h1 : left ≤ 1000000) (hn : n ≤ 9223372036854775807) :
    Call tab pu f [x, .int .i64 left] H = some (.int .i64 (if left - n < 0 then -1 else left - n), H) := by
  refine Call_wp hf (.inr rfl) rfl ?_
  have e1 : IntKind.wrap .i64 (left - n) = left - n := wrap64 (by omega)
  by_cases h2 : left - (n : Int) < 0
  · simp [szSC, szSK, h.lenV, e1, h2]
  · simp [szSC, szSK, h.lenV, e1, h2]
/-- A row of which the first part is written already. -/
theorem splice_tk {C D vs : List Value} {o k : Nat} (hC : C.length = D.length) (hk : o + k ≤ D.length) (h : C.take o = D.take o) (hv : vs = (D.drop o).take k) : (splice C o vs).length = D.length ∧ (splice C o vs).take (o + k) = D.take (o + k) := by
  subst hv
  have e1 : ((D.drop o).take k).length = k := by simp; omega
  unfold splice
  refine ⟨by simp; omega, ?_⟩
  rw [e1, List.take_append_of_le_length (by simp; omega), h, List.take_of_length_le (by simp; omega)]
  exact (List.take_add ..).symm
theorem rep_len {n : Nat} {z : List Value} : (rep n z).length = n * z.length := by
  induction n with
  | zero => simp [rep]
  | succ n ih => simp [rep, ih, Nat.succ_mul]; omega
theorem elem_app {vs ws : List Value} {esz n i : Nat} (hl : vs.length = n * esz) (h : i < n) : elem (vs ++ ws) esz i = elem vs esz i := by
  have := mul_next (esz := esz) h
  unfold elem
  rw [List.drop_append_of_le_length (by omega), List.take_append_of_le_length (by simp; omega)]
theorem elem_rep {z : List Value} {n i : Nat} (h : i < n) : elem (rep n z) z.length i = z := by
  induction n generalizing i with
  | zero => omega
  | succ n ih =>
    cases i with
    | zero => simp [elem, rep]
    | succ i =>
      have := ih (i := i) (by omega)
      unfold elem at this ⊢
      rw [rep, Nat.succ_mul, Nat.add_comm, ← List.drop_drop]
      simpa using this
theorem elem_rep_app {vs z : List Value} {esz n m i : Nat} (hl : vs.length = n * esz) (hz : z.length = esz) (h : n ≤ i) (hi : i < n + m) : elem (vs ++ rep m z) esz i = z := by
  have e1 : elem (vs ++ rep m z) esz i = elem (rep m z) esz (i - n) := by
    unfold elem
    have : i * esz = vs.length + (i - n) * esz := by rw [hl, ← Nat.add_mul]; congr 1; omega
    rw [this, ← List.drop_drop, List.drop_left]
  rw [e1, ← hz]; exact elem_rep (by omega)
/-- What leads nowhere. -/
def NoRef (vs : List Value) : Prop := ∀ v ∈ vs, ∀ n, old0 n v = true
theorem NoRef.all {vs : List Value} (h : NoRef vs) {n : Nat} : vs.all (old0 n) = true := List.all_eq_true.2 fun v hv => h v hv n
theorem NoRef.app {vs ws : List Value} (h : NoRef vs) (h' : NoRef ws) : NoRef (vs ++ ws) := fun v hv n => (List.mem_append.1 hv).elim (fun h1 => h v h1 n) (fun h1 => h' v h1 n)
theorem NoRef.rep {z : List Value} (h : NoRef z) : ∀ {n : Nat}, NoRef (rep n z)
  | 0 => fun v hv => by simp [Fb.rep] at hv
  | n + 1 => h.app (NoRef.rep h)
theorem finish_slc {H G : Heap} {b ver len cap : Nat} {k : Blk} (hp : Pre H G) (hb : H.length ≤ b) (hk : G[b]? = some k) (hv : ver = k.ver) (hr : k.ro = false) (ho : k.cells.all (old0 H.length) = true) :
    finish H.length G [slc b 0 ver len cap] = (slc H.length 0 0 len cap, H ++ [{ k with ver := 0 }]) := by
  have hne : old1 H.length (slc b 0 ver len cap) = false := by
    show (true && decide (b < H.length)) = false
    simp; omega
  have : pack H.length G [slc b 0 ver len cap] [] [] = some ([slc H.length 0 0 len cap], [{ k with ver := 0 }]) := by
    rw [pack, if_neg (by rw [hne]; decide)]
    show (match G[b]? with
      | some k => if ([] : List Nat).contains b = false ∧ ver = k.ver ∧ k.ro = false ∧ k.cells.all (old0 H.length) = true then _ else none
      | none => none) = _
    rw [hk]
    simp only []
    rw [if_pos ⟨by simp, hv, hr, ho⟩]
    rfl
  rw [finish_some this, hp.take]; rfl
/-- The cells of a copy: with room behind. -/
def room (vs : List Value) (n : Nat) (fc : List Value) : List Value := vs ++ rep (roomN n) fc
theorem room_length {vs fc : List Value} {n esz : Nat} (hl : vs.length = n * esz) (hf : fc.length = esz) : (room vs n fc).length = (n + roomN n) * esz := by
  simp [room, rep_len, hl, hf, Nat.add_mul]
def mksV (esz bytes : Nat) (z : List Value) (G : Heap) (x y : Value) : Option (Value × Heap) := match x, y with
  | .int .i64 l, .int .i64 c => if 0 ≤ l ∧ l ≤ c ∧ c * bytes ≤ roomMax then some (slc G.length 0 0 l.toNat c.toNat, G ++ [⟨rep c.toNat z, esz, 0, false⟩]) else none
  | _, _ => none
theorem ev1_mkS {cl : Cl} {n0 : Nat} {wb : Bool} {e : Env} {G : Heap} {esz bytes : Nat} {z : List Value} {x y : Opd} : ev1 cl n0 wb e G (.mkS esz bytes z x y) = mksV esz bytes z G (x.ev e) (y.ev e) := rfl
theorem mksV_int {esz bytes : Nat} {z : List Value} {G : Heap} {l c : Int} : mksV esz bytes z G (.int .i64 l) (.int .i64 c) =
    if 0 ≤ l ∧ l ≤ c ∧ c * bytes ≤ roomMax then some (slc G.length 0 0 l.toNat c.toNat, G ++ [⟨rep c.toNat z, esz, 0, false⟩]) else none := rfl
theorem toS_call {f toE esz bytes : Nat} {z fc : List Value} {fo : Op1} (hf : tab f = some (.fn (toSC toE esz bytes z fo))) (hz : z.length = esz) (hb : bytes ≤ 64)
    (hfo : ∀ n0 e G, ev1 (Call tab) n0 false e G fo = some (agg fc, G)) (hfc : fc.length = esz) {pu : Bool} {H : Heap} {x : Value} {n : Nat} {vs : List Value} (hs : SlR H x esz n vs) (hn : n ≤ 1000000)
    (hE : ∀ i G, i < n → Call tab true toE [agg (elem vs esz i)] G = some (agg (elem vs esz i), G)) (ho : NoRef vs) (ho2 : NoRef fc) {flag : Bool} :
    Call tab pu f [x, .bool flag] H = some (if flag = true ∧ n = 0 then (.slice none 0 0, H) else (slc H.length 0 0 n (n + roomN n), H ++ [⟨room vs n fc, esz, 0, false⟩])) := by
  refine Call_wp hf (.inr rfl) rfl ?_
  by_cases hc : flag = true ∧ n = 0
  · obtain ⟨rfl, rfl⟩ := hc
    simp [toSC, toSK, hs.lenV]
  · have hn0 : flag = true → ¬ n = 0 := fun h h2 => hc ⟨h, h2⟩
    have hr := roomN_le (n := n)
    generalize hR : roomN n = R at hr
    have e1 : IntKind.wrap .i64 ((n : Int) + (R : Int)) = ((n + R : Nat) : Int) := by rw [wrap64 (by omega)]; omega
    have hmk : (0 ≤ ((n + R : Nat) : Int) ∧ ((n + R : Nat) : Int) ≤ ((n + R : Nat) : Int) ∧ ((n + R : Nat) : Int) * bytes ≤ roomMax) := by
      refine ⟨by omega, by omega, ?_⟩
      have h1 : (n + R) * bytes ≤ 3000000 * 64 := Nat.mul_le_mul (by omega) hb
      have h2 : roomMax = 140737488355328 := rfl
      rw [h2]
      have h3 : (((n + R) * bytes : Nat) : Int) ≤ ((3000000 * 64 : Nat) : Int) := Int.ofNat_le.2 h1
      rw [Int.natCast_mul] at h3
      exact Int.le_trans h3 (by decide)
    have hD : (room vs n fc).length = (n + R) * esz := by rw [room_length hs.size hfc, hR]
    have hele : ∀ i, i < n → elem (room vs n fc) esz i = elem vs esz i := fun i hi => elem_app hs.size hi
    have hele2 : ∀ i, n ≤ i → i < n + R → elem (room vs n fc) esz i = fc := fun i hi h2 => by unfold room; rw [hR]; exact elem_rep_app hs.size hfc hi h2
    have hev : ∀ (e : Env) (G : Heap), e 19 = .int .i64 ((n + R : Nat) : Int) → ev1 (Call tab) H.length false e G (.mkS esz bytes z (.t 19) (.t 19)) = some (slc G.length 0 0 (n + R) (n + R), G ++ [⟨rep (n + R) z, esz, 0, false⟩]) := by
      intro e G h
      rw [ev1_mkS, ev_t, h, mksV_int, if_pos hmk, Int.toNat_natCast]
    -- one store
    have hst : ∀ (C : List Value) (i : Nat) (vs' : List Value), C.length = (n + R) * esz → i < n + R → vs'.length = esz → stO H.length false (H ++ [⟨C, esz, 0, false⟩]) esz (adr H.length (i * esz) 0) (agg vs') = some (U, H ++ [⟨splice C (i * esz) vs', esz, 0, false⟩]) := by
      intro C i vs' hC hi hv
      have := mul_next (esz := esz) hi
      rw [stO_adr, cellsOf_agg, if_pos hv, wr_at (k := ⟨C, esz, 0, false⟩) get_last rfl rfl (by simp [may]) (by simp; omega), set_last]; rfl
    have hn1 : flag = true → ((n : Int) == 0) = false := fun h => by have := hn0 h; simp; omega
    have hmk' := hmk
    have hnlt : n < 9223372036854775807 := by omega
    have hbits : ∀ (C : List Value), C.length = (n + R) * esz → C.take ((n + R) * esz) = (room vs n fc).take ((n + R) * esz) → C = room vs n fc := fun C h1 h2 => by
      rwa [List.take_of_length_le (by omega), List.take_of_length_le (by omega)] at h2
    cases flag
    all_goals
      simp [toSC, toSK, hs.lenV, hn1, call296, hR, e1, ev1_mkS, mksV_int, hmk', skip, -Int.natCast_add]
      refine WP_count 6 n n rfl (fun i e H' => e 0 = x ∧ e 5 = slc H.length 0 0 (n + R) (n + R) ∧ ∃ C, C.length = (n + R) * esz ∧ C.take (i * esz) = (room vs n fc).take (i * esz) ∧ H' = H ++ [⟨C, esz, 0, false⟩]) hnlt ?_ ?_ (by simp) (by simp [rep_len, hz])
      · rintro i e _ _ hi hx e6 h6 ⟨h0, h5, C, hC, hCt, rfl⟩
        obtain ⟨a, ha, hl⟩ := (hs.app (L := [⟨C, esz, 0, false⟩])).get hi
        have hel := elem_length hs.size hi
        have hnx := mul_next (esz := esz) (show i < n + R by omega)
        obtain ⟨g1, g2⟩ := splice_tk (C := C) (D := room vs n fc) (vs := elem vs esz i) (o := i * esz) (k := esz) (by omega) (by omega) hCt (hele i hi).symm
        have hi2 : i < n + R := by omega
        simp [toSB1, h6, h0, h5, hx, hs.lenV, ha, hl, hE i _ hi, at_nat hi2, hst C i _ hC hi2 hel, wbOf, e6, -stO_adr]
        exact ⟨by omega, by rw [Nat.succ_mul]; exact g2⟩
      · rintro e _ _ h6 ⟨h0, h5, C, hC, hCt, rfl⟩
        simp [toSB1, h6, h0, h5, hs.lenV]
        refine WP_from 7 n (n + R) ((n + R : Nat) : Int) rfl (fun i e H' => e 0 = x ∧ e 5 = slc H.length 0 0 (n + R) (n + R) ∧ ∃ C, C.length = (n + R) * esz ∧ C.take (i * esz) = (room vs n fc).take (i * esz) ∧ H' = H ++ [⟨C, esz, 0, false⟩]) (by omega) (by omega) ?_ ?_ (by simp) ⟨by simp [h0], by simp [h5], C, hC, hCt, rfl⟩
        · rintro i e _ hni hi hx e6 h7 ⟨h0, h5, C, hC, hCt, rfl⟩
          have hnx := mul_next (esz := esz) hi
          obtain ⟨g1, g2⟩ := splice_tk (C := C) (D := room vs n fc) (vs := fc) (o := i * esz) (k := esz) (by omega) (by omega) hCt (hele2 i hni hi).symm
          simp [toSB2, h7, h0, h5, hx, hfo, at_nat hi, hst C i _ hC hi hfc, wbOf, e6, -stO_adr, -Int.natCast_add]
          exact ⟨by omega, by rw [Nat.succ_mul]; exact g2⟩
        · rintro e _ h7 ⟨h0, h5, C, hC, hCt, rfl⟩
          obtain rfl := hbits C hC hCt
          have hsl : slcAV (H ++ [⟨room vs n fc, esz, 0, false⟩]) esz (slc H.length 0 0 (n + R) (n + R)) none (some (.int .i64 n)) none = some (slc H.length 0 0 n (n + R)) := slcAV_hi get_last rfl rfl (by omega)
          have hfin := finish_slc (H := H) (G := H ++ [⟨room vs n fc, esz, 0, false⟩]) (b := H.length) (ver := 0) (len := n) (cap := n + R) (k := ⟨room vs n fc, esz, 0, false⟩) ⟨_, rfl⟩ (Nat.le_refl _) get_last rfl rfl (NoRef.all (ho.app ho2.rep))
          simp [toSB2, h7, h0, h5, hs.lenV, hsl, hfin, hn0, -Int.natCast_add]
theorem eqS_call {f eqE esz : Nat} (hf : tab f = some (.fn (eqSC eqE esz))) {pu : Bool} {H : Heap} {x y : Value} {n : Nat} {vs : List Value} (hx : SlR H x esz n vs) (hy : SlR H y esz n vs) (hn : n ≤ 1000000000)
    (hE : ∀ i, i < n → Call tab true eqE [agg (elem vs esz i), agg (elem vs esz i)] H = some (.bool true, H)) : Call tab pu f [x, y] H = some (.bool true, H) := by
  refine Call_wp hf (.inr rfl) rfl ?_
  simp [eqSC, eqSK, hx.lenV, hy.lenV]
  refine WP_forH 5 n n rfl (by omega) (fun i e => e 0 = x ∧ e 1 = y) ?_ ?_ (by simp) (by simp)
  · rintro i e hi hlt e4 h5 ⟨h0, h1⟩
    obtain ⟨a, ha, hl⟩ := hx.get hi
    obtain ⟨a', ha', hl'⟩ := hy.get hi
    simp [eqSB1, h5, h0, h1, hlt, hx.lenV, ha, hl, ha', hl', hE i hi, e4]
  · rintro e h5 ⟨h0, h1⟩
    simp [eqSB1, h5, h0, h1, hx.lenV]
/-- What a copy looks like. -/
def IsCp (H : Heap) (x : Value) (esz n : Nat) (vs fc : List Value) : Prop := ∃ b ver, x = slc b 0 ver n (n + roomN n) ∧ H[b]? = some ⟨room vs n fc, esz, ver, false⟩
theorem IsCp.sl {H : Heap} {x : Value} {esz n : Nat} {vs fc : List Value} (h : IsCp H x esz n vs fc) (hl : vs.length = n * esz) (hf : fc.length = esz) : SlR H x esz n vs := by
  obtain ⟨b, ver, rfl, h⟩ := h
  refine ⟨hl, .inr ⟨b, 0, ver, _, rfl, by omega, ?_, _, h, rfl, rfl⟩⟩
  have := room_length hl hf
  rw [Nat.add_mul] at this
  rw [rd_at h rfl (by simp; omega)]
  simp [room, hl]
theorem IsCp.app {H L : Heap} {x : Value} {esz n : Nat} {vs fc : List Value} (h : IsCp H x esz n vs fc) : IsCp (H ++ L) x esz n vs fc := by
  obtain ⟨b, ver, rfl, h⟩ := h
  exact ⟨b, ver, rfl, by rw [List.getElem?_append_left (List.getElem?_eq_some_iff.1 h).1]; exact h⟩
theorem IsCp.mk {H : Heap} {esz n : Nat} {vs fc : List Value} : IsCp (H ++ [⟨room vs n fc, esz, 0, false⟩]) (slc H.length 0 0 n (n + roomN n)) esz n vs fc := ⟨_, _, rfl, get_last⟩
theorem inS_call {f eqS eqE esz : Nat} (hf : tab f = some (.fn (inSC eqS esz))) (hf2 : tab eqS = some (.fn (eqSC eqE esz))) {pu : Bool} {H : Heap} {x y : Value} {n : Nat} {vs fc : List Value} (hx : IsCp H x esz n vs fc) (hy : IsCp H y esz n vs fc) (hn : n ≤ 1000000)
    (hl : vs.length = n * esz) (hfc : fc.length = esz) (hE : ∀ i, i < n → Call tab true eqE [agg (elem vs esz i), agg (elem vs esz i)] H = some (.bool true, H)) (hE2 : Call tab true eqE [agg fc, agg fc] H = some (.bool true, H)) :
    Call tab pu f [x, y] H = some (.bool true, H) := by
  refine Call_wp hf (.inr rfl) rfl ?_
  obtain ⟨b, ver, rfl, h⟩ := hx
  obtain ⟨b', ver', rfl, h'⟩ := hy
  have hr := roomN_le (n := n)
  have e1 : IntKind.wrap .i64 ((n : Int) + (roomN n : Int)) = ((n + roomN n : Nat) : Int) := by rw [wrap64 (by omega)]; omega
  have hlen := room_length hl hfc
  have s1 := slcAV_hi (off := 0) (len := n) (cap := n + roomN n) (kk := .i64) h rfl rfl (Nat.le_refl (n + roomN n))
  have s2 := slcAV_hi (off := 0) (len := n) (cap := n + roomN n) (kk := .i64) h' rfl rfl (Nat.le_refl (n + roomN n))
  have r1 : SlR H (slc b 0 ver (n + roomN n) (n + roomN n)) esz (n + roomN n) (room vs n fc) := ⟨hlen, .inr ⟨b, 0, ver, _, rfl, Nat.le_refl _, by rw [rd_at h rfl (by simp; omega)]; simp [take_all (Nat.le_of_eq hlen)], _, h, rfl, rfl⟩⟩
  have r2 : SlR H (slc b' 0 ver' (n + roomN n) (n + roomN n)) esz (n + roomN n) (room vs n fc) := ⟨hlen, .inr ⟨b', 0, ver', _, rfl, Nat.le_refl _, by rw [rd_at h' rfl (by simp; omega)]; simp [take_all (Nat.le_of_eq hlen)], _, h', rfl, rfl⟩⟩
  have hc := eqS_call hf2 (pu := true) r1 r2 (by omega) fun i hi => by
    rcases Nat.lt_or_ge i n with h3 | h3
    · unfold room; rw [elem_app hl h3]; exact hE i h3
    · unfold room; rw [elem_rep_app hl hfc h3 hi]; exact hE2
  simp [inSC, inSK, call296, e1, s1, s2, hc, -Int.natCast_add]
theorem SlR.pre {H G : Heap} {x : Value} {esz n : Nat} {vs : List Value} (p : Pre H G) (h : SlR H x esz n vs) : SlR G x esz n vs := by obtain ⟨L, rfl⟩ := p; exact h.app
theorem IsCp.pre {H G : Heap} {x : Value} {esz n : Nat} {vs fc : List Value} (p : Pre H G) (h : IsCp H x esz n vs fc) : IsCp G x esz n vs fc := by obtain ⟨L, rfl⟩ := p; exact h.app
/-- What a call that copies a slice brings about. -/
def CpF (f : Nat) (H : Heap) (x : Value) (esz n : Nat) (vs fc : List Value) : Prop := ∀ pu flag, Call tab pu f [x, .bool flag] H = some (if flag = true ∧ n = 0 then (.slice none 0 0, H) else (slc H.length 0 0 n (n + roomN n), H ++ [⟨room vs n fc, esz, 0, false⟩]))
/-- A copy. -/
theorem cp_false {f : Nat} {pu : Bool} {H : Heap} {x : Value} {esz n : Nat} {vs fc : List Value} (hl : vs.length = n * esz) (hf : fc.length = esz) (h : CpF f H x esz n vs fc) :
    ∃ x' G, Call tab pu f [x, .bool false] H = some (x', G) ∧ IsCp G x' esz n vs fc ∧ SlR G x' esz n vs ∧ Pre H G := by
  have h := h pu false
  rw [if_neg (by simp)] at h
  exact ⟨_, _, h, IsCp.mk, IsCp.mk.sl hl hf, Pre.one⟩
/-- A copy, with a list that is nil where it is empty. -/
theorem cp_true {f : Nat} {pu : Bool} {H : Heap} {x : Value} {esz n : Nat} {vs fc : List Value} (hl : vs.length = n * esz) (hf : fc.length = esz) (h : CpF f H x esz n vs fc) :
    ∃ x' G, Call tab pu f [x, .bool true] H = some (x', G) ∧ SlR G x' esz n vs ∧ Pre H G := by
  have h := h pu true
  by_cases h0 : n = 0
  · subst h0
    refine ⟨.slice none 0 0, H, ?_, ⟨hl, .inl ⟨rfl, rfl⟩⟩, .refl⟩
    rw [h]; simp
  · rw [if_neg (by simp [h0])] at h
    exact ⟨_, _, h, IsCp.mk.sl hl hf, Pre.one⟩
/-- Things of a kind, one behind the other. -/
def rowsC {α : Type} (f : α → List Value) : List α → List Value
  | [] => []
  | a :: r => f a ++ rowsC f r
def at0 {α : Type} [Inhabited α] (l : List α) (i : Nat) : α := l.getD i default
theorem at0_mem {α : Type} [Inhabited α] {l : List α} {i : Nat} (h : i < l.length) : at0 l i ∈ l := by
  rw [at0, List.getD_eq_getElem?_getD, List.getElem?_eq_getElem h]; exact List.getElem_mem h
theorem at0_get {α : Type} [Inhabited α] {l : List α} {i : Nat} (h : i < l.length) : l[i]? = some (at0 l i) := by
  rw [at0, List.getD_eq_getElem?_getD, List.getElem?_eq_getElem h]; rfl
theorem rows_length {α : Type} {f : α → List Value} {esz : Nat} {l : List α} (hf : ∀ a ∈ l, (f a).length = esz) : (rowsC f l).length = l.length * esz := by
  induction l with
  | nil => simp [rowsC]
  | cons a r ih =>
    have h1 := ih fun b hb => hf b (by simp [hb])
    have h2 := hf a (by simp)
    simp [rowsC, h1, h2, Nat.succ_mul]; omega
theorem rows_elem {α : Type} [Inhabited α] {f : α → List Value} {esz : Nat} {l : List α} (hf : ∀ a ∈ l, (f a).length = esz) {i : Nat} (hi : i < l.length) : elem (rowsC f l) esz i = f (at0 l i) := by
  induction l generalizing i with
  | nil => simp at hi
  | cons a r ih =>
    have h2 := hf a (by simp)
    cases i with
    | zero => simp [elem, rowsC, at0, ← h2]
    | succ i =>
      have h1 := ih (fun b hb => hf b (by simp [hb])) (i := i) (by simpa using hi)
      rw [show at0 (a :: r) (i + 1) = at0 r i by simp [at0], ← h1]
      unfold elem
      rw [Nat.succ_mul, Nat.add_comm, ← List.drop_drop, rowsC, ← h2, List.drop_left]
theorem rows_flat {α : Type} {f : α → List Value} {l : List α} (hf : ∀ a ∈ l, NoRef (f a)) : NoRef (rowsC f l) := by
  induction l with
  | nil => intro v hv; simp [rowsC] at hv
  | cons a r ih => exact (hf a (by simp)).app (ih fun b hb => hf b (by simp [hb]))
theorem rows_of {α : Type} {f : α → List Value} {p : α → Prop} {esz n : Nat} {vs : List Value} (hl : vs.length = n * esz) (h : ∀ i, i < n → ∃ a, elem vs esz i = f a ∧ p a) : ∃ l, vs = rowsC f l ∧ l.length = n ∧ ∀ a ∈ l, p a := by
  induction n generalizing vs with
  | zero => exact ⟨[], by simpa [rowsC] using hl, rfl, by simp⟩
  | succ n ih =>
    obtain ⟨a, ha, hp⟩ := h 0 (by omega)
    rw [Nat.succ_mul] at hl
    obtain ⟨l, h1, h2, h3⟩ := ih (vs := vs.drop esz) (by simp; omega) fun i hi => by
      obtain ⟨b, hb, hq⟩ := h (i + 1) (by omega)
      refine ⟨b, ?_, hq⟩
      rw [← hb]
      unfold elem
      rw [List.drop_drop, Nat.succ_mul, Nat.add_comm]
    refine ⟨a :: l, ?_, by simp [h2], fun b hb => ?_⟩
    · rw [rowsC, ← ha, ← h1]
      simp [elem]
    · rcases List.mem_cons.1 hb with rfl | hb
      · exact hp
      · exact h3 b hb
theorem flat_cs {k : IntKind} {l : List Int} : NoRef (cs k l) := by
  intro v hv n
  obtain ⟨a, _, rfl⟩ := List.mem_map.1 hv
  exact old0_int
theorem SlR.hi {H : Heap} {x : Value} {esz n : Nat} {vs : List Value} (h : SlR H x esz n vs) {hi : Nat} (h2 : hi ≤ n) {k' : IntKind} :
    ∃ y, slcAV H esz x none (some (.int k' (hi : Int))) none = some y ∧ SlR H y esz hi (vs.take (hi * esz)) := by
  have hsz := h.size
  have e1 : hi * esz ≤ n * esz := Nat.mul_le_mul_right _ h2
  have hlen : (vs.take (hi * esz)).length = hi * esz := by simp; omega
  rcases h.is with ⟨rfl, rfl⟩ | ⟨b, off, ver, cap, rfl, g2, g3, kk, g4, g5, g6⟩
  · obtain rfl : hi = 0 := by omega
    exact ⟨.slice none 0 0, by simp [slcAV, mxOf, bnds, bnd], hlen, .inl ⟨rfl, rfl⟩⟩
  · exact ⟨_, slcAV_hi g4 g5 g6 (by omega), hlen, .inr ⟨b, _, ver, _, rfl, by omega, by simpa using rd_part g3 (o := 0) (m := hi * esz) (by omega), kk, g4, g5, g6⟩⟩
theorem SlR.lo {H : Heap} {x : Value} {esz n : Nat} {vs : List Value} (h : SlR H x esz n vs) {lo : Nat} (h2 : lo ≤ n) {k' : IntKind} :
    ∃ y, slcAV H esz x (some (.int k' (lo : Int))) none none = some y ∧ SlR H y esz (n - lo) (vs.drop (lo * esz)) := by
  have hsz := h.size
  have e1 : lo * esz ≤ n * esz := Nat.mul_le_mul_right _ h2
  have hlen : (vs.drop (lo * esz)).length = (n - lo) * esz := by rw [Nat.sub_mul]; simp; omega
  rcases h.is with ⟨rfl, rfl⟩ | ⟨b, off, ver, cap, rfl, g2, g3, kk, g4, g5, g6⟩
  · obtain rfl : lo = 0 := by omega
    exact ⟨.slice none 0 0, by simp [slcAV, mxOf, bnds, bnd], hlen, .inl ⟨rfl, rfl⟩⟩
  · refine ⟨slc b (off + lo * esz) ver (n - lo) (cap - lo), ?_, hlen, .inr ⟨b, _, ver, _, rfl, by omega, ?_, kk, g4, g5, g6⟩⟩
    · rw [slcAV_get g4 g5 g6]; simp [bnds, bnd_nat h2]
    · have e2 : (n - lo) * esz + lo * esz = n * esz := by rw [← Nat.add_mul]; congr 1; omega
      rw [rd_part g3 (by omega), List.take_of_length_le (by omega)]
theorem SlR.get1 {H : Heap} {x : Value} {esz n : Nat} {vs : List Value} (h : SlR H x esz n vs) {i : Nat} (hi : i < n) : ∃ b off ver, idxAV esz x (.int .i64 (i : Int)) = some (adr b off ver) ∧ rd H b off ver esz = some (elem vs esz i) := by
  rcases h.is with ⟨rfl, rfl⟩ | ⟨b, off, ver, cap, rfl, h2, h3, _⟩
  · omega
  · exact ⟨b, _, ver, by rw [idxAV_slc, at_nat hi]; rfl, rd_part h3 (mul_next hi)⟩
def ixFB1 (esz : Nat) (g : Bool) : Cd :=
  (.seq
   (.reg [9] [
     ⟨none, (some 9), .bin .lss (.t 8) (.t 7), []⟩])
   (.seq
    (.cond (.t 9)
     .skip
     (.exit 0))
    (.seq
     (.block 1
      (.seq
       (.reg [5] [
         ⟨none, (some 10), .mov (.t 8), []⟩,
         ⟨none, (some 5), .mov (.t 10), []⟩])
       (.seq
        (.reg [16] [
          ⟨none, (some 11), .mov (.t 1), []⟩,
          ⟨none, (some 12), .mov (.t 0), []⟩,
          ⟨none, (some 13), .mov (.t 5), []⟩,
          ⟨none, (some 14), .idxA esz (.t 12) (.t 13), []⟩,
          ⟨none, (some 15), .ld esz g (.t 14), []⟩,
          ⟨none, (some 16), .callv (.t 11) [.t 15], []⟩])
        (.cond (.t 16)
         (.seq
          (.reg [4] [
            ⟨none, (some 17), .mov (.t 5), []⟩,
            ⟨none, (some 4), .mov (.t 17), []⟩])
          .ret)
         .skip))))
     (.reg [8] [
       ⟨none, (some 18), .bin .add (.t 8) (.c (.int .i64 1)), []⟩,
       ⟨none, (some 8), .mov (.t 18), []⟩]))))
def ixFK (esz : Nat) (g : Bool) : Cd :=
  (.seq
   (.reg [4] [
     ⟨none, (some 4), .mov (.c (.int .i64 0)), []⟩])
   (.seq
    (.seq
     (.reg [7, 8] [
       ⟨none, (some 6), .mov (.t 0), []⟩,
       ⟨none, (some 7), .len (.t 6), []⟩,
       ⟨none, (some 8), .mov (.c (.int .i64 0)), []⟩])
     (.block 0
      (.loop (ixFB1 esz g))))
    (.seq
     (.reg [4] [
       ⟨none, (some 4), .mov (.c (.int .i64 (-1))), []⟩])
     .ret)))
def ixFC (esz : Nat) (g : Bool) : Fn := { np := 2, nt := 19, kind := .pure, res := [.t 4], body := ixFK esz g }
def ctFK (ix : Nat) : Cd :=
  (.seq
   (.reg [4] [
     ⟨none, (some 4), .mov (.c (.bool false)), []⟩])
   (.seq
    (.reg [4] [
      ⟨none, (some 5), .mov (.t 0), []⟩,
      ⟨none, (some 6), .mov (.t 1), []⟩,
      ⟨none, (some 7), .call true ix [.t 5, .t 6], []⟩,
      ⟨none, (some 8), .bin .geq (.t 7) (.c (.int .i64 0)), []⟩,
      ⟨none, (some 4), .mov (.t 8), []⟩])
    .ret))
def ctFC (ix : Nat) : Fn := { np := 2, nt := 9, kind := .pure, res := [.t 4], body := ctFK ix }
/-- The first place with p below n, or -1. -/
def findN (p : Nat → Bool) (n : Nat) : Int := match (List.range n).find? p with
  | some i => i
  | none => -1
def anyN (p : Nat → Bool) (n : Nat) : Bool := (List.range n).any p
theorem findN_some {p : Nat → Bool} {n i : Nat} (hi : i < n) (hn : ∀ j, j < i → p j = false) (hp : p i = true) : findN p n = i := by
  unfold findN
  have : (List.range n).find? p = some i := by
    rw [List.find?_range_eq_some]
    exact ⟨hp, by simpa using hi, fun j hj => by simpa using hn j hj⟩
  rw [this]
theorem findN_none {p : Nat → Bool} {n : Nat} (hn : ∀ j, j < n → p j = false) : findN p n = -1 := by
  unfold findN
  have : (List.range n).find? p = none := by
    rw [List.find?_eq_none]
    intro x hx
    simp [hn x (by simpa using hx)]
  rw [this]
theorem findN_ge {p : Nat → Bool} {n : Nat} : decide (0 ≤ findN p n) = anyN p n := by
  unfold findN anyN
  cases h : (List.range n).find? p with
  | none =>
    rw [List.find?_eq_none] at h
    have : (List.range n).any p = false := by rw [List.any_eq_false]; exact h
    rw [this]; decide
  | some i =>
    have h1 := List.find?_some h
    have : (List.range n).any p = true := List.any_eq_true.2 ⟨i, List.mem_of_find?_eq_some h, h1⟩
    rw [this]; simp
theorem ixF_call {f esz : Nat} {g : Bool} (hf : tab f = some (.fn (ixFC esz g))) {pu : Bool} {H : Heap} {x F : Value} {n : Nat} {vs : List Value} (hx : SlR H x esz n vs) (hn : n ≤ 9223372036854775806) {p : Nat → Bool}
    (hF : ∀ i, i < n → ∃ v, ldv g (elem vs esz i) = some v ∧ callV (Call tab) H F [v] = some (.bool (p i), H)) : Call tab pu f [x, F] H = some (.int .i64 (findN p n), H) := by
  refine Call_wp hf (.inr rfl) rfl ?_
  simp [ixFC, ixFK, hx.lenV]
  refine WP_forH 8 n n rfl (by omega) (fun i e => e 0 = x ∧ e 1 = F ∧ e 7 = .int .i64 n ∧ ∀ j, j < i → p j = false) ?_ ?_ (by simp) (by simp)
  · rintro i e hi hlt e4 h8 ⟨h0, h1, h7, hnp⟩
    obtain ⟨b, off, ver, ha, hr⟩ := hx.get1 hi
    obtain ⟨v, hv, hc⟩ := hF i hi
    cases hp : p i with
    | true =>
      rw [hp] at hc
      simp [ixFB1, h8, h0, h1, h7, hlt, ha, hr, hv, hc, findN_some hi hnp hp]
    | false =>
      rw [hp] at hc
      simp [ixFB1, h8, h0, h1, h7, hlt, ha, hr, hv, hc, e4]
      exact upto_succ hnp hp
  · rintro e h8 ⟨h0, h1, h7, hnp⟩
    simp [ixFB1, h8, h7, findN_none hnp]
theorem ctF_call {f ix esz : Nat} {g : Bool} (hf : tab f = some (.fn (ctFC ix))) (hf2 : tab ix = some (.fn (ixFC esz g))) {pu : Bool} {H : Heap} {x F : Value} {n : Nat} {vs : List Value} (hx : SlR H x esz n vs) (hn : n ≤ 9223372036854775806) {p : Nat → Bool}
    (hF : ∀ i, i < n → ∃ v, ldv g (elem vs esz i) = some v ∧ callV (Call tab) H F [v] = some (.bool (p i), H)) : Call tab pu f [x, F] H = some (.bool (anyN p n), H) := by
  refine Call_wp hf (.inr rfl) rfl ?_
  simp [ctFC, ctFK, ixF_call hf2 hx hn hF, findN_ge]
theorem s547 : tab 547 = some (.fn (ixFC 1 false)) := t547
theorem s445 : tab 445 = some (.fn (ctFC 547)) := t445
theorem s474 : tab 474 = some (.fn (ixFC 12 true)) := t474
theorem s505 : tab 505 = some (.fn (ctFC 474)) := t505
abbrev u16' (n : Int) : Prop := 0 ≤ n ∧ n ≤ 65535
/-- A frame's form. -/
structure FrW (f : List Int) : Prop where
  len : f.length = 12
  ok : ∀ n ∈ f, u16' n
def okRow (n : Int) : Bool := decide (n ≤ 4095)
def okF (f : List Int) : Bool := f.all okRow
theorem okF_true {f : List Int} (hl : f.length = 12) (h : ∀ i, i < 12 → okRow (nth f i) = true) : okF f = true := all_nth fun j hj => h j (by omega)
theorem okF_false {f : List Int} (hl : f.length = 12) {i : Nat} (hi : i < 12) (h : okRow (nth f i) = false) : okF f = false := all_false (nth_mem (by omega)) h
theorem call359 {pu : Bool} {H : Heap} {b off ver : Nat} {f : List Int} (hl : f.length = 12) (hr : rd H b off ver 12 = some (cs .u16 f)) : Call tab pu 359 [adr b off ver] H = some (.bool (okF f), H) := by
  refine Call_wp t359 (.inr rfl) rfl ?_
  simp [c359, k359]
  refine WP_forH 3 12 12 rfl (by omega) (fun i e => e 0 = adr b off ver ∧ ∀ j, j < i → okRow (nth f j) = true) ?_ ?_ (by simp) (by simp)
  · rintro i e hi hlt e4 h3 ⟨h0, hn⟩
    have d1 := rd_one hr hi
    cases hk : okRow (nth f i) with
    | true =>
      have : ¬ (4095 < nth f i) := by simp [okRow] at hk; omega
      simp [b359_1, h3, h0, hlt, hi, d1, this, e4]
      exact upto_succ hn hk
    | false =>
      have : 4095 < nth f i := by simp [okRow] at hk; omega
      simp [b359_1, h3, h0, hlt, hi, d1, this, okF_false hl hi hk]
  · rintro e h3 ⟨h0, hn⟩
    simp [b359_1, h3, okF_true hl hn]
theorem call446 {pu : Bool} {H : Heap} {n : Int} : Call tab pu 446 [.int .u16 n] H = some (.bool (!okRow n), H) := by
  refine Call_wp t446 (.inr rfl) rfl ?_
  have : decide (4095 < n) = !okRow n := by unfold okRow; by_cases h : n ≤ 4095 <;> simp [h] <;> omega
  simp [c446, k446, this]
theorem anyN_okF {f : List Int} (hl : f.length = 12) : anyN (fun i => !okRow (nth f i)) 12 = !okF f := by
  cases hk : okF f with
  | true =>
    have : anyN (fun i => !okRow (nth f i)) 12 = false := by
      unfold anyN
      rw [List.any_eq_false]
      intro i hi
      have := List.all_eq_true.1 (show f.all okRow = true from hk) _ (nth_mem (i := i) (by rw [hl]; simpa using hi))
      simp [this]
    rw [this]; rfl
  | false =>
    obtain ⟨x, hx, hp⟩ := List.all_eq_false.1 (show f.all okRow = false from hk)
    obtain ⟨i, hi, rfl⟩ := mem_nth hx
    have : anyN (fun i => !okRow (nth f i)) 12 = true := List.any_eq_true.2 ⟨i, by simp; omega, by simpa using hp⟩
    rw [this]; rfl
theorem call234 {pu : Bool} {H : Heap} {f : List Int} (hl : f.length = 12) : Call tab pu 234 [iv .u16 f] H = some (.bool (okF f), H) := by
  refine Call_wp t234 (.inr rfl) rfl ?_
  obtain ⟨G, hG⟩ : ∃ G, G = H ++ [⟨cs .u16 f, 1, 0, false⟩] := ⟨_, rfl⟩
  have hT : G.take H.length = H := by rw [hG]; simp
  have hs : slcPV G 12 1 (adr H.length 0 0) = some (slc H.length 0 0 12 12) := by rw [hG]; exact slcP_last rfl rfl (by simp [hl])
  have hr : SlR G (slc H.length 0 0 12 12) 1 12 (cs .u16 f) := ⟨by simp [hl], .inr ⟨_, 0, 0, 12, rfl, Nat.le_refl _, by rw [hG]; exact rd_last rfl (by simp [hl]), _, by rw [hG]; exact get_last, rfl, rfl⟩⟩
  have hc := ctF_call s445 s547 (pu := true) (F := .func (.func 446) #[] #[]) (p := fun i => !okRow (nth f i)) hr (by omega) fun i hi => ⟨.int .u16 (nth f i), by
    unfold elem; rw [Nat.mul_one, cs_one (by omega)]; rfl, by simp [call446]⟩
  rw [anyN_okF hl] at hc
  simp [c234, k234, hl, ← hG, hT, hs, hc]
theorem call506 {pu : Bool} {H : Heap} {f : List Int} (hl : f.length = 12) : Call tab pu 506 [iv .u16 f] H = some (.bool (!okF f), H) := by
  refine Call_wp t506 (.inr rfl) rfl ?_
  simp [c506, k506, hl, call234 hl]
def frC (f : List Int) : List Value := cs .u16 f
def bkC (b : List (List Int)) : List Value := rowsC frC b
/-- A book's form. -/
def BkW (b : List (List Int)) : Prop := ∀ f ∈ b, FrW f
def fr (b : List (List Int)) (i : Nat) : List Int := at0 b i
theorem BkW.fr {b : List (List Int)} (h : BkW b) {i : Nat} (hi : i < b.length) : FrW (fr b i) := h _ (at0_mem hi)
theorem bkC_length {b : List (List Int)} (h : BkW b) : (bkC b).length = b.length * 12 := rows_length (f := frC) (esz := 12) fun f hf => by simp [frC, (h f hf).len]
theorem bkC_elem {b : List (List Int)} (h : BkW b) {i : Nat} (hi : i < b.length) : elem (bkC b) 12 i = cs .u16 (fr b i) := rows_elem (f := frC) (esz := 12) (fun f hf => by simp [frC, (h f hf).len]) hi
theorem bkC_flat {b : List (List Int)} : NoRef (bkC b) := rows_flat fun _ _ => flat_cs
/-- A book in memory. -/
abbrev Bk (H : Heap) (x : Value) (b : List (List Int)) : Prop := SlR H x 12 b.length (bkC b)
theorem Bk.get {H : Heap} {x : Value} {b : List (List Int)} (h : Bk H x b) (hw : BkW b) {i : Nat} (hi : i < b.length) : ∃ q off ver, idxAV 12 x (.int .i64 (i : Int)) = some (adr q off ver) ∧ rd H q off ver 12 = some (cs .u16 (fr b i)) := by
  obtain ⟨q, off, ver, h1, h2⟩ := SlR.get1 h hi
  rw [bkC_elem hw hi] at h2
  exact ⟨q, off, ver, h1, h2⟩
def okFs (b : List (List Int)) : Bool := b.all okF
def okB (b : List (List Int)) : Bool := okFs b && decide (b.length ≤ 40)
theorem okFs_true {b : List (List Int)} (h : ∀ i, i < b.length → okF (fr b i) = true) : okFs b = true := by
  rw [okFs, List.all_eq_true]
  intro f hf
  obtain ⟨i, hi, rfl⟩ := List.getElem_of_mem hf
  have := h i hi
  rwa [show fr b i = b[i] from Option.some.inj ((at0_get hi).symm.trans (List.getElem?_eq_getElem hi))] at this
theorem okFs_false {b : List (List Int)} {i : Nat} (hi : i < b.length) (h : okF (fr b i) = false) : okFs b = false := by
  rw [okFs, List.all_eq_false]
  exact ⟨_, at0_mem hi, by rw [show at0 b i = fr b i from rfl, h]; decide⟩
theorem okFs_nth {b : List (List Int)} (h : okFs b = true) {i : Nat} (hi : i < b.length) : okF (fr b i) = true := List.all_eq_true.1 (show b.all okF = true from h) _ (at0_mem hi)
theorem call318 {pu : Bool} {H : Heap} {x : Value} {b : List (List Int)} (h : Bk H x b) (hw : BkW b) (hn : b.length ≤ 9223372036854775806) : Call tab pu 318 [x] H = some (.bool (okB b), H) := by
  refine Call_wp t318 (.inr rfl) rfl ?_
  simp [c318, k318]
  refine WP_forH 3 b.length _ rfl (by omega) (fun i e => e 0 = x ∧ ∀ j, j < i → okF (fr b j) = true) ?_ ?_ (by simp) (by simp)
  · rintro i e hi hlt e4 h3 ⟨h0, hnp⟩
    obtain ⟨q, off, ver, ha, hr⟩ := h.get hw hi
    have hc := call359 (pu := true) (hw.fr hi).len hr
    cases hk : okF (fr b i) with
    | true =>
      rw [hk] at hc
      simp [b318_1, h3, h0, hlt, h.lenV, ha, hc, e4]
      exact upto_succ hnp hk
    | false =>
      rw [hk] at hc
      simp [b318_1, h3, h0, hlt, h.lenV, ha, hc, okB, okFs_false hi hk]
  · rintro e h3 ⟨h0, hnp⟩
    have e1 : decide ((b.length : Int) ≤ 40) = decide (b.length ≤ 40) := by apply decide_eq_decide.2; omega
    simp [b318_1, h3, h0, h.lenV, okB, okFs_true hnp, e1]
theorem anyN_okFs {b : List (List Int)} : anyN (fun i => !okF (fr b i)) b.length = !okFs b := by
  cases hk : okFs b with
  | true =>
    have : anyN (fun i => !okF (fr b i)) b.length = false := by
      unfold anyN
      rw [List.any_eq_false]
      intro i hi
      simp [okFs_nth hk (i := i) (by simpa using hi)]
    rw [this]; rfl
  | false =>
    obtain ⟨f, hf, hp⟩ := List.all_eq_false.1 (show b.all okF = false from hk)
    obtain ⟨i, hi, rfl⟩ := List.getElem_of_mem hf
    have : anyN (fun i => !okF (fr b i)) b.length = true := List.any_eq_true.2 ⟨i, by simpa using hi, by
      rw [show fr b i = b[i] from Option.some.inj ((at0_get hi).symm.trans (List.getElem?_eq_getElem hi))]; simpa using hp⟩
    rw [this]; rfl
theorem call351 {pu : Bool} {H : Heap} {x : Value} {b : List (List Int)} (h : Bk H x b) (hw : BkW b) (hn : b.length ≤ 9223372036854775806) : Call tab pu 351 [x] H = some (.bool (okFs b), H) := by
  refine Call_wp t351 (.inr rfl) rfl ?_
  have hc := ctF_call s505 s474 (pu := true) (F := .func (.func 506) #[] #[]) (p := fun i => !okF (fr b i)) h hn fun i hi => ⟨iv .u16 (fr b i), by rw [bkC_elem hw hi]; rfl, by simp [call506 (hw.fr hi).len]⟩
  rw [anyN_okFs] at hc
  simp [c351, k351, hc]
theorem call316 {pu : Bool} {H : Heap} {x : Value} {b : List (List Int)} (h : Bk H x b) (hw : BkW b) (hn : b.length ≤ 9223372036854775806) : Call tab pu 316 [x] H = some (.bool (okB b), H) := by
  refine Call_wp t316 (.inr rfl) rfl ?_
  by_cases h1 : b.length ≤ 40
  · have h2 : (b.length : Int) ≤ 40 := by omega
    simp [c316, k316, h.lenV, h2, call351 h hw hn, okB, h1]
  · have h2 : ¬ ((b.length : Int) ≤ 40) := by omega
    simp [c316, k316, h.lenV, h2, okB, h1, skip]
/- Copies of books. -/
theorem call134 {pu : Bool} {H : Heap} {l : List Int} (hl : l.length = 12) : Call tab pu 134 [iv .u16 l] H = some (iv .u16 l, H) := by
  refine Call_wp t134 (.inr rfl) rfl ?_
  simp [c134, k134, zs_cs, agg_cs]
  refine WP_forH 4 12 12 rfl (by omega) (fun i e => e 1 = iv .u16 l ∧ e 3 = iv .u16 (cp l i) ∧ e 2 = iv .u16 (zr 12 0)) ?_ ?_ (by simp) (by simp [cp_zero hl])
  · rintro i e hi hx e4 h4 ⟨h1, h3, h2⟩
    have e5 : stc (iv .u16 (cp l i)) i [.int .u16 (nth l i)] = some (iv .u16 (cp l (i + 1))) := by rw [stc_one (by rw [cp_length] <;> omega) rfl, cp_set (by omega)]
    simp (disch := first | omega | assumption) [b134_1, h4, h1, h3, h2, hx, hi, e4, hl, e5]
  · rintro e h4 ⟨h1, h3, h2⟩
    have e5 : stc (iv .u16 (zr 12 0)) 0 (cs .u16 l) = some (iv .u16 l) := stc_all (by simp [hl])
    simp (disch := first | omega | assumption) [b134_1, h4, h3, h2, hl, e5, agg_cs, cp_all hl]
def bkF : List Int := [60201, 0, 0, 0, 0, 0, 0, 0, 0, 0, 0, 0]
def bkFC : List Value := cs .u16 bkF
theorem s103 : tab 103 = some (.fn szSC) := t103
theorem s105 : tab 105 = some (.fn (toSC 134 12 24 (zs 12 (.int .u16 0)) (.agg (zs 12 (.int .u16 0)) [(0, 1, .c (.int .u16 60201))]))) := t105
theorem s107 : tab 107 = some (.fn (inSC 121 12)) := t107
theorem s121 : tab 121 = some (.fn (eqSC 78 12)) := t121
theorem call105 {H : Heap} {x : Value} {b : List (List Int)} (hs : Bk H x b) (hw : BkW b) (hn : b.length ≤ 1000000) : CpF 105 H x 12 b.length (bkC b) bkFC := fun pu flag =>
  toS_call s105 (by simp) (by omega) (fun n0 e G => by simp [fill, splice, bkFC, bkF, zs_cs, zr]; rfl) rfl hs hn (fun i G hi => by rw [bkC_elem hw hi]; exact call134 (hw.fr hi).len) bkC_flat flat_cs
theorem call107 {pu : Bool} {H : Heap} {x y : Value} {b : List (List Int)} (hx : IsCp H x 12 b.length (bkC b) bkFC) (hy : IsCp H y 12 b.length (bkC b) bkFC) (hw : BkW b) (hn : b.length ≤ 1000000) : Call tab pu 107 [x, y] H = some (.bool true, H) :=
  inS_call s107 s121 hx hy hn (bkC_length hw) rfl (fun i hi => by rw [bkC_elem hw hi]; exact call78 (hw.fr hi).len) (call78 (l := bkF) rfl)
def lbiK (sz : Nat) (to : Nat) (it : Nat) (sp : Nat) (im : Nat) : Cd :=
  (.seq
   (.reg [2] [
     ⟨none, (some 2), .mov (.c (.bool false)), []⟩])
   (.seq
    (.reg [3] [
      ⟨none, (some 3), .mov (.c (.int .i64 1000000)), []⟩])
    (.seq
     (.reg [3] [
       ⟨none, (some 11), .mov (.t 0), []⟩,
       ⟨none, (some 12), .mov (.t 3), []⟩,
       ⟨none, (some 13), .call true sz [.t 11, .t 12], []⟩,
       ⟨none, (some 3), .mov (.t 13), []⟩])
     (.seq
      (.seq
       (.reg [15] [
         ⟨none, (some 14), .mov (.t 3), []⟩,
         ⟨none, (some 15), .bin .lss (.t 14) (.c (.int .i64 0)), []⟩])
       (.cond (.t 15)
        (.seq
         (.reg [2] [
           ⟨none, (some 2), .mov (.c (.bool true)), []⟩])
         .ret)
        .skip))
      (.seq
       (.reg [4, 5] [
         ⟨none, (some 17), .mov (.t 0), []⟩,
         ⟨none, (some 18), .call true to [.t 17, .c (.bool false)], []⟩,
         ⟨none, (some 19), .call true sp [.t 18], []⟩,
         ⟨none, (some 16), .mov (.t 19), []⟩,
         ⟨none, (some 20), .ext (.t 16) 0, []⟩,
         ⟨none, (some 21), .ext (.t 16) 1, []⟩,
         ⟨none, (some 4), .mov (.t 20), []⟩,
         ⟨none, (some 5), .mov (.t 21), []⟩])
       (.seq
        (.reg [6] [
          ⟨none, (some 22), .mov (.t 0), []⟩,
          ⟨none, (some 23), .call true to [.t 22, .c (.bool false)], []⟩,
          ⟨none, (some 6), .mov (.t 23), []⟩])
        (.seq
         (.reg [7, 8] [
           ⟨none, (some 25), .mov (.t 6), []⟩,
           ⟨none, (some 26), .call true im [.t 25], []⟩,
           ⟨none, (some 24), .mov (.t 26), []⟩,
           ⟨none, (some 27), .ext (.t 24) 0, []⟩,
           ⟨none, (some 28), .ext (.t 24) 1, []⟩,
           ⟨none, (some 7), .mov (.t 27), []⟩,
           ⟨none, (some 8), .mov (.t 28), []⟩])
         (.seq
          (.seq
           (.reg [36] [
             ⟨none, (some 29), .mov (.t 7), []⟩,
             ⟨none, (some 30), .mov (.t 4), []⟩,
             ⟨none, (some 31), .bin .neq (.t 29) (.t 30), []⟩,
             ⟨none, (some 32), .mov (.t 31), []⟩,
             ⟨(some (32, false)), (some 33), .mov (.t 8), []⟩,
             ⟨(some (32, false)), (some 34), .mov (.t 5), []⟩,
             ⟨(some (32, false)), (some 35), .bin .neq (.t 33) (.t 34), []⟩,
             ⟨none, (some 36), .pick (.t 32) (.c (.bool true)) (.t 35), []⟩])
           (.cond (.t 36)
            (.seq
             (.reg [2] [
               ⟨none, (some 2), .mov (.c (.bool false)), []⟩])
             .ret)
            .skip))
          (.seq
           (.seq
            (.reg [41] [
              ⟨none, (some 37), .mov (.t 6), []⟩,
              ⟨none, (some 38), .mov (.t 0), []⟩,
              ⟨none, (some 39), .call true to [.t 38, .c (.bool false)], []⟩,
              ⟨none, (some 40), .call true it [.t 37, .t 39], []⟩,
              ⟨none, (some 41), .un .not (.t 40), []⟩])
            (.cond (.t 41)
             (.seq
              (.reg [2] [
                ⟨none, (some 2), .mov (.c (.bool false)), []⟩])
              .ret)
             .skip))
           (.seq
            (.reg [9, 10] [
              ⟨none, (some 43), .mov (.t 0), []⟩,
              ⟨none, (some 44), .call true to [.t 43, .c (.bool true)], []⟩,
              ⟨none, (some 45), .call true im [.t 44], []⟩,
              ⟨none, (some 42), .mov (.t 45), []⟩,
              ⟨none, (some 46), .ext (.t 42) 0, []⟩,
              ⟨none, (some 47), .ext (.t 42) 1, []⟩,
              ⟨none, (some 9), .mov (.t 46), []⟩,
              ⟨none, (some 10), .mov (.t 47), []⟩])
            (.seq
             (.seq
              (.reg [55] [
                ⟨none, (some 48), .mov (.t 9), []⟩,
                ⟨none, (some 49), .mov (.t 4), []⟩,
                ⟨none, (some 50), .bin .neq (.t 48) (.t 49), []⟩,
                ⟨none, (some 51), .mov (.t 50), []⟩,
                ⟨(some (51, false)), (some 52), .mov (.t 10), []⟩,
                ⟨(some (51, false)), (some 53), .mov (.t 5), []⟩,
                ⟨(some (51, false)), (some 54), .bin .neq (.t 52) (.t 53), []⟩,
                ⟨none, (some 55), .pick (.t 51) (.c (.bool true)) (.t 54), []⟩])
              (.cond (.t 55)
               (.seq
                (.reg [2] [
                  ⟨none, (some 2), .mov (.c (.bool false)), []⟩])
                .ret)
               .skip))
             (.seq
              (.reg [2] [
                ⟨none, (some 2), .mov (.c (.bool true)), []⟩])
              .ret))))))))))))
def lbiC (sz : Nat) (to : Nat) (it : Nat) (sp : Nat) (im : Nat) : Fn := { np := 1, nt := 56, kind := .pure, res := [.t 2], body := lbiK sz to it sp im }
theorem lbi_call {f sp im : Nat} (hf : tab f = some (.fn (lbiC 103 105 107 sp im))) {H : Heap} {x : Value} {b : List (List Int)} (hs : Bk H x b) (hw : BkW b) (hn : b.length ≤ 9223372036854775807) {u c : Int}
    (hsp : ∀ G y, b.length ≤ 1000000 → Bk G y b → Call tab true sp [y] G = some (tup [.int .i64 u, .int .i64 c], G)) (him : ∀ G y, b.length ≤ 1000000 → Bk G y b → Call tab true im [y] G = some (tup [.int .i64 u, .int .i64 c], G)) :
    Call tab false f [x] H = some (.bool true, H) := by
  refine Call_wp hf (.inl rfl) rfl ?_
  have hsz := sz_call s103 (pu := true) hs (left := 1000000) (by omega) (by omega) hn
  by_cases hbig : b.length ≤ 1000000
  · have hsz' : ¬ (1000000 - (b.length : Int) < 0) := by omega
    rw [if_neg hsz'] at hsz
    have hbl := bkC_length hw
    obtain ⟨x1, G1, q1, k1, r1, p1⟩ := cp_false (pu := true) hbl rfl (call105 hs hw hbig)
    obtain ⟨x2, G2, q2, k2, r2, p2⟩ := cp_false (pu := true) hbl rfl (call105 (hs.pre p1) hw hbig)
    have p12 := p1.trans p2
    obtain ⟨x3, G3, q3, k3, r3, p3⟩ := cp_false (pu := true) hbl rfl (call105 (hs.pre p12) hw hbig)
    have p13 := p12.trans p3
    obtain ⟨x4, G4, q4, r4, p4⟩ := cp_true (pu := true) hbl rfl (call105 (hs.pre p13) hw hbig)
    have w3 := call107 (pu := true) (k2.pre p3) k3 hw hbig
    simp [lbiC, lbiK, hsz, hsz', q1, q2, q3, q4, hsp _ _ hbig r1, him _ _ hbig r2, him _ _ hbig r4, w3, skip, (p13.trans p4).take]
  · have hsz' : 1000000 - (b.length : Int) < 0 := by omega
    rw [if_pos hsz'] at hsz
    simp [lbiC, lbiK, hsz]
theorem eqCells_cs {k : IntKind} {n : Nat} {f g : List Int} (hf : f.length = n) (hg : g.length = n) : eqCells (rb n (some k)) (cs k f) (cs k g) = some (decide (f = g)) := by
  induction n generalizing f g with
  | zero =>
    obtain rfl := List.length_eq_zero_iff.1 hf
    obtain rfl := List.length_eq_zero_iff.1 hg
    simp [rb, cs, eqCells]
  | succ n ih =>
    obtain _ | ⟨a, f⟩ := f
    · cases hf
    obtain _ | ⟨b, g⟩ := g
    · cases hg
    have := ih (f := f) (g := g) (by simpa using hf) (by simpa using hg)
    simp only [rb, cs, List.replicate_succ, List.map_cons, eqCells, and_self, if_true] at this ⊢
    by_cases h : a = b
    · rw [if_pos h, this]; simp [h]
    · rw [if_neg h]; simp [h]
theorem eqV_iv {k : IntKind} {n : Nat} {f g : List Int} (hf : f.length = n) (hg : g.length = n) : eqV (.a (rb n (some k))) (iv k f) (iv k g) = some (decide (f = g)) := by
  show (if (cs k f).toArray.size = (rb n (some k)).length ∧ (cs k g).toArray.size = (rb n (some k)).length then eqCells (rb n (some k)) (cs k f).toArray.toList (cs k g).toArray.toList else none) = _
  rw [if_pos ⟨by simp [rb, hf], by simp [rb, hg]⟩]
  exact eqCells_cs hf hg
def allN (p : Nat → Bool) (n : Nat) : Bool := (List.range n).all p
theorem allN_true {p : Nat → Bool} {n : Nat} (h : ∀ i, i < n → p i = true) : allN p n = true := List.all_eq_true.2 fun i hi => h i (by simpa using hi)
theorem allN_false {p : Nat → Bool} {n i : Nat} (hi : i < n) (h : p i = false) : allN p n = false := List.all_eq_false.2 ⟨i, by simpa using hi, by simp [h]⟩
theorem elem_take {vs : List Value} {esz hi i : Nat} (h : i < hi) : elem (vs.take (hi * esz)) esz i = elem vs esz i := by
  have := mul_next (esz := esz) h
  unfold elem
  rw [List.drop_take, List.take_take, Nat.min_eq_left (by omega)]
theorem elem_drop {vs : List Value} {esz lo i : Nat} : elem (vs.drop (lo * esz)) esz i = elem vs esz (lo + i) := by
  unfold elem
  rw [List.drop_drop, Nat.add_mul]
/-- A slice of frames: told one by one. -/
structure FrS (H : Heap) (x : Value) (n : Nat) (g : Nat → List Int) : Prop where
  len : lenV x = some (.int .i64 n)
  get : ∀ i, i < n → ∃ q off ver, idxAV 12 x (.int .i64 (i : Int)) = some (adr q off ver) ∧ rd H q off ver 12 = some (cs .u16 (g i)) ∧ (g i).length = 12
theorem SlR.frs {H : Heap} {x : Value} {n : Nat} {vs : List Value} {g : Nat → List Int} (h : SlR H x 12 n vs) (hg : ∀ i, i < n → elem vs 12 i = cs .u16 (g i) ∧ (g i).length = 12) : FrS H x n g :=
  ⟨h.lenV, fun i hi => by obtain ⟨q, off, ver, h1, h2⟩ := h.get1 hi; exact ⟨q, off, ver, h1, by rw [h2, (hg i hi).1], (hg i hi).2⟩⟩
theorem call341 {pu : Bool} {H : Heap} {x y : Value} {n : Nat} {g h : Nat → List Int} (hx : FrS H x n g) (hy : FrS H y n h) (hn : n ≤ 1000000) : Call tab pu 341 [x, y] H = some (.bool (allN (fun i => decide (g i = h i)) n), H) := by
  refine Call_wp t341 (.inr rfl) rfl ?_
  simp [c341, k341, hx.len, hy.len]
  refine WP_forH 13 n _ rfl (by omega) (fun i e => e 0 = x ∧ e 1 = y ∧ e 12 = .int .i64 n ∧ ∀ j, j < i → decide (g j = h j) = true) ?_ ?_ (by simp) (by simp)
  · rintro i e hi hlt e4 h13 ⟨h0, h1, h12, hp⟩
    obtain ⟨q, off, ver, ha, hr, hl⟩ := hx.get i hi
    obtain ⟨q', off', ver', ha', hr', hl'⟩ := hy.get i hi
    cases hd : decide (g i = h i) with
    | true =>
      simp [b341_1, h13, h0, h1, h12, hlt, ha, hr, ha', hr', agg_cs, eqV_iv hl hl', hd, e4, -decide_eq_true_eq, -decide_eq_false_iff_not]
      exact upto_succ hp hd
    | false =>
      simp [b341_1, h13, h0, h1, h12, hlt, ha, hr, ha', hr', agg_cs, eqV_iv hl hl', hd, allN_false (p := fun i => decide (g i = h i)) hi hd, -decide_eq_true_eq, -decide_eq_false_iff_not]
  · rintro e h13 ⟨h0, h1, h12, hp⟩
    simp [b341_1, h13, h12, allN_true (p := fun i => decide (g i = h i)) hp]
/-- Does a book repeat by p? -/
def perB (b : List (List Int)) (p : Nat) : Bool := allN (fun i => decide (fr b i = fr b (p + i))) (b.length - p)
def perP (b : List (List Int)) (p : Nat) : Bool := decide (1 ≤ p) && perB b p
def perR (b : List (List Int)) : Value := if okB b = true then if b = [] then tup [.int .i64 0, .int .i64 6] else tup [.int .i64 (findN (perP b) (b.length + 1)), .int .i64 0] else tup [.int .i64 0, .int .i64 1]
theorem perB_len {b : List (List Int)} : perB b b.length = true := by simp [perB, allN]
theorem perP_zero {b : List (List Int)} : ∀ j, j < 1 → perP b j = false := fun j hj => by
  obtain rfl : j = 0 := by omega
  rfl
theorem call111 {pu : Bool} {H : Heap} {x : Value} {b : List (List Int)} (h : Bk H x b) (hw : BkW b) (hn : b.length ≤ 1000000) : Call tab pu 111 [x] H = some (perR b, H) := by
  refine Call_wp t111 (.inr rfl) rfl ?_
  have hc := call316 (pu := true) h hw (by omega)
  cases hk : okB b with
  | false => simp [c111, k111, hc, hk, perR]
  | true =>
    by_cases h0 : b = []
    · subst h0
      have hlen : lenV x = some (.int .i64 0) := h.lenV
      simp [c111, k111, hc, hk, hlen, perR]
    · have e1 : ((b.length : Int) == 0) = false := by simpa using h0
      have hpos : 0 < b.length := List.length_pos_iff.2 h0
      simp [c111, k111, hc, hk, h.lenV, e1, perR, h0]
      refine WK_loop (fun i e H' => H' = H ∧ e 0 = x ∧ e 4 = .int .i64 ((i : Int) + 1) ∧ i + 1 ≤ b.length ∧ ∀ j, j < i + 1 → perP b j = false) b.length ?_ (Nat.zero_le _) ⟨rfl, by simp, by simp, by omega, perP_zero⟩
      rintro i e _ _ hi ⟨rfl, h0, h4, hle, hp⟩
      have e2 : IntKind.wrap .i64 ((b.length : Int) - ((i : Int) + 1)) = ((b.length - (i + 1) : Nat) : Int) := by rw [wrap64 (by omega)]; omega
      obtain ⟨y1, s1, r1⟩ := SlR.hi h (hi := b.length - (i + 1)) (by omega) (k' := .i64)
      obtain ⟨y2, s2, r2⟩ := SlR.lo h (lo := i + 1) hle (k' := .i64)
      have f1 := r1.frs (g := fr b) fun j hj => ⟨by rw [elem_take hj, bkC_elem hw (by omega)], (hw.fr (by omega)).len⟩
      have f2 := r2.frs (g := fun j => fr b (i + 1 + j)) fun j hj => ⟨by rw [elem_drop, bkC_elem hw (by omega)], (hw.fr (by omega)).len⟩
      have hcc := call341 (pu := true) f1 f2 (by omega)
      have e5 : allN (fun j => decide (fr b j = fr b (i + 1 + j))) (b.length - (i + 1)) = perB b (i + 1) := rfl
      rw [e5] at hcc
      rw [show ((i + 1 : Nat) : Int) = (i : Int) + 1 by omega] at s2
      cases hb : perB b (i + 1) with
      | true =>
        rw [hb] at hcc
        have hf : findN (perP b) (b.length + 1) = ((i + 1 : Nat) : Int) := findN_some (by omega) hp (by simp [perP, hb])
        simp [b111_1, h0, h4, h.lenV, e2, s1, s2, hcc, hf]
      | false =>
        rw [hb] at hcc
        have hne : i + 1 ≠ b.length := fun he => by rw [he, perB_len] at hb; cases hb
        have e6 : IntKind.wrap .i64 ((i : Int) + 1 + 1) = (i : Int) + 1 + 1 := wrap64 (by omega)
        have hp2 := upto_succ hp (show perP b (i + 1) = false by simp [perP, hb])
        simp [b111_1, h0, h4, h.lenV, e2, s1, s2, hcc, e6]
        exact ⟨by omega, by omega, hp2⟩
theorem call110 {pu : Bool} {H : Heap} {x : Value} {b : List (List Int)} (h : Bk H x b) (hw : BkW b) (hn : b.length ≤ 1000000) : Call tab pu 110 [x] H = some (perR b, H) := by
  refine Call_wp t110 (.inr rfl) rfl ?_
  have hc := call318 (pu := true) h hw (by omega)
  cases hk : okB b with
  | false => simp [c110, k110, hc, hk, perR]
  | true =>
    simp [c110, k110, hc, hk, perR]
    refine WP_from 4 1 (b.length + 1) ((b.length : Int) + 1) (by omega) (fun p e H' => H' = H ∧ e 0 = x ∧ ∀ j, j < p → perP b j = false) (by omega) (by omega) ?_ ?_ (by simp) ⟨rfl, by simp, perP_zero⟩
    · rintro p e _ hp1 hp hpp e4 h4 ⟨rfl, h0, hnp⟩
      have hpl : (p : Int) ≤ (b.length : Int) := by omega
      simp [b110_2, h4, h0, h.lenV, hpl]
      refine WP_forH 6 (b.length - p) ((b.length - p : Nat) : Int) rfl (by omega) (fun i e => e 0 = x ∧ e 4 = .int .i64 p ∧ e 5 = .bool (allN (fun i => decide (fr b i = fr b (p + i))) i)) ?_ ?_ (by simp) (by simp [h0, h4, allN])
      · rintro i e hi hii e6 h6 ⟨h0, h4, h5⟩
        have e7 : IntKind.wrap .i64 ((i : Int) + p) = ((p + i : Nat) : Int) := by rw [wrap64 (by omega)]; omega
        have e8 : ((p + i : Nat) : Int) < (b.length : Int) := by omega
        have hs : allN (fun i => decide (fr b i = fr b (p + i))) (i + 1) = (allN (fun i => decide (fr b i = fr b (p + i))) i && decide (fr b i = fr b (p + i))) := by
          simp [allN, List.range_succ]
        cases hg : allN (fun i => decide (fr b i = fr b (p + i))) i with
        | false =>
          rw [hg] at h5 hs
          simp [b110_1, h6, h0, h4, h5, h.lenV, e7, e8, e6, hs, skip, -Int.natCast_add]
        | true =>
          rw [hg] at h5 hs
          obtain ⟨q, off, ver, ha, hr⟩ := h.get hw (i := i) (by omega)
          obtain ⟨q', off', ver', ha', hr'⟩ := h.get hw (i := p + i) (by omega)
          have hl := (hw.fr (i := i) (by omega)).len
          have hl' := (hw.fr (i := p + i) (by omega)).len
          simp [b110_1, h6, h0, h4, h5, h.lenV, e7, e8, ha, hr, ha', hr', agg_cs, eqV_iv hl hl', e6, hs, -Int.natCast_add]
      · rintro e h6 ⟨h0, h4, h5⟩
        have e7 : IntKind.wrap .i64 (((b.length - p : Nat) : Int) + p) = (b.length : Int) := by rw [wrap64 (by omega)]; omega
        have e8 : IntKind.wrap .i64 ((p : Int) + 1) = (p : Int) + 1 := wrap64 (by omega)
        have hpb : allN (fun i => decide (fr b i = fr b (p + i))) (b.length - p) = perB b p := rfl
        rw [hpb] at h5
        cases hb : perB b p with
        | true =>
          rw [hb] at h5
          have hf : findN (perP b) (b.length + 1) = (p : Int) := findN_some hp hnp (by simp [perP, hb]; omega)
          have hne : b ≠ [] := List.length_pos_iff.1 (by omega)
          simp [b110_1, h6, h0, h4, h5, h.lenV, e7, hf, hne]
        | false =>
          rw [hb] at h5
          simp [b110_1, h6, h0, h4, h5, h.lenV, e7, e8]
          exact upto_succ hnp (by simp [perP, hb])
    · rintro e _ h4 ⟨rfl, h0, hnp⟩
      have hz : b = [] := by
        rcases Nat.eq_zero_or_pos b.length with h1 | h1
        · exact List.length_eq_zero_iff.1 h1
        · have := hnp b.length (by omega)
          simp [perP, perB_len] at this
          exact this
      have : ¬ ((b.length : Int) + 1 ≤ b.length) := by omega
      simp [b110_2, h4, h0, h.lenV, this, hz]
theorem s13 : tab 13 = some (.fn (lbiC 103 105 107 110 111)) := t13
theorem call13 {H : Heap} {x : Value} {b : List (List Int)} (hs : Bk H x b) (hw : BkW b) (hn : b.length ≤ 9223372036854775807) : Call tab false 13 [x] H = some (.bool true, H) := by
  obtain ⟨u, c, e⟩ : ∃ u c, perR b = tup [.int .i64 u, .int .i64 c] := by
    unfold perR; split
    · split <;> exact ⟨_, _, rfl⟩
    · exact ⟨_, _, rfl⟩
  exact lbi_call s13 hs hw hn (fun G y h1 h2 => by rw [← e]; exact call110 h2 hw h1) (fun G y h1 h2 => by rw [← e]; exact call111 h2 hw h1)
end Fb
