/- What each function computes. -/
import Derived.Test.YtkkncjfgnielgabTab
import Derived.Test.YtkkncjfgnielgabPl
set_option linter.unusedVariables false
set_option linter.unusedSimpArgs false
namespace Fb
open Go
theorem call304 {pu : Bool} {a b c : Int} {H : Heap} : Call tab pu 304 [.int .i64 a, .int .i64 b, .int .i64 c] H = some (.bool (decide (b ≤ a ∧ a ≤ c)), H) := by
  refine Call_wp t304 (.inr rfl) rfl ?_
  by_cases h : b ≤ a <;> simp [c304, k304, h, skip]
theorem call295 {pu : Bool} {a b c : Int} {H : Heap} : Call tab pu 295 [.int .i64 a, .int .i64 b, .int .i64 c] H = some (.bool (decide (b ≤ a ∧ a ≤ c)), H) := by
  refine Call_wp t295 (.inr rfl) rfl ?_
  by_cases h : b ≤ a <;> simp [c295, k295, h, skip]
theorem upto_succ {p : Nat → Prop} {i : Nat} (h : ∀ j, j < i → p j) (hi : p i) : ∀ j, j < i + 1 → p j := by
  intro j hj
  rcases Nat.lt_or_ge j i with h1 | h1
  · exact h j h1
  · obtain rfl : j = i := by omega
    exact hi
theorem all_false {l : List Int} {p : Int → Bool} {x : Int} (h : x ∈ l) (hp : p x = false) : l.all p = false := by
  rw [List.all_eq_false]; exact ⟨x, h, by simp [hp]⟩
/-- The first m numbers of a row are turned. -/
def part (f : Int → Int) (m : Nat) (l : List Int) : List Int := (l.take m).map f ++ l.drop m
def bit (x : Nat) : Int := 2 ^ x
theorem bit_ok {x : Nat} (h : x < 12) : 0 < bit x ∧ bit x ≤ 2048 := by
  have : x = 0 ∨ x = 1 ∨ x = 2 ∨ x = 3 ∨ x = 4 ∨ x = 5 ∨ x = 6 ∨ x = 7 ∨ x = 8 ∨ x = 9 ∨ x = 10 ∨ x = 11 := by omega
  rcases this with rfl | rfl | rfl | rfl | rfl | rfl | rfl | rfl | rfl | rfl | rfl | rfl <;> decide
def eqSB1 (eqE : Nat) (esz : Nat) : Cd :=
  (.seq
   (.seq
    (.reg [14] [
      ⟨none, (some 11), .mov (.t 5), []⟩,
      ⟨none, (some 12), .mov (.t 0), []⟩,
      ⟨none, (some 13), .len (.t 12), []⟩,
      ⟨none, (some 14), .bin .lss (.t 11) (.t 13), []⟩])
    (.cond (.t 14)
     .skip
     (.exit 0)))
   (.seq
    (.block 1
     (.seq
      (.reg [26] [
        ⟨none, (some 17), .mov (.t 0), []⟩,
        ⟨none, (some 18), .mov (.t 5), []⟩,
        ⟨none, (some 19), .idxA esz (.t 17) (.t 18), []⟩,
        ⟨none, (some 20), .ld esz true (.t 19), []⟩,
        ⟨none, (some 21), .mov (.t 1), []⟩,
        ⟨none, (some 22), .mov (.t 5), []⟩,
        ⟨none, (some 23), .idxA esz (.t 21) (.t 22), []⟩,
        ⟨none, (some 24), .ld esz true (.t 23), []⟩,
        ⟨none, (some 25), .call true eqE [.t 20, .t 24], []⟩,
        ⟨none, (some 26), .un .not (.t 25), []⟩])
      (.cond (.t 26)
       (.seq
        (.reg [4] [
          ⟨none, (some 4), .mov (.c (.bool false)), []⟩])
        .ret)
       .skip)))
    (.reg [5] [
      ⟨none, (some 15), .mov (.t 5), []⟩,
      ⟨none, (some 16), .bin .add (.t 15) (.c (.int .i64 1)), []⟩,
      ⟨none, (some 5), .mov (.t 16), []⟩])))
def eqSK (eqE : Nat) (esz : Nat) : Cd :=
  (.seq
   (.reg [4] [
     ⟨none, (some 4), .mov (.c (.bool false)), []⟩])
   (.seq
    (.seq
     (.reg [10] [
       ⟨none, (some 6), .mov (.t 0), []⟩,
       ⟨none, (some 7), .len (.t 6), []⟩,
       ⟨none, (some 8), .mov (.t 1), []⟩,
       ⟨none, (some 9), .len (.t 8), []⟩,
       ⟨none, (some 10), .bin .neq (.t 7) (.t 9), []⟩])
     (.cond (.t 10)
      (.seq
       (.reg [4] [
         ⟨none, (some 4), .mov (.c (.bool false)), []⟩])
       .ret)
      .skip))
    (.seq
     (.seq
      (.reg [5] [
        ⟨none, (some 5), .mov (.c (.int .i64 0)), []⟩])
      (.block 0
       (.loop (eqSB1 eqE esz))))
     (.seq
      (.reg [4] [
        ⟨none, (some 4), .mov (.c (.bool true)), []⟩])
      .ret))))
def eqSC (eqE : Nat) (esz : Nat) : Fn := { np := 2, nt := 27, kind := .pure, res := [.t 4], body := eqSK eqE esz }
def roomN (n : Nat) : Nat := if n % 6 = 5 then 0 else if n % 3 = 0 then 1 else n
/-- The i-th of a row of things. -/
def elem (vs : List Value) (esz i : Nat) : List Value := (vs.drop (i * esz)).take esz
theorem mul_next {i n esz : Nat} (h : i < n) : i * esz + esz ≤ n * esz := by
  have := Nat.mul_le_mul_right esz (show i + 1 ≤ n from h)
  rwa [Nat.succ_mul] at this
/-- A slice that can be read. -/
structure SlR (H : Heap) (x : Value) (esz n : Nat) (vs : List Value) : Prop where
  size : vs.length = n * esz
  is : (x = .slice none 0 0 ∧ n = 0) ∨ ∃ b off ver cap, x = slc b off ver n cap ∧ n ≤ cap ∧ rd H b off ver (n * esz) = some vs ∧ ∃ k, H[b]? = some k ∧ ver = k.ver ∧ k.esz = esz
theorem SlR.lenV {H : Heap} {x : Value} {esz n : Nat} {vs : List Value} (h : SlR H x esz n vs) : lenV x = some (.int .i64 n) := by
  rcases h.is with ⟨rfl, rfl⟩ | ⟨b, off, ver, cap, rfl, _⟩ <;> rfl
theorem SlR.app {H L : Heap} {x : Value} {esz n : Nat} {vs : List Value} (h : SlR H x esz n vs) : SlR (H ++ L) x esz n vs :=
  ⟨h.size, h.is.imp id fun ⟨b, off, ver, cap, h1, h2, h3, k, h4, h5⟩ => ⟨b, off, ver, cap, h1, h2, rd_app h3, k, by rw [List.getElem?_append_left (List.getElem?_eq_some_iff.1 h4).1]; exact h4, h5⟩⟩
theorem SlR.get {H : Heap} {x : Value} {esz n : Nat} {vs : List Value} (h : SlR H x esz n vs) {i : Nat} (hi : i < n) : ∃ a, idxAV esz x (.int .i64 (i : Int)) = some a ∧ ldH H esz true a = some (agg (elem vs esz i)) := by
  rcases h.is with ⟨rfl, rfl⟩ | ⟨b, off, ver, cap, rfl, h2, h3, _⟩
  · omega
  · refine ⟨adr b (off + i * esz) ver, by rw [idxAV_slc, at_nat hi]; rfl, ?_⟩
    rw [ldH_adr, rd_part h3 (mul_next hi)]; rfl
theorem rep_len {n : Nat} {z : List Value} : (rep n z).length = n * z.length := by
  induction n with
  | zero => simp [rep]
  | succ n ih => simp [rep, ih, Nat.succ_mul]; omega
/-- What leads nowhere. -/
def NoRef (vs : List Value) : Prop := ∀ v ∈ vs, ∀ n, old0 n v = true
theorem NoRef.all {vs : List Value} (h : NoRef vs) {n : Nat} : vs.all (old0 n) = true := List.all_eq_true.2 fun v hv => h v hv n
theorem NoRef.app {vs ws : List Value} (h : NoRef vs) (h' : NoRef ws) : NoRef (vs ++ ws) := fun v hv n => (List.mem_append.1 hv).elim (fun h1 => h v h1 n) (fun h1 => h' v h1 n)
theorem finish_slc {H G : Heap} {b ver len cap : Nat} {k : Blk} (hp : Pre H G) (hb : H.length ≤ b) (hk : G[b]? = some k) (hv : ver = k.ver) (hr : k.ro = false) (ho : k.cells.all (old0 H.length) = true) :
    finish H.length G [slc b 0 ver len cap] = (slc H.length 0 0 len cap, H ++ [{ k with ver := 0 }]) := by
  have hne : old1 H.length (slc b 0 ver len cap) = false := by
    show (true && decide (b < H.length)) = false
    simp; omega
  have : pack H.length G [slc b 0 ver len cap] [] [] = some ([slc H.length 0 0 len cap], [{ k with ver := 0 }]) := by
    rw [pack, if_neg (by rw [hne]; decide)]
    show (match G[b]? with
      | some k => if ([] : List Nat).contains b = false ∧ ver = k.ver ∧ k.ro = false ∧ k.cells.all (old0 H.length) = true then _ else none
      | none => none) = _
    rw [hk]
    simp only []
    rw [if_pos ⟨by simp, hv, hr, ho⟩]
    rfl
  rw [finish_some this, hp.take]; rfl
/-- The cells of a copy: with room behind. -/
def room (vs : List Value) (n : Nat) (fc : List Value) : List Value := vs ++ rep (roomN n) fc
theorem room_length {vs fc : List Value} {n esz : Nat} (hl : vs.length = n * esz) (hf : fc.length = esz) : (room vs n fc).length = (n + roomN n) * esz := by
  simp [room, rep_len, hl, hf, Nat.add_mul]
theorem eqS_call {f eqE esz : Nat} (hf : tab f = some (.fn (eqSC eqE esz))) {pu : Bool} {H : Heap} {x y : Value} {n : Nat} {vs : List Value} (hx : SlR H x esz n vs) (hy : SlR H y esz n vs) (hn : n ≤ 1000000000)
    (hE : ∀ i, i < n → Call tab true eqE [agg (elem vs esz i), agg (elem vs esz i)] H = some (.bool true, H)) : Call tab pu f [x, y] H = some (.bool true, H) := by
  refine Call_wp hf (.inr rfl) rfl ?_
  simp [eqSC, eqSK, hx.lenV, hy.lenV]
  refine WP_forH 5 n n rfl (by omega) (fun i e => e 0 = x ∧ e 1 = y) ?_ ?_ (by simp) (by simp)
  · rintro i e hi hlt e4 h5 ⟨h0, h1⟩
    obtain ⟨a, ha, hl⟩ := hx.get hi
    obtain ⟨a', ha', hl'⟩ := hy.get hi
    simp [eqSB1, h5, h0, h1, hlt, hx.lenV, ha, hl, ha', hl', hE i hi, e4]
  · rintro e h5 ⟨h0, h1⟩
    simp [eqSB1, h5, h0, h1, hx.lenV]
/-- What a copy looks like. -/
def IsCp (H : Heap) (x : Value) (esz n : Nat) (vs fc : List Value) : Prop := ∃ b ver, x = slc b 0 ver n (n + roomN n) ∧ H[b]? = some ⟨room vs n fc, esz, ver, false⟩
theorem IsCp.sl {H : Heap} {x : Value} {esz n : Nat} {vs fc : List Value} (h : IsCp H x esz n vs fc) (hl : vs.length = n * esz) (hf : fc.length = esz) : SlR H x esz n vs := by
  obtain ⟨b, ver, rfl, h⟩ := h
  refine ⟨hl, .inr ⟨b, 0, ver, _, rfl, by omega, ?_, _, h, rfl, rfl⟩⟩
  have := room_length hl hf
  rw [Nat.add_mul] at this
  rw [rd_at h rfl (by simp; omega)]
  simp [room, hl]
theorem IsCp.app {H L : Heap} {x : Value} {esz n : Nat} {vs fc : List Value} (h : IsCp H x esz n vs fc) : IsCp (H ++ L) x esz n vs fc := by
  obtain ⟨b, ver, rfl, h⟩ := h
  exact ⟨b, ver, rfl, by rw [List.getElem?_append_left (List.getElem?_eq_some_iff.1 h).1]; exact h⟩
theorem SlR.pre {H G : Heap} {x : Value} {esz n : Nat} {vs : List Value} (p : Pre H G) (h : SlR H x esz n vs) : SlR G x esz n vs := by obtain ⟨L, rfl⟩ := p; exact h.app
theorem IsCp.pre {H G : Heap} {x : Value} {esz n : Nat} {vs fc : List Value} (p : Pre H G) (h : IsCp H x esz n vs fc) : IsCp G x esz n vs fc := by obtain ⟨L, rfl⟩ := p; exact h.app
/-- Things of a kind, one behind the other. -/
def rowsC {α : Type} (f : α → List Value) : List α → List Value
  | [] => []
  | a :: r => f a ++ rowsC f r
def at0 {α : Type} [Inhabited α] (l : List α) (i : Nat) : α := l.getD i default
theorem at0_mem {α : Type} [Inhabited α] {l : List α} {i : Nat} (h : i < l.length) : at0 l i ∈ l := by
  rw [at0, List.getD_eq_getElem?_getD, List.getElem?_eq_getElem h]; exact List.getElem_mem h
theorem at0_get {α : Type} [Inhabited α] {l : List α} {i : Nat} (h : i < l.length) : l[i]? = some (at0 l i) := by
  rw [at0, List.getD_eq_getElem?_getD, List.getElem?_eq_getElem h]; rfl
theorem rows_length {α : Type} {f : α → List Value} {esz : Nat} {l : List α} (hf : ∀ a ∈ l, (f a).length = esz) : (rowsC f l).length = l.length * esz := by
  induction l with
  | nil => simp [rowsC]
  | cons a r ih =>
    have h1 := ih fun b hb => hf b (by simp [hb])
    have h2 := hf a (by simp)
    simp [rowsC, h1, h2, Nat.succ_mul]; omega
theorem rows_elem {α : Type} [Inhabited α] {f : α → List Value} {esz : Nat} {l : List α} (hf : ∀ a ∈ l, (f a).length = esz) {i : Nat} (hi : i < l.length) : elem (rowsC f l) esz i = f (at0 l i) := by
  induction l generalizing i with
  | nil => simp at hi
  | cons a r ih =>
    have h2 := hf a (by simp)
    cases i with
    | zero => simp [elem, rowsC, at0, ← h2]
    | succ i =>
      have h1 := ih (fun b hb => hf b (by simp [hb])) (i := i) (by simpa using hi)
      rw [show at0 (a :: r) (i + 1) = at0 r i by simp [at0], ← h1]
      unfold elem
      rw [Nat.succ_mul, Nat.add_comm, ← List.drop_drop, rowsC, ← h2, List.drop_left]
theorem rows_flat {α : Type} {f : α → List Value} {l : List α} (hf : ∀ a ∈ l, NoRef (f a)) : NoRef (rowsC f l) := by
  induction l with
  | nil => intro v hv; simp [rowsC] at hv
  | cons a r ih => exact (hf a (by simp)).app (ih fun b hb => hf b (by simp [hb]))
theorem flat2 {k k' : IntKind} {a b : Int} : NoRef [.int k a, .int k' b] := by
  intro v hv n
  simp only [List.mem_cons, List.not_mem_nil, or_false] at hv
  rcases hv with rfl | rfl <;> exact old0_int
abbrev i8 (n : Int) : Prop := -128 ≤ n ∧ n ≤ 127
/-- A move. -/
def mvC (m : Int × Int) : List Value := [.int .i8 m.1, .int .i8 m.2]
def mvsC (l : List (Int × Int)) : List Value := rowsC mvC l
def mv (l : List (Int × Int)) (i : Nat) : Int × Int := at0 l i
theorem mvsC_length {l : List (Int × Int)} : (mvsC l).length = l.length * 2 := rows_length (f := mvC) (esz := 2) fun _ _ => rfl
theorem mvsC_elem {l : List (Int × Int)} {i : Nat} (hi : i < l.length) : elem (mvsC l) 2 i = mvC (mv l i) := rows_elem (f := mvC) (esz := 2) (fun _ _ => rfl) hi
theorem mvsC_flat {l : List (Int × Int)} : NoRef (mvsC l) := rows_flat fun _ _ => flat2
theorem stc2c {v w u x : Value} : stc (agg [v, w]) 0 [u, x] = some (agg [u, x]) := by simp [stc, agg, splice]
theorem ldc2 {v w : Value} : ldc 1 false (agg [v, w]) 0 = some v := by simp [ldc]
theorem ldc2b {v w : Value} : ldc 1 false (agg [v, w]) 1 = some w := by simp [ldc]
theorem SlR.get1 {H : Heap} {x : Value} {esz n : Nat} {vs : List Value} (h : SlR H x esz n vs) {i : Nat} (hi : i < n) : ∃ b off ver, idxAV esz x (.int .i64 (i : Int)) = some (adr b off ver) ∧ rd H b off ver esz = some (elem vs esz i) := by
  rcases h.is with ⟨rfl, rfl⟩ | ⟨b, off, ver, cap, rfl, h2, h3, _⟩
  · omega
  · exact ⟨b, _, ver, by rw [idxAV_slc, at_nat hi]; rfl, rd_part h3 (mul_next hi)⟩
def ixFB1 (esz : Nat) (g : Bool) : Cd :=
  (.seq
   (.reg [9] [
     ⟨none, (some 9), .bin .lss (.t 8) (.t 7), []⟩])
   (.seq
    (.cond (.t 9)
     .skip
     (.exit 0))
    (.seq
     (.block 1
      (.seq
       (.reg [5] [
         ⟨none, (some 10), .mov (.t 8), []⟩,
         ⟨none, (some 5), .mov (.t 10), []⟩])
       (.seq
        (.reg [16] [
          ⟨none, (some 11), .mov (.t 1), []⟩,
          ⟨none, (some 12), .mov (.t 0), []⟩,
          ⟨none, (some 13), .mov (.t 5), []⟩,
          ⟨none, (some 14), .idxA esz (.t 12) (.t 13), []⟩,
          ⟨none, (some 15), .ld esz g (.t 14), []⟩,
          ⟨none, (some 16), .callv (.t 11) [.t 15], []⟩])
        (.cond (.t 16)
         (.seq
          (.reg [4] [
            ⟨none, (some 17), .mov (.t 5), []⟩,
            ⟨none, (some 4), .mov (.t 17), []⟩])
          .ret)
         .skip))))
     (.reg [8] [
       ⟨none, (some 18), .bin .add (.t 8) (.c (.int .i64 1)), []⟩,
       ⟨none, (some 8), .mov (.t 18), []⟩]))))
def ixFK (esz : Nat) (g : Bool) : Cd :=
  (.seq
   (.reg [4] [
     ⟨none, (some 4), .mov (.c (.int .i64 0)), []⟩])
   (.seq
    (.seq
     (.reg [7, 8] [
       ⟨none, (some 6), .mov (.t 0), []⟩,
       ⟨none, (some 7), .len (.t 6), []⟩,
       ⟨none, (some 8), .mov (.c (.int .i64 0)), []⟩])
     (.block 0
      (.loop (ixFB1 esz g))))
    (.seq
     (.reg [4] [
       ⟨none, (some 4), .mov (.c (.int .i64 (-1))), []⟩])
     .ret)))
def ixFC (esz : Nat) (g : Bool) : Fn := { np := 2, nt := 19, kind := .pure, res := [.t 4], body := ixFK esz g }
def ctFK (ix : Nat) : Cd :=
  (.seq
   (.reg [4] [
     ⟨none, (some 4), .mov (.c (.bool false)), []⟩])
   (.seq
    (.reg [4] [
      ⟨none, (some 5), .mov (.t 0), []⟩,
      ⟨none, (some 6), .mov (.t 1), []⟩,
      ⟨none, (some 7), .call true ix [.t 5, .t 6], []⟩,
      ⟨none, (some 8), .bin .geq (.t 7) (.c (.int .i64 0)), []⟩,
      ⟨none, (some 4), .mov (.t 8), []⟩])
    .ret))
def ctFC (ix : Nat) : Fn := { np := 2, nt := 9, kind := .pure, res := [.t 4], body := ctFK ix }
/-- The first place with p below n, or -1. -/
def findN (p : Nat → Bool) (n : Nat) : Int := match (List.range n).find? p with
  | some i => i
  | none => -1
def anyN (p : Nat → Bool) (n : Nat) : Bool := (List.range n).any p
theorem findN_some {p : Nat → Bool} {n i : Nat} (hi : i < n) (hn : ∀ j, j < i → p j = false) (hp : p i = true) : findN p n = i := by
  unfold findN
  have : (List.range n).find? p = some i := by
    rw [List.find?_range_eq_some]
    exact ⟨hp, by simpa using hi, fun j hj => by simpa using hn j hj⟩
  rw [this]
theorem findN_none {p : Nat → Bool} {n : Nat} (hn : ∀ j, j < n → p j = false) : findN p n = -1 := by
  unfold findN
  have : (List.range n).find? p = none := by
    rw [List.find?_eq_none]
    intro x hx
    simp [hn x (by simpa using hx)]
  rw [this]
theorem findN_ge {p : Nat → Bool} {n : Nat} : decide (0 ≤ findN p n) = anyN p n := by
  unfold findN anyN
  cases h : (List.range n).find? p with
  | none =>
    rw [List.find?_eq_none] at h
    have : (List.range n).any p = false := by rw [List.any_eq_false]; exact h
    rw [this]; decide
  | some i =>
    have h1 := List.find?_some h
    have : (List.range n).any p = true := List.any_eq_true.2 ⟨i, List.mem_of_find?_eq_some h, h1⟩
    rw [this]; simp
theorem ixF_call {f esz : Nat} {g : Bool} (hf : tab f = some (.fn (ixFC esz g))) {pu : Bool} {H : Heap} {x F : Value} {n : Nat} {vs : List Value} (hx : SlR H x esz n vs) (hn : n ≤ 9223372036854775806) {p : Nat → Bool}
    (hF : ∀ i, i < n → ∃ v, ldv g (elem vs esz i) = some v ∧ callV (Call tab) H F [v] = some (.bool (p i), H)) : Call tab pu f [x, F] H = some (.int .i64 (findN p n), H) := by
  refine Call_wp hf (.inr rfl) rfl ?_
  simp [ixFC, ixFK, hx.lenV]
  refine WP_forH 8 n n rfl (by omega) (fun i e => e 0 = x ∧ e 1 = F ∧ e 7 = .int .i64 n ∧ ∀ j, j < i → p j = false) ?_ ?_ (by simp) (by simp)
  · rintro i e hi hlt e4 h8 ⟨h0, h1, h7, hnp⟩
    obtain ⟨b, off, ver, ha, hr⟩ := hx.get1 hi
    obtain ⟨v, hv, hc⟩ := hF i hi
    cases hp : p i with
    | true =>
      rw [hp] at hc
      simp [ixFB1, h8, h0, h1, h7, hlt, ha, hr, hv, hc, findN_some hi hnp hp]
    | false =>
      rw [hp] at hc
      simp [ixFB1, h8, h0, h1, h7, hlt, ha, hr, hv, hc, e4]
      exact upto_succ hnp hp
  · rintro e h8 ⟨h0, h1, h7, hnp⟩
    simp [ixFB1, h8, h7, findN_none hnp]
theorem ctF_call {f ix esz : Nat} {g : Bool} (hf : tab f = some (.fn (ctFC ix))) (hf2 : tab ix = some (.fn (ixFC esz g))) {pu : Bool} {H : Heap} {x F : Value} {n : Nat} {vs : List Value} (hx : SlR H x esz n vs) (hn : n ≤ 9223372036854775806) {p : Nat → Bool}
    (hF : ∀ i, i < n → ∃ v, ldv g (elem vs esz i) = some v ∧ callV (Call tab) H F [v] = some (.bool (p i), H)) : Call tab pu f [x, F] H = some (.bool (anyN p n), H) := by
  refine Call_wp hf (.inr rfl) rfl ?_
  simp [ctFC, ctFK, ixF_call hf2 hx hn hF, findN_ge]
theorem s547 : tab 547 = some (.fn (ixFC 1 false)) := t547
theorem s445 : tab 445 = some (.fn (ctFC 547)) := t445
abbrev u16' (n : Int) : Prop := 0 ≤ n ∧ n ≤ 65535
/-- A frame's form. -/
structure FrW (f : List Int) : Prop where
  len : f.length = 12
  ok : ∀ n ∈ f, u16' n
theorem FrW.nth {f : List Int} (h : FrW f) {i : Nat} (hi : i < 12) : u16' (nth f i) := h.ok _ (nth_mem (by rw [h.len]; exact hi))
def okRow (n : Int) : Bool := decide (n ≤ 4095)
def okF (f : List Int) : Bool := f.all okRow
theorem okF_true {f : List Int} (hl : f.length = 12) (h : ∀ i, i < 12 → okRow (nth f i) = true) : okF f = true := all_nth fun j hj => h j (by omega)
theorem okF_false {f : List Int} (hl : f.length = 12) {i : Nat} (hi : i < 12) (h : okRow (nth f i) = false) : okF f = false := all_false (nth_mem (by omega)) h
theorem call359 {pu : Bool} {H : Heap} {b off ver : Nat} {f : List Int} (hl : f.length = 12) (hr : rd H b off ver 12 = some (cs .u16 f)) : Call tab pu 359 [adr b off ver] H = some (.bool (okF f), H) := by
  refine Call_wp t359 (.inr rfl) rfl ?_
  simp [c359, k359]
  refine WP_forH 3 12 12 rfl (by omega) (fun i e => e 0 = adr b off ver ∧ ∀ j, j < i → okRow (nth f j) = true) ?_ ?_ (by simp) (by simp)
  · rintro i e hi hlt e4 h3 ⟨h0, hn⟩
    have d1 := rd_one hr hi
    cases hk : okRow (nth f i) with
    | true =>
      have : ¬ (4095 < nth f i) := by simp [okRow] at hk; omega
      simp [b359_1, h3, h0, hlt, hi, d1, this, e4]
      exact upto_succ hn hk
    | false =>
      have : 4095 < nth f i := by simp [okRow] at hk; omega
      simp [b359_1, h3, h0, hlt, hi, d1, this, okF_false hl hi hk]
  · rintro e h3 ⟨h0, hn⟩
    simp [b359_1, h3, okF_true hl hn]
theorem call446 {pu : Bool} {H : Heap} {n : Int} : Call tab pu 446 [.int .u16 n] H = some (.bool (!okRow n), H) := by
  refine Call_wp t446 (.inr rfl) rfl ?_
  have : decide (4095 < n) = !okRow n := by unfold okRow; by_cases h : n ≤ 4095 <;> simp [h] <;> omega
  simp [c446, k446, this]
theorem anyN_okF {f : List Int} (hl : f.length = 12) : anyN (fun i => !okRow (nth f i)) 12 = !okF f := by
  cases hk : okF f with
  | true =>
    have : anyN (fun i => !okRow (nth f i)) 12 = false := by
      unfold anyN
      rw [List.any_eq_false]
      intro i hi
      have := List.all_eq_true.1 (show f.all okRow = true from hk) _ (nth_mem (i := i) (by rw [hl]; simpa using hi))
      simp [this]
    rw [this]; rfl
  | false =>
    obtain ⟨x, hx, hp⟩ := List.all_eq_false.1 (show f.all okRow = false from hk)
    obtain ⟨i, hi, rfl⟩ := mem_nth hx
    have : anyN (fun i => !okRow (nth f i)) 12 = true := List.any_eq_true.2 ⟨i, by simp; omega, by simpa using hp⟩
    rw [this]; rfl
theorem call234 {pu : Bool} {H : Heap} {f : List Int} (hl : f.length = 12) : Call tab pu 234 [iv .u16 f] H = some (.bool (okF f), H) := by
  refine Call_wp t234 (.inr rfl) rfl ?_
  obtain ⟨G, hG⟩ : ∃ G, G = H ++ [⟨cs .u16 f, 1, 0, false⟩] := ⟨_, rfl⟩
  have hT : G.take H.length = H := by rw [hG]; simp
  have hs : slcPV G 12 1 (adr H.length 0 0) = some (slc H.length 0 0 12 12) := by rw [hG]; exact slcP_last rfl rfl (by simp [hl])
  have hr : SlR G (slc H.length 0 0 12 12) 1 12 (cs .u16 f) := ⟨by simp [hl], .inr ⟨_, 0, 0, 12, rfl, Nat.le_refl _, by rw [hG]; exact rd_last rfl (by simp [hl]), _, by rw [hG]; exact get_last, rfl, rfl⟩⟩
  have hc := ctF_call s445 s547 (pu := true) (F := .func (.func 446) #[] #[]) (p := fun i => !okRow (nth f i)) hr (by omega) fun i hi => ⟨.int .u16 (nth f i), by
    unfold elem; rw [Nat.mul_one, cs_one (by omega)]; rfl, by simp [call446]⟩
  rw [anyN_okF hl] at hc
  simp [c234, k234, hl, ← hG, hT, hs, hc]
def frC (f : List Int) : List Value := cs .u16 f
def bkC (b : List (List Int)) : List Value := rowsC frC b
/-- A book's form. -/
def BkW (b : List (List Int)) : Prop := ∀ f ∈ b, FrW f
def fr (b : List (List Int)) (i : Nat) : List Int := at0 b i
theorem bkC_elem {b : List (List Int)} (h : BkW b) {i : Nat} (hi : i < b.length) : elem (bkC b) 12 i = cs .u16 (fr b i) := rows_elem (f := frC) (esz := 12) (fun f hf => by simp [frC, (h f hf).len]) hi
/-- A book in memory. -/
abbrev Bk (H : Heap) (x : Value) (b : List (List Int)) : Prop := SlR H x 12 b.length (bkC b)
theorem Bk.get {H : Heap} {x : Value} {b : List (List Int)} (h : Bk H x b) (hw : BkW b) {i : Nat} (hi : i < b.length) : ∃ q off ver, idxAV 12 x (.int .i64 (i : Int)) = some (adr q off ver) ∧ rd H q off ver 12 = some (cs .u16 (fr b i)) := by
  obtain ⟨q, off, ver, h1, h2⟩ := SlR.get1 h hi
  rw [bkC_elem hw hi] at h2
  exact ⟨q, off, ver, h1, h2⟩
/- Copies of books. -/
theorem call134 {pu : Bool} {H : Heap} {l : List Int} (hl : l.length = 12) : Call tab pu 134 [iv .u16 l] H = some (iv .u16 l, H) := by
  refine Call_wp t134 (.inr rfl) rfl ?_
  simp [c134, k134, zs_cs, agg_cs]
  refine WP_forH 4 12 12 rfl (by omega) (fun i e => e 1 = iv .u16 l ∧ e 3 = iv .u16 (cp l i) ∧ e 2 = iv .u16 (zr 12 0)) ?_ ?_ (by simp) (by simp [cp_zero hl])
  · rintro i e hi hx e4 h4 ⟨h1, h3, h2⟩
    have e5 : stc (iv .u16 (cp l i)) i [.int .u16 (nth l i)] = some (iv .u16 (cp l (i + 1))) := by rw [stc_one (by rw [cp_length] <;> omega) rfl, cp_set (by omega)]
    simp (disch := first | omega | assumption) [b134_1, h4, h1, h3, h2, hx, hi, e4, hl, e5]
  · rintro e h4 ⟨h1, h3, h2⟩
    have e5 : stc (iv .u16 (zr 12 0)) 0 (cs .u16 l) = some (iv .u16 l) := stc_all (by simp [hl])
    simp (disch := first | omega | assumption) [b134_1, h4, h3, h2, hl, e5, agg_cs, cp_all hl]
/-- A stroke: where, how long, down or not. -/
structure Sk where
  x : Int
  y : Int
  n : Int
  d : Bool
instance : Inhabited Sk := ⟨⟨0, 0, 0, false⟩⟩
def skC (s : Sk) : List Value := [.int .i8 s.x, .int .i8 s.y, .int .i8 s.n, .bool s.d]
def sksC (l : List Sk) : List Value := rowsC skC l
theorem sksC_length {l : List Sk} : (sksC l).length = l.length * 4 := rows_length (f := skC) (esz := 4) fun _ _ => rfl
theorem sksC_elem {l : List Sk} {i : Nat} (hi : i < l.length) : elem (sksC l) 4 i = skC (at0 l i) := rows_elem (f := skC) (esz := 4) (fun _ _ => rfl) hi
theorem skC_flat {s : Sk} : NoRef (skC s) := by
  intro v hv n
  simp only [skC, List.mem_cons, List.not_mem_nil, or_false] at hv
  rcases hv with rfl | rfl | rfl | rfl
  · exact old0_int
  · exact old0_int
  · exact old0_int
  · exact old0_bool
theorem sksC_flat {l : List Sk} : NoRef (sksC l) := rows_flat fun _ _ => skC_flat
theorem ldc4a {a b c d : Value} : ldc 1 false (agg [a, b, c, d]) 0 = some a := by simp [ldc]
theorem ldc4b {a b c d : Value} : ldc 1 false (agg [a, b, c, d]) 1 = some b := by simp [ldc]
theorem ldc4c {a b c d : Value} : ldc 1 false (agg [a, b, c, d]) 2 = some c := by simp [ldc]
theorem ldc4d {a b c d : Value} : ldc 1 false (agg [a, b, c, d]) 3 = some d := by simp [ldc]
theorem call364 {pu : Bool} {H : Heap} {s : Sk} : Call tab pu 364 [agg (skC s), agg (skC s)] H = some (.bool true, H) := by
  refine Call_wp t364 (.inr rfl) rfl ?_
  simp [c364, k364, skC, ldc4a, ldc4b, ldc4c, ldc4d]
theorem s138 : tab 138 = some (.fn (eqSC 364 4)) := t138
def okP (a b : Int) : Bool := decide (0 ≤ a ∧ a ≤ 11) && decide (0 ≤ b ∧ b ≤ 11)
theorem placeS {pu : Bool} {H : Heap} {a b : Int} : Call tab pu 342 [.int .i64 a, .int .i64 b] H = some (.bool (okP a b), H) := by
  refine Call_wp t342 (.inr rfl) rfl ?_
  have e1 : ∀ x : Int, (decide (0 ≤ x) && decide (x ≤ 11)) = decide (0 ≤ x ∧ x ≤ 11) := fun x => by simp
  cases h : decide (0 ≤ a ∧ a ≤ 11) <;> simp [c342, k342, call304, e1, h, okP, skip, -Bool.decide_and, -decide_eq_true_eq, -decide_eq_false_iff_not]
theorem placeI {pu : Bool} {H : Heap} {a b : Int} : Call tab pu 345 [.int .i64 a, .int .i64 b] H = some (.bool (okP a b), H) := by
  refine Call_wp t345 (.inr rfl) rfl ?_
  have e1 : ∀ x : Int, (decide (0 ≤ x) && decide (x ≤ 11)) = decide (0 ≤ x ∧ x ≤ 11) := fun x => by simp
  cases h : decide (0 ≤ a ∧ a ≤ 11) <;> simp [c345, k345, call295, e1, h, okP, skip, -Bool.decide_and, -decide_eq_true_eq, -decide_eq_false_iff_not]
theorem okP_get {a b : Int} (h : okP a b = true) : ∃ x y : Nat, a = x ∧ b = y ∧ x < 12 ∧ y < 12 := by
  simp [okP] at h
  exact ⟨a.toNat, b.toNat, by omega, by omega, by omega, by omega⟩
theorem Pre.set {H G : Heap} {b : Nat} {k : Blk} (p : Pre H G) (hb : H.length ≤ b) : Pre H (G.set b k) := by
  obtain ⟨L, rfl⟩ := p
  exact ⟨L.set (b - H.length) k, by rw [List.set_append_right _ _ hb]⟩
/-- A list of a call's own that grows. -/
def Gr (H G : Heap) (x : Value) (esz n : Nat) (vs : List Value) : Prop := ∃ b ver, x = slc b 0 ver n n ∧ G[b]? = some ⟨vs, esz, ver, false⟩ ∧ H.length ≤ b ∧ vs.length = n * esz ∧ Pre H G
theorem Gr.new {H G : Heap} {esz : Nat} (p : Pre H G) : Gr H (G ++ [⟨[], esz, 0, false⟩]) (slc G.length 0 0 0 0) esz 0 [] := ⟨_, _, rfl, get_last, p.len, by simp, p.app⟩
theorem Gr.pre {H G : Heap} {x : Value} {esz n : Nat} {vs : List Value} (g : Gr H G x esz n vs) : Pre H G := by obtain ⟨b, ver, _, _, _, _, p⟩ := g; exact p
theorem Gr.app {H G L : Heap} {x : Value} {esz n : Nat} {vs : List Value} (g : Gr H G x esz n vs) : Gr H (G ++ L) x esz n vs := by
  obtain ⟨b, ver, rfl, h1, h2, h3, h4⟩ := g
  exact ⟨b, ver, rfl, by rw [List.getElem?_append_left (List.getElem?_eq_some_iff.1 h1).1]; exact h1, h2, h3, h4.app⟩
theorem Gr.sl {H G : Heap} {x : Value} {esz n : Nat} {vs : List Value} (g : Gr H G x esz n vs) : SlR G x esz n vs := by
  obtain ⟨b, ver, rfl, h1, h2, h3, h4⟩ := g
  exact ⟨h3, .inr ⟨b, 0, ver, n, rfl, Nat.le_refl _, by rw [rd_at h1 rfl (by simp [h3])]; simp [take_all (Nat.le_of_eq h3)], _, h1, rfl, rfl⟩⟩
theorem appendTo_grow {n0 : Nat} {wb : Bool} {G : Heap} {esz bytes b ver len n : Nat} {cs : List Value} {k : Blk} (h : G[b]? = some k) (hv : ver = k.ver) (hr : k.ro = false) (hm : may n0 wb b cs = true) (he : k.esz = esz) (hl : len * esz = k.cells.length) (hn : 0 < n)
    (hb : (len + n) * bytes ≤ roomMax) : appendTo n0 wb esz bytes G (slc b 0 ver len len) n cs = some (slc b 0 (ver + 1) (len + n) (len + n), G.set b { k with cells := k.cells ++ cs, ver := ver + 1 }) := by
  unfold appendTo slc
  simp only []
  rw [if_neg (by omega), h]
  simp only []
  exact if_pos ⟨hv, hr, hm, he, trivial, hl, hb⟩
theorem Gr.push {H G : Heap} {x : Value} {esz n bytes : Nat} {vs c : List Value} (g : Gr H G x esz n vs) (hc : c.length = esz) (hb : (n + 1) * bytes ≤ roomMax) {wb : Bool} :
    ∃ x' G', ((srcOf esz (G ++ [⟨c, esz, 0, false⟩]) (slc G.length 0 0 1 1)).bind fun q => appendTo H.length wb esz bytes (G ++ [⟨c, esz, 0, false⟩]) x q.1 q.2) = some (x', G') ∧ Gr H G' x' esz (n + 1) (vs ++ c) := by
  obtain ⟨b, ver, rfl, h1, h2, h3, h4⟩ := g
  have h1' : (G ++ [(⟨c, esz, 0, false⟩ : Blk)])[b]? = some ⟨vs, esz, ver, false⟩ := by rw [List.getElem?_append_left (List.getElem?_eq_some_iff.1 h1).1]; exact h1
  have e1 : srcOf esz (G ++ [⟨c, esz, 0, false⟩]) (slc G.length 0 0 1 1) = some (1, c) := by
    show (rd (G ++ [⟨c, esz, 0, false⟩]) G.length 0 0 (1 * esz)).map (fun cs => (1, cs)) = _
    rw [Nat.one_mul, rd_last rfl (by simpa using hc)]; rfl
  refine ⟨slc b 0 (ver + 1) (n + 1) (n + 1), (G ++ [(⟨c, esz, 0, false⟩ : Blk)]).set b ⟨vs ++ c, esz, ver + 1, false⟩, ?_, b, ver + 1, rfl, get_set h1', h2, by simp [h3, hc, Nat.succ_mul], (h4.app).set h2⟩
  rw [e1, Option.bind_some]
  exact appendTo_grow h1' rfl rfl (by simp [may, h2]) rfl h3.symm (by omega) hb
theorem fill_one {z : List Value} {v : Value} {esz : Nat} (hv : (cellsOf v).length = esz) (hz : z.length = esz) : fill (rep 1 z) [(0, esz, v)] = some (cellsOf v) := by
  have e1 : rep 1 z = z := by simp [rep]
  rw [e1]
  show (if (cellsOf v).length = esz ∧ 0 + esz ≤ z.length then fill (splice z 0 (cellsOf v)) [] else none) = _
  rw [if_pos ⟨hv, by omega⟩]
  have : splice z 0 (cellsOf v) = cellsOf v := by simp [splice, hv, ← hz]
  rw [this]; rfl
theorem Gr.fin {H G : Heap} {x : Value} {esz n : Nat} {vs : List Value} (g : Gr H G x esz n vs) (hn : NoRef vs) : finish H.length G [x] = (slc H.length 0 0 n n, H ++ [⟨vs, esz, 0, false⟩]) := by
  obtain ⟨b, ver, rfl, h1, h2, h3, h4⟩ := g
  exact finish_slc h4 h2 h1 rfl rfl hn.all
/- Has a frame a dot there? -/
def dotB (row : Int) (x : Nat) : Bool := decide ((row / bit x) % 2 = 1)
theorem shr_bit {row : Int} {x : Nat} (h : x < 12) : shiftOf .shr .u16 row (x : Int) = some (.int .u16 (row / bit x)) := by
  have hb := bit_ok h
  unfold shiftOf
  rw [if_neg (by omega)]
  have e1 : min ((x : Int).toNat) (IntKind.bits .u16) = x := by
    have : IntKind.bits .u16 = 16 := rfl
    omega
  simp only [e1]
  show some (Value.int .u16 (row.fdiv (bit x))) = _
  rw [Int.fdiv_eq_ediv_of_nonneg _ (by omega)]
theorem and_one {v : Int} (h : 0 ≤ v ∧ v ≤ 65535) : bitsOf .and .u16 v 1 = v % 2 := by
  obtain ⟨n, rfl⟩ := Int.eq_ofNat_of_zero_le h.1
  have e0 : IntKind.bits .u16 = 16 := rfl
  unfold bitsOf
  simp only []
  have e1 : (BitVec.ofInt (IntKind.bits .u16) (n : Int) &&& BitVec.ofInt (IntKind.bits .u16) 1).toNat = n % 2 := by
    have e2 : n % 2 ^ 16 = n := Nat.mod_eq_of_lt (by omega)
    rw [BitVec.toNat_and, e0, BitVec.ofInt_natCast, BitVec.toNat_ofNat, show (BitVec.ofInt 16 1).toNat = 1 from rfl, Nat.and_one_is_mod, e2]
  rw [e1, wrapu16 (by omega)]; omega
theorem row_div {row : Int} {x : Nat} (h : u16' row) (hx : x < 12) : 0 ≤ row / bit x ∧ row / bit x ≤ 65535 := by
  have hb := bit_ok hx
  have h1 : 0 ≤ row / bit x := Int.ediv_nonneg h.1 (by omega)
  have h2 : row / bit x ≤ row := Int.ediv_le_self _ h.1
  omega
theorem tmod_two {v : Int} (h : 0 ≤ v) : v.tmod 2 = v % 2 := Int.tmod_eq_emod_of_nonneg h
def hasF (f : List Int) (x y : Nat) : Bool := dotB (nth f y) x
theorem okP_nat {x y : Nat} (hx : x < 12) (hy : y < 12) : okP (x : Int) (y : Int) = true := by simp [okP]; omega
theorem call395 {pu : Bool} {H : Heap} {f : List Int} {x y : Nat} (hw : FrW f) (hx : x < 12) (hy : y < 12) : Call tab pu 395 [iv .u16 f, .int .i64 x, .int .i64 y] H = some (.bool (hasF f x y), H) := by
  refine Call_wp t395 (.inr rfl) rfl ?_
  have hl := hw.len
  have hd := row_div (hw.nth hy) hx
  have e1 : ((nth f y / bit x) % 2 == 1) = hasF f x y := rfl
  simp (disch := omega) [c395, k395, placeI, okP_nat hx hy, hy, hx, hl, shr_bit, and_one hd, e1]
theorem call456 {pu : Bool} {H : Heap} {q off ver : Nat} {f : List Int} {x y : Nat} (hw : FrW f) (hr : rd H q off ver 12 = some (cs .u16 f)) (hx : x < 12) (hy : y < 12) : Call tab pu 456 [adr q off ver, .int .i64 x, .int .i64 y] H = some (.bool (hasF f x y), H) := by
  refine Call_wp t456 (.inr rfl) rfl ?_
  have hd := row_div (hw.nth hy) hx
  have e1 : ((nth f y / bit x) % 2 == 1) = hasF f x y := rfl
  simp (disch := omega) [c456, k456, placeS, okP_nat hx hy, hy, hx, rd_one hr hy, shr_bit, tmod_two hd.1, e1]
/- The dots, one behind the other. -/
def hasK (f : List Int) (k : Nat) : Bool := hasF f (k % 12) (k / 12)
def dotL (f : List Int) (k : Nat) : List Nat := (List.range k).filter (hasK f)
def dotM (k : Nat) : Int × Int := (((k % 12 : Nat) : Int), ((k / 12 : Nat) : Int))
def dotC (f : List Int) (k : Nat) : List Value := mvsC ((dotL f k).map dotM)
theorem dotL_succ {f : List Int} {k : Nat} : dotL f (k + 1) = dotL f k ++ if hasK f k = true then [k] else [] := by
  rw [dotL, List.range_succ, List.filter_append, ← dotL]
  congr 1
  cases h : hasK f k <;> simp [h]
theorem hasK_yx {f : List Int} {x y : Nat} (hx : x < 12) : hasK f (y * 12 + x) = hasF f x y := by
  rw [hasK, show (y * 12 + x) % 12 = x by omega, show (y * 12 + x) / 12 = y by omega]
theorem dotM_yx {x y : Nat} (hx : x < 12) : dotM (y * 12 + x) = ((x : Int), (y : Int)) := by
  rw [dotM, show (y * 12 + x) % 12 = x by omega, show (y * 12 + x) / 12 = y by omega]
theorem mvsC_app {a b : List (Int × Int)} : mvsC (a ++ b) = mvsC a ++ mvsC b := by
  induction a with
  | nil => rfl
  | cons m r ih => simp only [mvsC, List.cons_append, rowsC, List.append_assoc] at ih ⊢; rw [ih]
theorem dotC_succ {f : List Int} {x y : Nat} (hx : x < 12) : dotC f (y * 12 + x + 1) = if hasF f x y = true then dotC f (y * 12 + x) ++ mvC ((x : Int), (y : Int)) else dotC f (y * 12 + x) := by
  unfold dotC
  rw [dotL_succ, hasK_yx hx]
  split
  · rw [List.map_append, mvsC_app]
    simp [mvsC, rowsC, dotM_yx hx]
  · simp
theorem dotL_len {f : List Int} {k : Nat} : (dotL f k).length ≤ k := by
  have := List.length_filter_le (hasK f) (List.range k)
  simpa [dotL] using this
theorem dotL_succ_len {f : List Int} {x y : Nat} (hx : x < 12) : (dotL f (y * 12 + x + 1)).length = if hasF f x y = true then (dotL f (y * 12 + x)).length + 1 else (dotL f (y * 12 + x)).length := by
  rw [dotL_succ, hasK_yx hx]
  split <;> simp
theorem call449 {pu : Bool} {H : Heap} {f : List Int} (hw : FrW f) : Call tab pu 449 [iv .u16 f] H = some (slc H.length 0 0 (dotL f 144).length (dotL f 144).length, H ++ [⟨dotC f 144, 2, 0, false⟩]) := by
  refine Call_wp t449 (.inr rfl) rfl ?_
  have hl := hw.len
  simp [c449, k449, fill, rep]
  refine WP_count 7 12 12 rfl (fun y e G => e 1 = iv .u16 f ∧ ∃ g, e 3 = g ∧ Gr H G g 2 (dotL f (y * 12)).length (dotC f (y * 12))) (by omega) ?_ ?_ (by simp) (by simp; exact Gr.new .refl)
  · rintro y e G _ hy hyy e4 h7 ⟨h1, g, h3, hg⟩
    simp [b449_2, h7, hyy]
    refine WP_count 10 12 12 rfl (fun x e G => e 1 = iv .u16 f ∧ e 4 = .int .i64 y ∧ e 7 = .int .i64 y ∧ ∃ g, e 3 = g ∧ Gr H G g 2 (dotL f (y * 12 + x)).length (dotC f (y * 12 + x))) (by omega) ?_ ?_ (by simp) (by simp [h1, h7, h3]; exact hg)
    · rintro x e G _ hx hxx e5 h10 ⟨h1, h4, h7, g, h3, hg⟩
      have hc := call395 (pu := true) (H := G) hw hx hy
      have hs := dotC_succ (f := f) (y := y) hx
      have hs2 := dotL_succ_len (f := f) (y := y) hx
      have hle := dotL_len (f := f) (k := y * 12 + x)
      have w1 : IntKind.wrap .i8 (x : Int) = x := wrap8 (by omega)
      have w2 : IntKind.wrap .i8 (y : Int) = y := wrap8 (by omega)
      cases hp : hasF f x y with
      | true =>
        rw [hp] at hc hs hs2
        rw [if_pos rfl] at hs hs2
        obtain ⟨g', G', hpush, hg'⟩ := hg.push (c := mvC ((x : Int), (y : Int))) (bytes := 2) rfl (by have : roomMax = 140737488355328 := rfl; omega) (wb := false)
        have hfa : fill [.int .i8 0, .int .i8 0] [(0, 1, .int .i8 (x : Int)), (1, 1, .int .i8 (y : Int))] = some (mvC ((x : Int), (y : Int))) := rfl
        have hf1 := fill_one (z := [.int .i8 0, .int .i8 0]) (v := agg (mvC ((x : Int), (y : Int)))) (esz := 2) rfl rfl
        simp [b449_1, h10, hxx, h1, h4, h7, h3, hl, hc, w1, w2, hfa, hf1, hpush, wbOf, e5, ← Nat.add_assoc, hs, hs2]
        exact hg'
      | false =>
        rw [hp] at hc hs hs2
        rw [if_neg (by simp)] at hs hs2
        simp [b449_1, h10, hxx, h1, h4, h7, h3, hl, hc, e5, ← Nat.add_assoc, hs, hs2]
        exact hg
    · rintro e G _ h10 ⟨h1, h4, h7, g, h3, hg⟩
      simp [b449_1, h10, h1, h7, h3, e4, Nat.add_mul]
      exact hg
  · rintro e G _ h7 ⟨h1, g, h3, hg⟩
    have := hg.fin mvsC_flat
    simp [b449_2, h7, h3, this]
theorem dotL_nodup {f : List Int} {k : Nat} : (dotL f k).Nodup := List.nodup_range.sublist List.filter_sublist
theorem dotL_at {f : List Int} {j : Nat} (h : j < (dotL f 144).length) : ∃ y x, at0 (dotL f 144) j = y * 12 + x ∧ y < 12 ∧ x < 12 ∧ y * 12 + x ∉ (dotL f 144).take j ∧ (dotL f 144).take (j + 1) = (dotL f 144).take j ++ [y * 12 + x] := by
  have hm := at0_mem h
  have h1 : at0 (dotL f 144) j < 144 := by
    have := List.mem_filter.1 (show at0 (dotL f 144) j ∈ (List.range 144).filter (hasK f) from hm)
    simpa using this.1
  have hg := at0_get h
  have ht : (dotL f 144).take (j + 1) = (dotL f 144).take j ++ [at0 (dotL f 144) j] := by
    rw [List.take_add_one, hg]; rfl
  have hnd : ((dotL f 144).take (j + 1)).Nodup := dotL_nodup.sublist (List.take_sublist _ _)
  rw [ht] at hnd
  have hni : at0 (dotL f 144) j ∉ (dotL f 144).take j := fun hi => by
    rw [List.nodup_append] at hnd
    exact hnd.2.2 _ hi _ (by simp) rfl
  refine ⟨at0 (dotL f 144) j / 12, at0 (dotL f 144) j % 12, by omega, by omega, by omega, ?_, ?_⟩
  · rw [show at0 (dotL f 144) j / 12 * 12 + at0 (dotL f 144) j % 12 = at0 (dotL f 144) j by omega]; exact hni
  · rw [show at0 (dotL f 144) j / 12 * 12 + at0 (dotL f 144) j % 12 = at0 (dotL f 144) j by omega]; exact ht
theorem mv_map {α : Type} [Inhabited α] {g : α → Int × Int} {l : List α} {i : Nat} (h : i < l.length) : mv (l.map g) i = g (at0 l i) := by
  have h2 := at0_get (l := l.map g) (i := i) (by simpa using h)
  rw [List.getElem?_map, at0_get h] at h2
  exact (Option.some.inj h2).symm
/-- A list of which one knows the block. -/
def Own (G : Heap) (r : Value) (β : Option Nat) (n0 esz n : Nat) (vs : List Value) : Prop := vs.length = n * esz ∧ match β with
  | none => r = .slice none 0 0 ∧ n = 0
  | some b => n0 ≤ b ∧ ∃ ver cap rest, r = slc b 0 ver n cap ∧ n ≤ cap ∧ G[b]? = some ⟨vs ++ rest, esz, ver, false⟩
theorem Own.sl {G : Heap} {r : Value} {β : Option Nat} {n0 esz n : Nat} {vs : List Value} (h : Own G r β n0 esz n vs) : SlR G r esz n vs := by
  obtain ⟨hl, h⟩ := h
  cases β with
  | none => exact ⟨hl, .inl h⟩
  | some b =>
    obtain ⟨_, ver, cap, rest, rfl, hc, hg⟩ := h
    exact ⟨hl, .inr ⟨b, 0, ver, cap, rfl, hc, by rw [rd_at hg rfl (by simp [hl])]; simp [← hl], _, hg, rfl, rfl⟩⟩
theorem Own.pre {G G' : Heap} {r : Value} {β : Option Nat} {n0 esz n : Nat} {vs : List Value} (p : Pre G G') (h : Own G r β n0 esz n vs) : Own G' r β n0 esz n vs := by
  obtain ⟨L, rfl⟩ := p
  obtain ⟨hl, h⟩ := h
  refine ⟨hl, ?_⟩
  cases β with
  | none => exact h
  | some b =>
    obtain ⟨hb, ver, cap, rest, rfl, hc, hg⟩ := h
    exact ⟨hb, ver, cap, rest, rfl, hc, by rw [List.getElem?_append_left (List.getElem?_eq_some_iff.1 hg).1]; exact hg⟩
theorem Own.lt {G : Heap} {r : Value} {b : Nat} {n0 esz n : Nat} {vs : List Value} (h : Own G r (some b) n0 esz n vs) : n0 ≤ b ∧ b < G.length := by
  obtain ⟨hl, hb, ver, cap, rest, rfl, hc, hg⟩ := h
  exact ⟨hb, (List.getElem?_eq_some_iff.1 hg).1⟩
/-- Two heaps that differ in one block at most. -/
structure SameB (G G' : Heap) (β : Option Nat) : Prop where
  len : G'.length = G.length
  get : ∀ b, β ≠ some b → G'[b]? = G[b]?
theorem SameB.refl {G : Heap} {β : Option Nat} : SameB G G β := ⟨rfl, fun _ _ => rfl⟩
theorem SameB.set {G : Heap} {b : Nat} {k : Blk} : SameB G (G.set b k) (some b) := ⟨by simp, fun b' h => by rw [List.getElem?_set_ne]; intro h2; exact h (by rw [h2])⟩
theorem Own.same {G G' : Heap} {r : Value} {β β' : Option Nat} {n0 esz n : Nat} {vs : List Value} (s : SameB G G' β') (h : Own G r β n0 esz n vs) (hne : ∀ b, β = some b → β' ≠ some b) : Own G' r β n0 esz n vs := by
  obtain ⟨hl, h⟩ := h
  refine ⟨hl, ?_⟩
  cases β with
  | none => exact h
  | some b =>
    obtain ⟨hb, ver, cap, rest, rfl, hc, hg⟩ := h
    exact ⟨hb, ver, cap, rest, rfl, hc, by rw [s.get b (hne b rfl)]; exact hg⟩
theorem pre_of_get {H G : Heap} (hl : H.length ≤ G.length) (h : ∀ i, i < H.length → G[i]? = H[i]?) : Pre H G := by
  refine ⟨G.drop H.length, ?_⟩
  have : G.take H.length = H := List.ext_getElem? fun i => by
    rcases Nat.lt_or_ge i H.length with h1 | h1
    · rw [List.getElem?_take, if_pos h1, h i h1]
    · rw [List.getElem?_eq_none (by simp; omega), List.getElem?_eq_none h1]
  conv => lhs; rw [← List.take_append_drop H.length G, this]
theorem Pre.get {H G : Heap} (p : Pre H G) {i : Nat} (hi : i < H.length) : G[i]? = H[i]? := by
  obtain ⟨L, rfl⟩ := p
  rw [List.getElem?_append_left hi]
theorem SameB.pre {H G G' : Heap} {β : Option Nat} (s : SameB G G' β) (p : Pre H G) (hb : ∀ b, β = some b → H.length ≤ b) : Pre H G' :=
  pre_of_get (by rw [s.len]; exact p.len) fun i hi => by rw [s.get i fun h => by have := hb i h; omega, p.get hi]
theorem Own.below {G : Heap} {r : Value} {β : Option Nat} {n0 esz n : Nat} {vs : List Value} (h : Own G r β n0 esz n vs) : ∀ b, β = some b → n0 ≤ b := by
  rintro b rfl; exact h.2.1
theorem set_self {G : Heap} {b : Nat} {k : Blk} (h : G[b]? = some k) : G.set b k = G := by
  apply List.ext_getElem?
  intro i
  rw [List.getElem?_set]
  split
  · rename_i h1; subst h1; rw [if_pos (List.getElem?_eq_some_iff.1 h).1, h]
  · rfl
/- Marks. -/
def mkC (ms : Nat → Value) (D : List Value) (k : Nat) : List Value := (List.range k).map ms ++ D.drop k
theorem mkC_zero {ms : Nat → Value} {D : List Value} : mkC ms D 0 = D := by simp [mkC]
theorem mkC_length {ms : Nat → Value} {D : List Value} {k : Nat} (h : k ≤ D.length) : (mkC ms D k).length = D.length := by simp [mkC]; omega
theorem mkC_step {ms : Nat → Value} {D : List Value} {k : Nat} (h : k < D.length) : splice (mkC ms D k) k [ms k] = mkC ms D (k + 1) := by
  have e1 : ((List.range k).map ms).length = k := by simp
  unfold splice mkC
  rw [List.take_append_of_le_length (by omega), List.take_of_length_le (by omega), List.drop_append, List.drop_eq_nil_of_le (by simp), List.range_succ]
  simp
def mkL (ms : Nat → Value) (m : Nat) : List Value := (List.range m).map ms
theorem mkC_all {ms : Nat → Value} {vs rest : List Value} {m : Nat} (h : vs.length = m) : mkC ms (vs ++ rest) m = mkL ms m ++ rest := by subst h; simp [mkC, mkL]
theorem mkL_length {ms : Nat → Value} {m : Nat} : (mkL ms m).length = m := by simp [mkL]
theorem mkL_cell {ms : Nat → Value} {m k : Nat} (h : k < m) : ((mkL ms m).drop k).take 1 = [ms k] := by
  rw [List.drop_eq_getElem_cons (by simpa [mkL] using h)]
  simp [mkL]
/-- What writing marks comes to. -/
def MkF (f esz w : Nat) (ms : Int → Nat → Value) : Prop := ∀ (G : Heap) (r : Value) (β : Option Nat) (n0 n : Nat) (vs : List Value) (c : Int), Own G r β n0 esz n vs → n ≤ 1000000 → 0 ≤ c → c ≤ 1000 →
  ∃ G', Call tab false f [r, .int .i64 c] G = some (.int .i64 (c + (n * w : Nat)), G') ∧ SameB G G' β ∧ Own G' r β n0 esz n (mkL (ms c) (n * esz))
def HdF (f esz w : Nat) (ms : Int → Nat → Value) : Prop := ∀ (pu : Bool) (G : Heap) (r : Value) (β : Option Nat) (n0 n : Nat) (c : Int), Own G r β n0 esz n (mkL (ms c) (n * esz)) → n ≤ 1000000 → 0 ≤ c → c ≤ 1000 →
  Call tab pu f [r, .int .i64 c] G = some (.int .i64 (c + (n * w : Nat)), G)
/-- Lists that hold the same are the same. -/
def EqF (f esz n : Nat) (vs : List Value) : Prop := ∀ (G : Heap) (x y : Value), SlR G x esz n vs → SlR G y esz n vs → Call tab true f [x, y] G = some (.bool true, G)
theorem elder_pre {H G G' : Heap} {v : Value} (p : Pre H G) (p' : Pre H G') {wb : Bool} : elder H.length wb G (v, G') = some (v, G') := elder_same (by rw [p.take, p'.take])
theorem eqS_EqF {f eqE esz n : Nat} {vs : List Value} (hf : tab f = some (.fn (eqSC eqE esz))) (hn : n ≤ 1000000000) (hE : ∀ G i, i < n → Call tab true eqE [agg (elem vs esz i), agg (elem vs esz i)] G = some (.bool true, G)) : EqF f esz n vs :=
  fun G x y hx hy => eqS_call hf hx hy hn fun i hi => hE G i hi
/-- A list that has grown, handed back with a code. -/
theorem Gr.fin2 {H G : Heap} {x : Value} {esz n : Nat} {vs : List Value} (g : Gr H G x esz n vs) (hn : NoRef vs) {c : Int} : finish H.length G [x, .int .i64 c] = (tup [slc H.length 0 0 n n, .int .i64 c], H ++ [⟨vs, esz, 0, false⟩]) := by
  obtain ⟨b, ver, rfl, h1, h2, h3, h4⟩ := g
  have hne : old1 H.length (slc b 0 ver n n) = false := by
    show (true && decide (b < H.length)) = false
    simp; omega
  have : pack H.length G [slc b 0 ver n n, .int .i64 c] [] [] = some ([slc H.length 0 0 n n, .int .i64 c], [⟨vs, esz, 0, false⟩]) := by
    rw [pack, if_neg (by rw [hne]; decide)]
    show (match G[b]? with
      | some k => if ([] : List Nat).contains b = false ∧ ver = k.ver ∧ k.ro = false ∧ k.cells.all (old0 H.length) = true then (pack H.length G [.int .i64 c] [b] ([] ++ [{ k with ver := 0 }])).map fun (q : List Value × List Blk) => (slc (H.length + ([] : List Blk).length) 0 0 n n :: q.1, q.2) else none
      | none => none) = _
    rw [h1]
    simp only []
    rw [if_pos ⟨by simp, trivial, trivial, hn.all⟩]
    simp
  rw [finish_some this, h4.take]; rfl
theorem own_new {H : Heap} {esz n : Nat} {vs : List Value} (hl : vs.length = n * esz) : Own (H ++ [⟨vs, esz, 0, false⟩]) (slc H.length 0 0 n n) (some H.length) H.length esz n vs :=
  ⟨hl, Nat.le_refl _, 0, n, [], rfl, Nat.le_refl _, by rw [List.append_nil]; exact get_last⟩
theorem finish_nil2 {H G : Heap} {c : Int} : finish H.length G [.slice none 0 0, .int .i64 c] = (tup [.slice none 0 0, .int .i64 c], G.take H.length) := finish_vs (by simp)
theorem rowsC_app {α : Type} {f : α → List Value} {a b : List α} : rowsC f (a ++ b) = rowsC f a ++ rowsC f b := by
  induction a with
  | nil => rfl
  | cons m r ih => simp only [List.cons_append, rowsC, List.append_assoc, ih]
def hasI (f : List Int) (a b : Int) : Bool := okP a b && hasF f a.toNat b.toNat
theorem hasI_nat {f : List Int} {x y : Nat} (hx : x < 12) (hy : y < 12) : hasI f x y = hasF f x y := by simp [hasI, okP_nat hx hy]
theorem has395 {pu : Bool} {H : Heap} {f : List Int} {a b : Int} (hw : FrW f) : Call tab pu 395 [iv .u16 f, .int .i64 a, .int .i64 b] H = some (.bool (hasI f a b), H) := by
  cases ho : okP a b with
  | true =>
    obtain ⟨x, y, rfl, rfl, hx, hy⟩ := okP_get ho
    rw [call395 hw hx hy, hasI_nat hx hy]
  | false =>
    refine Call_wp t395 (.inr rfl) rfl ?_
    simp [c395, k395, hw.len, placeI, ho, skip, hasI]
theorem has456 {pu : Bool} {H : Heap} {q off ver : Nat} {f : List Int} {a b : Int} (hw : FrW f) (hr : rd H q off ver 12 = some (cs .u16 f)) : Call tab pu 456 [adr q off ver, .int .i64 a, .int .i64 b] H = some (.bool (hasI f a b), H) := by
  cases ho : okP a b with
  | true =>
    obtain ⟨x, y, rfl, rfl, hx, hy⟩ := okP_get ho
    rw [call456 hw hr hx hy, hasI_nat hx hy]
  | false =>
    refine Call_wp t456 (.inr rfl) rfl ?_
    simp [c456, k456, placeS, ho, skip, hasI]
def dX (d : Bool) : Int := if d = true then 0 else 1
def dY (d : Bool) : Int := if d = true then 1 else 0
theorem dXY {d : Bool} : (dX d = 0 ∧ dY d = 1) ∨ (dX d = 1 ∧ dY d = 0) := by cases d <;> simp [dX, dY]
def goB (f : List Int) (d : Bool) (x y n : Nat) : Bool := hasI f (x + n * dX d) (y + n * dY d)
/-- How long the stroke is that begins there. -/
def runN (f : List Int) (d : Bool) (x y : Nat) : Int := findN (fun n => decide (1 ≤ n) && !goB f d x y n) 13
theorem goB_end {f : List Int} {d : Bool} {x y : Nat} : goB f d x y 12 = false := by
  have h : okP ((x : Int) + (12 : Nat) * dX d) ((y : Int) + (12 : Nat) * dY d) = false := by
    rcases dXY (d := d) with ⟨h1, h2⟩ | ⟨h1, h2⟩ <;> rw [h1, h2] <;> simp [okP] <;> omega
  unfold goB hasI
  rw [h]; rfl
theorem runN_is {f : List Int} {d : Bool} {x y n : Nat} (h1 : 1 ≤ n) (h2 : n ≤ 12) (hn : ∀ j, j < n → 1 ≤ j → goB f d x y j = true) (hg : goB f d x y n = false) : runN f d x y = n :=
  findN_some (by omega) (fun j hj => by
    by_cases h : 1 ≤ j
    · simp [hn j hj h]
    · simp [h]) (by simp [h1, hg])
theorem dXm {d : Bool} {n : Nat} (h : n ≤ 12) : 0 ≤ (n : Int) * dX d ∧ (n : Int) * dX d ≤ 12 ∧ 0 ≤ (n : Int) * dY d ∧ (n : Int) * dY d ≤ 12 := by
  rcases dXY (d := d) with ⟨h1, h2⟩ | ⟨h1, h2⟩ <;> rw [h1, h2] <;> omega
def begB (f : List Int) (d : Bool) (x y : Nat) : Bool := !hasI f (x - dX d) (y - dY d)
def begK (f : List Int) (d : Bool) (p : Nat) : Bool := begB f d (p % 12) (p / 12)
def mkSk (f : List Int) (d : Bool) (p : Nat) : Sk := ⟨((p % 12 : Nat) : Int), ((p / 12 : Nat) : Int), runN f d (p % 12) (p / 12), d⟩
def skS (f : List Int) (d : Bool) (k : Nat) : List Sk := ((List.range k).filter fun p => hasK f p && begK f d p).map (mkSk f d)
theorem skS_succ {f : List Int} {d : Bool} {x y : Nat} (hx : x < 12) : skS f d (y * 12 + x + 1) = skS f d (y * 12 + x) ++ if hasF f x y && begB f d x y = true then [⟨x, y, runN f d x y, d⟩] else [] := by
  unfold skS
  rw [List.range_succ, List.filter_append, List.map_append]
  congr 1
  have e1 : (y * 12 + x) % 12 = x := by omega
  have e2 : (y * 12 + x) / 12 = y := by omega
  cases h : hasF f x y && begB f d x y <;> simp [hasK, begK, mkSk, e1, e2, h]
theorem sksC_app {a b : List Sk} : sksC (a ++ b) = sksC a ++ sksC b := rowsC_app
theorem skS_len {f : List Int} {d : Bool} {k : Nat} : (skS f d k).length ≤ k := by
  unfold skS
  rw [List.length_map]
  have := List.length_filter_le (fun p => hasK f p && begK f d p) (List.range k)
  simpa using this
theorem room4 {n : Nat} (h : n ≤ 1000000) : (n + 1) * 4 ≤ roomMax := by have : roomMax = 140737488355328 := rfl; omega
theorem fillS {s : Sk} : fill (rep 1 [.int .i8 0, .int .i8 0, .int .i8 0, .bool false]) [(0, 4, agg (skC s))] = some (skC s) := fill_one (v := agg (skC s)) rfl rfl
theorem sksC_one {s : Sk} : sksC [s] = skC s := by simp [sksC, rowsC]
/-- Strokes of the first dots of a list of dots. -/
theorem loop362 {H G : Heap} {f : List Int} {q off ver : Nat} {d : Bool} (hw : FrW f) (hr : rd H q off ver 12 = some (cs .u16 f)) {fs : List Fr} {Q : Ex → Env → Heap → Prop} {e : Env} {g0 : Value}
    (h0 : e 0 = adr q off ver) (h1 : e 1 = .bool d) (h5 : e 5 = .int .i64 (dX d)) (h6 : e 6 = .int .i64 (dY d)) (h7 : e 7 = g0) (hg : Gr H G g0 4 0 []) (h8 : e 8 = .int .i64 0)
    (hq : ∀ e' G' g, e' 7 = g → Gr H G' g 4 (skS f d 144).length (sksC (skS f d 144)) → KK tab H.length false (.exit 0) fs e' G' Q) : WK tab H.length false (.loop b362_3) fs e G Q := by
  refine WP_count 8 12 12 rfl (fun y e G => e 0 = adr q off ver ∧ e 1 = .bool d ∧ e 5 = .int .i64 (dX d) ∧ e 6 = .int .i64 (dY d) ∧ ∃ g, e 7 = g ∧ Gr H G g 4 (skS f d (y * 12)).length (sksC (skS f d (y * 12)))) (by omega) ?_ ?_ h8 ⟨h0, h1, h5, h6, g0, h7, hg⟩
  · rintro y e G _ hy hyy e4 h8 ⟨h0, h1, h5, h6, g, h7, hg⟩
    simp [b362_3, h8, hyy]
    refine WP_count 9 12 12 rfl (fun x e G => e 0 = adr q off ver ∧ e 1 = .bool d ∧ e 5 = .int .i64 (dX d) ∧ e 6 = .int .i64 (dY d) ∧ e 8 = .int .i64 y ∧ ∃ g, e 7 = g ∧ Gr H G g 4 (skS f d (y * 12 + x)).length (sksC (skS f d (y * 12 + x)))) (by omega) ?_ ?_ (by simp) (by simp [h0, h1, h5, h6, h7, h8]; exact hg)
    · rintro x e G _ hx hxx e5 h9 ⟨h0, h1, h5, h6, h8, g, h7, hg⟩
      have hr' := hg.pre.rd hr
      have hc := call456 (pu := true) hw hr' hx hy
      have hs := skS_succ (f := f) (d := d) (y := y) hx
      have hle := skS_len (f := f) (d := d) (k := y * 12 + x)
      have hdd : -1 ≤ dX d ∧ dX d ≤ 1 ∧ -1 ≤ dY d ∧ dY d ≤ 1 := by rcases dXY (d := d) with h | h <;> omega
      have c1 : IntKind.wrap .i64 ((x : Int) - dX d) = (x : Int) - dX d := wrap64 (by omega)
      have c2 : IntKind.wrap .i64 ((y : Int) - dY d) = (y : Int) - dY d := wrap64 (by omega)
      have hc2 := has456 (pu := true) (a := (x : Int) - dX d) (b := (y : Int) - dY d) hw hr'
      cases hp : hasF f x y with
      | false =>
        rw [hp] at hc hs
        simp at hs
        simp [b362_2, h9, h0, h1, h5, h6, h7, h8, hxx, hc, skip, e5, ← Nat.add_assoc, hs]
        exact hg
      | true =>
        rw [hp] at hc hs
        cases hb : hasI f ((x : Int) - dX d) ((y : Int) - dY d) with
        | true =>
          rw [hb] at hc2
          have : begB f d x y = false := by simp [begB, hb]
          rw [this] at hs
          simp at hs
          simp [b362_2, h9, h0, h1, h5, h6, h7, h8, hxx, hc, c1, c2, hc2, skip, e5, ← Nat.add_assoc, hs]
          exact hg
        | false =>
          rw [hb] at hc2
          have : begB f d x y = true := by simp [begB, hb]
          rw [this] at hs
          simp only [Bool.and_self, if_true] at hs
          simp [b362_2, h9, h0, h1, h5, h6, h7, h8, hxx, hc, c1, c2, hc2, skip]
          refine WK_loop (fun i e G' => G' = G ∧ e 0 = adr q off ver ∧ e 1 = .bool d ∧ e 5 = .int .i64 (dX d) ∧ e 6 = .int .i64 (dY d) ∧ e 7 = g ∧ e 8 = .int .i64 y ∧ e 9 = .int .i64 x ∧ e 10 = .int .i64 ((i : Int) + 1) ∧ ∀ j, j < i + 1 → 1 ≤ j → goB f d x y j = true) 11 ?_ (Nat.zero_le _) ⟨rfl, by simp [h0], by simp [h1], by simp [h5], by simp [h6], by simp [h7], by simp [h8], by simp [h9], by simp, fun j h1 h2 => by omega⟩
          rintro i e G' _ hi ⟨hG, h0, h1, h5, h6, h7, h8, h9, h10, hgo⟩
          obtain rfl := hG.symm
          obtain ⟨m1, m2, m3, m4⟩ := dXm (d := d) (n := i + 1) (by omega)
          have n1 : IntKind.wrap .i64 (((i : Int) + 1) * dX d) = ((i + 1 : Nat) : Int) * dX d := by rw [show (i : Int) + 1 = ((i + 1 : Nat) : Int) by omega, wrap64 (by omega)]
          have n2 : IntKind.wrap .i64 (((i : Int) + 1) * dY d) = ((i + 1 : Nat) : Int) * dY d := by rw [show (i : Int) + 1 = ((i + 1 : Nat) : Int) by omega, wrap64 (by omega)]
          have n3 : IntKind.wrap .i64 ((x : Int) + ((i + 1 : Nat) : Int) * dX d) = (x : Int) + ((i + 1 : Nat) : Int) * dX d := wrap64 (by omega)
          have n4 : IntKind.wrap .i64 ((y : Int) + ((i + 1 : Nat) : Int) * dY d) = (y : Int) + ((i + 1 : Nat) : Int) * dY d := wrap64 (by omega)
          have hc3 := has456 (pu := true) (a := (x : Int) + ((i + 1 : Nat) : Int) * dX d) (b := (y : Int) + ((i + 1 : Nat) : Int) * dY d) hw hr'
          have hgd : hasI f ((x : Int) + ((i + 1 : Nat) : Int) * dX d) ((y : Int) + ((i + 1 : Nat) : Int) * dY d) = goB f d x y (i + 1) := rfl
          rw [hgd] at hc3
          cases hgi : goB f d x y (i + 1) with
          | true =>
            rw [hgi] at hc3
            have hne : i + 1 ≠ 12 := fun h => by rw [h, goB_end] at hgi; cases hgi
            have n5 : IntKind.wrap .i64 ((i : Int) + 1 + 1) = (i : Int) + 1 + 1 := wrap64 (by omega)
            simp [b362_1, h0, h1, h5, h6, h7, h8, h9, h10, n1, n2, n3, n4, hc3, n5, -Int.natCast_add]
            refine ⟨by omega, by omega, fun j hj h1 => ?_⟩
            rcases Nat.lt_or_ge j (i + 1) with h3 | h3
            · exact hgo j h3 h1
            · obtain rfl : j = i + 1 := by omega
              exact hgi
          | false =>
            rw [hgi] at hc3
            have hrun := runN_is (f := f) (d := d) (x := x) (y := y) (n := i + 1) (by omega) (by omega) hgo hgi
            rw [hrun] at hs
            obtain ⟨g', G', hpush, hg'⟩ := hg.push (c := skC ⟨x, y, ((i + 1 : Nat) : Int), d⟩) (bytes := 4) rfl (room4 (by omega)) (wb := false)
            have w1 : IntKind.wrap .i8 (x : Int) = x := wrap8 (by omega)
            have w2 : IntKind.wrap .i8 (y : Int) = y := wrap8 (by omega)
            have w3 : IntKind.wrap .i8 ((i : Int) + 1) = ((i + 1 : Nat) : Int) := by rw [wrap8 (by omega)]; omega
            have hfa : fill [.int .i8 0, .int .i8 0, .int .i8 0, .bool false] [(0, 1, .int .i8 (x : Int)), (1, 1, .int .i8 (y : Int)), (2, 1, .int .i8 ((i + 1 : Nat) : Int)), (3, 1, .bool d)] = some (skC ⟨x, y, ((i + 1 : Nat) : Int), d⟩) := rfl
            simp [b362_1, h0, h1, h5, h6, h7, h8, h9, h10, n1, n2, n3, n4, hc3, w1, w2, w3, hfa, fillS, hpush, e5, ← Nat.add_assoc, hs, sksC_app, sksC_one, -Int.natCast_add]
            exact hg'
    · rintro e G _ h9 ⟨h0, h1, h5, h6, h8, g, h7, hg⟩
      simp [b362_2, h9, h0, h1, h5, h6, h7, h8, e4, Nat.add_mul]
      exact hg
  · rintro e G _ h8 ⟨h0, h1, h5, h6, g, h7, hg⟩
    simp [b362_3, h8]
    exact hq _ _ g (by simp [h7]) hg
theorem call362 {pu : Bool} {H : Heap} {f : List Int} {q off ver : Nat} {d : Bool} (hw : FrW f) (hr : rd H q off ver 12 = some (cs .u16 f)) :
    Call tab pu 362 [adr q off ver, .bool d] H = some (slc H.length 0 0 (skS f d 144).length (skS f d 144).length, H ++ [⟨sksC (skS f d 144), 4, 0, false⟩]) := by
  refine Call_wp t362 (.inr rfl) rfl ?_
  cases d
  · simp [c362, k362, fill, rep]
    refine loop362 (d := false) hw hr (by simp) (by simp) (by simp [dX]) (by simp [dY]) rfl (by simp; exact Gr.new .refl) (by simp) fun e' G' g h7 hg => ?_
    simp [h7, hg.fin sksC_flat]
  · simp [c362, k362, fill, rep]
    refine loop362 (d := true) hw hr (by simp) (by simp) (by simp [dX]) (by simp [dY]) rfl (by simp; exact Gr.new .refl) (by simp) fun e' G' g h7 hg => ?_
    simp [h7, hg.fin sksC_flat]
/-- Strokes of the first dots. -/
def skD (f : List Int) (d : Bool) (j : Nat) : List Sk := (((dotL f 144).take j).filter (begK f d)).map (mkSk f d)
theorem skD_all {f : List Int} {d : Bool} : skD f d (dotL f 144).length = skS f d 144 := by
  unfold skD skS dotL
  rw [List.take_length, List.filter_filter]
  congr 1
  apply List.filter_congr
  intro p _
  rw [Bool.and_comm]
theorem skD_len {f : List Int} {d : Bool} {j : Nat} : (skD f d j).length ≤ j := by
  unfold skD
  rw [List.length_map]
  have h1 := List.length_filter_le (begK f d) ((dotL f 144).take j)
  have h2 : ((dotL f 144).take j).length ≤ j := by simp; omega
  omega
/-- A list that grows, in a block that one knows. -/
def GrB (H G : Heap) (b : Nat) (x : Value) (esz n : Nat) (vs : List Value) : Prop := ∃ ver, x = slc b 0 ver n n ∧ G[b]? = some ⟨vs, esz, ver, false⟩ ∧ H.length ≤ b ∧ vs.length = n * esz ∧ Pre H G
theorem GrB.gr {H G : Heap} {b : Nat} {x : Value} {esz n : Nat} {vs : List Value} (g : GrB H G b x esz n vs) : Gr H G x esz n vs := by
  obtain ⟨ver, h⟩ := g
  exact ⟨b, ver, h⟩
theorem GrB.push {H G : Heap} {b : Nat} {x : Value} {esz n bytes : Nat} {vs c : List Value} (g : GrB H G b x esz n vs) (hc : c.length = esz) (hb : (n + 1) * bytes ≤ roomMax) {wb : Bool} :
    ∃ x' G', ((srcOf esz (G ++ [⟨c, esz, 0, false⟩]) (slc G.length 0 0 1 1)).bind fun q => appendTo H.length wb esz bytes (G ++ [⟨c, esz, 0, false⟩]) x q.1 q.2) = some (x', G') ∧ GrB H G' b x' esz (n + 1) (vs ++ c) ∧ ∀ b', b' ≠ b → b' < G.length → G'[b']? = G[b']? := by
  obtain ⟨ver, rfl, h1, h2, h3, h4⟩ := g
  have h1' : (G ++ [(⟨c, esz, 0, false⟩ : Blk)])[b]? = some ⟨vs, esz, ver, false⟩ := by rw [List.getElem?_append_left (List.getElem?_eq_some_iff.1 h1).1]; exact h1
  have e1 : srcOf esz (G ++ [⟨c, esz, 0, false⟩]) (slc G.length 0 0 1 1) = some (1, c) := by
    show (rd (G ++ [⟨c, esz, 0, false⟩]) G.length 0 0 (1 * esz)).map (fun cs => (1, cs)) = _
    rw [Nat.one_mul, rd_last rfl (by simpa using hc)]; rfl
  refine ⟨slc b 0 (ver + 1) (n + 1) (n + 1), (G ++ [(⟨c, esz, 0, false⟩ : Blk)]).set b ⟨vs ++ c, esz, ver + 1, false⟩, ?_, ⟨ver + 1, rfl, get_set h1', h2, by simp [h3, hc, Nat.succ_mul], (h4.app).set h2⟩, fun b' hne hlt => ?_⟩
  · rw [e1, Option.bind_some]
    exact appendTo_grow h1' rfl rfl (by simp [may, h2]) rfl h3.symm (by omega) hb
  · rw [List.getElem?_set_ne (fun h => hne h.symm), List.getElem?_append_left hlt]
theorem loop363 {H G : Heap} {f : List Int} {x0 : Value} {d : Bool} (hw : FrW f) {bl bd : Nat} (hne : bd ≠ bl) (hx0 : x0 = slc bd 0 0 (dotL f 144).length (dotL f 144).length) {fs : List Fr} {Q : Ex → Env → Heap → Prop} {e : Env} {g0 : Value} (pG : G[bd]? = some ⟨dotC f 144, 2, 0, false⟩)
    (h1 : e 1 = .bool d) (h2 : e 2 = iv .u16 f) (h5 : e 5 = .int .i64 (dX d)) (h6 : e 6 = .int .i64 (dY d)) (h7 : e 7 = g0) (hg : GrB H G bl g0 4 0 []) (h16 : e 16 = x0) (h17 : e 17 = .int .i64 (dotL f 144).length) (h18 : e 18 = .int .i64 0)
    (hq : ∀ e' G' g, e' 7 = g → Gr H G' g 4 (skS f d 144).length (sksC (skS f d 144)) → KK tab H.length false (.exit 0) fs e' G' Q) : WK tab H.length false (.loop b363_2) fs e G Q := by
  have hle := dotL_len (f := f) (k := 144)
  refine WP_count 18 (dotL f 144).length _ rfl (fun j e G => e 1 = .bool d ∧ e 2 = iv .u16 f ∧ e 5 = .int .i64 (dX d) ∧ e 6 = .int .i64 (dY d) ∧ e 16 = x0 ∧ e 17 = .int .i64 (dotL f 144).length ∧ G[bd]? = some ⟨dotC f 144, 2, 0, false⟩ ∧ ∃ g, e 7 = g ∧ GrB H G bl g 4 (skD f d j).length (sksC (skD f d j))) (by omega) ?_ ?_ h18 ⟨h1, h2, h5, h6, h16, h17, pG, g0, h7, hg⟩
  · rintro j e G _ hj hjj e5 h18 ⟨h1, h2, h5, h6, h16, h17, pG, g, h7, hg⟩
    obtain ⟨y, x, hp, hy, hx, hni, htk⟩ := dotL_at hj
    have hcl : (dotC f 144).length = (dotL f 144).length * 2 := by rw [dotC, mvsC_length]; simp
    have hs0 : SlR G x0 2 (dotL f 144).length (dotC f 144) := ⟨hcl, .inr ⟨bd, 0, 0, _, hx0, Nat.le_refl _, by rw [rd_at pG rfl (by simp [hcl])]; simp [take_all (Nat.le_of_eq hcl)], _, pG, rfl, rfl⟩⟩
    obtain ⟨b, off, ver, ha, hr⟩ := hs0.get1 hj
    have hel : elem (dotC f 144) 2 j = mvC ((x : Int), (y : Int)) := by
      rw [dotC, mvsC_elem (by simpa using hj), mv_map hj, hp, dotM_yx hx]
    rw [hel] at hr
    have hlen := skD_len (f := f) (d := d) (j := j)
    have hdd : -1 ≤ dX d ∧ dX d ≤ 1 ∧ -1 ≤ dY d ∧ dY d ≤ 1 := by rcases dXY (d := d) with h | h <;> omega
    have c1 : IntKind.wrap .i64 ((x : Int) - dX d) = (x : Int) - dX d := wrap64 (by omega)
    have c2 : IntKind.wrap .i64 ((y : Int) - dY d) = (y : Int) - dY d := wrap64 (by omega)
    have w1 : IntKind.wrap .i64 (x : Int) = x := wrap64 (by omega)
    have w2 : IntKind.wrap .i64 (y : Int) = y := wrap64 (by omega)
    have hc2 := has395 (pu := true) (H := G) (a := (x : Int) - dX d) (b := (y : Int) - dY d) hw
    have hs : skD f d (j + 1) = skD f d j ++ if begB f d x y = true then [⟨x, y, runN f d x y, d⟩] else [] := by
      unfold skD
      rw [htk, List.filter_append, List.map_append]
      congr 1
      have e1 : (y * 12 + x) % 12 = x := by omega
      have e2 : (y * 12 + x) / 12 = y := by omega
      cases h : begB f d x y <;> simp [begK, mkSk, e1, e2, h]
    cases hb : hasI f ((x : Int) - dX d) ((y : Int) - dY d) with
    | true =>
      rw [hb] at hc2
      have : begB f d x y = false := by simp [begB, hb]
      rw [this] at hs
      simp at hs
      simp [b363_2, h18, h1, h2, h5, h6, h7, h16, h17, hjj, ha, hr, mvC, stc2c, ldc2, ldc2b, w1, w2, hw.len, c1, c2, hc2, e5, hs]
      exact ⟨pG, hg⟩
    | false =>
      rw [hb] at hc2
      have : begB f d x y = true := by simp [begB, hb]
      rw [this] at hs
      simp only [if_true] at hs
      simp [b363_2, h18, h1, h2, h5, h6, h7, h16, h17, hjj, ha, hr, mvC, stc2c, ldc2, ldc2b, w1, w2, hw.len, c1, c2, hc2]
      refine WK_loop (fun i e G' => G' = G ∧ e 1 = .bool d ∧ e 2 = iv .u16 f ∧ e 5 = .int .i64 (dX d) ∧ e 6 = .int .i64 (dY d) ∧ e 7 = g ∧ e 9 = agg (mvC ((x : Int), (y : Int))) ∧ e 10 = .int .i64 x ∧ e 11 = .int .i64 y ∧ e 16 = x0 ∧ e 17 = .int .i64 (dotL f 144).length ∧ e 18 = .int .i64 j ∧ e 12 = .int .i64 ((i : Int) + 1) ∧ ∀ j, j < i + 1 → 1 ≤ j → goB f d x y j = true) 11 ?_ (Nat.zero_le _) ⟨rfl, by simp [h1], by simp [h2], by simp [h5], by simp [h6], by simp [h7], by simp [mvC], by simp, by simp, by simp [h16], by simp [h17], by simp [h18], by simp, fun j h1 h2 => by omega⟩
      rintro i e G' _ hi ⟨hG, h1, h2, h5, h6, h7, h9, h10, h11, h16, h17, h18, h12, hgo⟩
      obtain rfl := hG.symm
      obtain ⟨m1, m2, m3, m4⟩ := dXm (d := d) (n := i + 1) (by omega)
      have n1 : IntKind.wrap .i64 (((i : Int) + 1) * dX d) = ((i + 1 : Nat) : Int) * dX d := by rw [show (i : Int) + 1 = ((i + 1 : Nat) : Int) by omega, wrap64 (by omega)]
      have n2 : IntKind.wrap .i64 (((i : Int) + 1) * dY d) = ((i + 1 : Nat) : Int) * dY d := by rw [show (i : Int) + 1 = ((i + 1 : Nat) : Int) by omega, wrap64 (by omega)]
      have n3 : IntKind.wrap .i64 ((x : Int) + ((i + 1 : Nat) : Int) * dX d) = (x : Int) + ((i + 1 : Nat) : Int) * dX d := wrap64 (by omega)
      have n4 : IntKind.wrap .i64 ((y : Int) + ((i + 1 : Nat) : Int) * dY d) = (y : Int) + ((i + 1 : Nat) : Int) * dY d := wrap64 (by omega)
      have hc3 := has395 (pu := true) (H := G) (a := (x : Int) + ((i + 1 : Nat) : Int) * dX d) (b := (y : Int) + ((i + 1 : Nat) : Int) * dY d) hw
      have hgd : hasI f ((x : Int) + ((i + 1 : Nat) : Int) * dX d) ((y : Int) + ((i + 1 : Nat) : Int) * dY d) = goB f d x y (i + 1) := rfl
      rw [hgd] at hc3
      cases hgi : goB f d x y (i + 1) with
      | true =>
        rw [hgi] at hc3
        have hne : i + 1 ≠ 12 := fun h => by rw [h, goB_end] at hgi; cases hgi
        have n5 : IntKind.wrap .i64 ((i : Int) + 1 + 1) = (i : Int) + 1 + 1 := wrap64 (by omega)
        simp [b363_1, h1, h2, h5, h6, h7, h9, h10, h11, h12, h16, h17, h18, hw.len, n1, n2, n3, n4, hc3, n5, -Int.natCast_add]
        refine ⟨by omega, by omega, fun j hj h1 => ?_⟩
        rcases Nat.lt_or_ge j (i + 1) with h3 | h3
        · exact hgo j h3 h1
        · obtain rfl : j = i + 1 := by omega
          exact hgi
      | false =>
        rw [hgi] at hc3
        have hrun := runN_is (f := f) (d := d) (x := x) (y := y) (n := i + 1) (by omega) (by omega) hgo hgi
        rw [hrun] at hs
        obtain ⟨g', G', hpu, hg', pk⟩ := hg.push (c := skC ⟨x, y, ((i + 1 : Nat) : Int), d⟩) (bytes := 4) rfl (room4 (by omega)) (wb := false)
        have pG' : G'[bd]? = some ⟨dotC f 144, 2, 0, false⟩ := by rw [pk bd hne (List.getElem?_eq_some_iff.1 pG).1]; exact pG
        have w3 : IntKind.wrap .i8 ((i : Int) + 1) = ((i + 1 : Nat) : Int) := by rw [wrap8 (by omega)]; omega
        have hfa : fill [.int .i8 0, .int .i8 0, .int .i8 0, .bool false] [(0, 1, .int .i8 (x : Int)), (1, 1, .int .i8 (y : Int)), (2, 1, .int .i8 ((i + 1 : Nat) : Int)), (3, 1, .bool d)] = some (skC ⟨x, y, ((i + 1 : Nat) : Int), d⟩) := rfl
        simp [b363_1, h1, h2, h5, h6, h7, h9, h10, h11, h12, h16, h17, h18, hw.len, n1, n2, n3, n4, hc3, mvC, ldc2, ldc2b, w3, hfa, fillS, hpu, e5, hs, sksC_app, sksC_one, -Int.natCast_add]
        exact ⟨pG', hg'⟩
  · rintro e G _ h18 ⟨h1, h2, h5, h6, h16, h17, pG, g, h7, hg⟩
    rw [skD_all] at hg
    simp [b363_2, h18, h17]
    exact hq _ _ g (by simp [h7]) hg.gr
theorem call363 {pu : Bool} {H : Heap} {f : List Int} {d : Bool} (hw : FrW f) :
    Call tab pu 363 [iv .u16 f, .bool d] H = some (slc H.length 0 0 (skS f d 144).length (skS f d 144).length, H ++ [⟨sksC (skS f d 144), 4, 0, false⟩]) := by
  refine Call_wp t363 (.inr rfl) rfl ?_
  have hc := call449 (pu := true) (H := H ++ [⟨[], 4, 0, false⟩]) hw
  have hl : (H ++ [(⟨[], 4, 0, false⟩ : Blk)]).length = H.length + 1 := by simp
  obtain ⟨G0, hG0⟩ : ∃ G, G = H ++ [(⟨[], 4, 0, false⟩ : Blk)] := ⟨_, rfl⟩
  rw [← hG0] at hc hl
  have hcl : (dotC f 144).length = (dotL f 144).length * 2 := by rw [dotC, mvsC_length]; simp
  have hs0 : SlR (G0 ++ [⟨dotC f 144, 2, 0, false⟩]) (slc G0.length 0 0 (dotL f 144).length (dotL f 144).length) 2 (dotL f 144).length (dotC f 144) :=
    ⟨hcl, .inr ⟨_, 0, 0, _, rfl, Nat.le_refl _, rd_last rfl hcl, _, get_last, rfl, rfl⟩⟩
  have hlast : (G0 ++ [(⟨dotC f 144, 2, 0, false⟩ : Blk)])[G0.length]? = some ⟨dotC f 144, 2, 0, false⟩ := get_last
  have hg0 : GrB H (G0 ++ [⟨dotC f 144, 2, 0, false⟩]) H.length (slc H.length 0 0 0 0) 4 0 [] := ⟨0, rfl, by rw [hG0, List.getElem?_append_left (by simp)]; exact get_last, Nat.le_refl _, rfl, by rw [hG0]; exact Pre.one.app⟩
  generalize hx0 : slc G0.length 0 0 (dotL f 144).length (dotL f 144).length = x0 at hc hs0
  cases d
  · simp [c363, k363, fill, rep, ← hG0, hw.len, hc, hs0.lenV]
    refine loop363 (d := false) hw (bl := H.length) (bd := G0.length) (by omega) hx0.symm hlast (by simp) (by simp) (by simp [dX]) (by simp [dY]) rfl (by simp; exact hg0) (by simp) (by simp) (by simp) fun e' G' g h7 hg => ?_
    simp [h7, hg.fin sksC_flat]
  · simp [c363, k363, fill, rep, ← hG0, hw.len, hc, hs0.lenV]
    refine loop363 (d := true) hw (bl := H.length) (bd := G0.length) (by omega) hx0.symm hlast (by simp) (by simp) (by simp [dX]) (by simp [dY]) rfl (by simp; exact hg0) (by simp) (by simp) (by simp) fun e' G' g h7 hg => ?_
    simp [h7, hg.fin sksC_flat]
def msS (c : Int) (i : Nat) : Value := if i % 4 = 3 then .bool ((c + i).tmod 3 == 0) else .int .i8 (IntKind.wrap .i8 (c + i))
theorem msS_int {c : Int} {i : Nat} (h : i % 4 ≠ 3) : msS c i = .int .i8 (IntKind.wrap .i8 (c + i)) := if_neg h
theorem msS_bool {c : Int} {i : Nat} (h : i % 4 = 3) : msS c i = .bool ((c + i).tmod 3 == 0) := if_pos h
theorem msS_flat {c : Int} {i : Nat} {n : Nat} : old0 n (msS c i) = true := by
  unfold msS; split
  · exact old0_bool
  · exact old0_int
theorem mk_wr {n0 : Nat} {G : Heap} {b ver esz k : Nat} {ms : Nat → Value} {D : List Value} (hg : ∃ k0, G[b]? = some k0) (hk : k < D.length) (hf : old0 0 (ms k) = true) :
    wr n0 true (G.set b ⟨mkC ms D k, esz, ver, false⟩) b k ver [ms k] = some (G.set b ⟨mkC ms D (k + 1), esz, ver, false⟩) := by
  obtain ⟨k0, hk0⟩ := hg
  rw [wr_at (get_set hk0) rfl rfl (by simp [may, hf]) (by simp only [List.length_singleton]; rw [mkC_length (by omega)]; omega)]
  simp only []
  rw [mkC_step hk, set_set]
theorem mark139 : MkF 139 4 4 msS := by
  intro G r β n0 n vs c ho hn hc0 hc1
  cases β with
  | none =>
    obtain ⟨hl, rfl, rfl⟩ := ho
    refine ⟨G, Call_wp t139 (.inl rfl) rfl ?_, .refl, by simp [mkL], rfl, rfl⟩
    simp [c139, k139]
    refine WP_forH 5 0 0 rfl (by omega) (fun i e => e 0 = .slice none 0 0 ∧ e 1 = .int .i64 c) ?_ ?_ (by simp) (by simp)
    · intro i e hi; omega
    · rintro e h5 ⟨h0, h1⟩
      simp [b139_1, h5, h0, h1]
  | some b =>
    obtain ⟨hl, hb, ver, cap, rest, rfl, hcap, hg⟩ := ho
    have hD : n * 4 ≤ (vs ++ rest).length := by simp [hl]
    refine ⟨G.set b ⟨mkL (msS c) (n * 4) ++ rest, 4, ver, false⟩, Call_wp t139 (.inl rfl) rfl ?_, .set, mkL_length, hb, ver, cap, rest, rfl, hcap, get_set hg⟩
    simp [c139, k139]
    refine WP_count 5 n n rfl (fun i e G' => e 0 = slc b 0 ver n cap ∧ e 1 = .int .i64 (c + (i * 4 : Nat)) ∧ G' = G.set b ⟨mkC (msS c) (vs ++ rest) (i * 4), 4, ver, false⟩) (by omega) ?_ ?_ (by simp) ⟨by simp, by simp, by rw [Nat.zero_mul, mkC_zero]; exact (set_self hg).symm⟩
    · rintro i e _ _ hi hii e4 h5 ⟨h0, h1, rfl⟩
      have q0 := mk_wr (n0 := G.length) (ver := ver) (esz := 4) (k := i * 4) (ms := msS c) (D := vs ++ rest) ⟨_, hg⟩ (by omega) msS_flat
      have q1 := mk_wr (n0 := G.length) (ver := ver) (esz := 4) (k := i * 4 + 1) (ms := msS c) (D := vs ++ rest) ⟨_, hg⟩ (by omega) msS_flat
      have q2 := mk_wr (n0 := G.length) (ver := ver) (esz := 4) (k := i * 4 + 2) (ms := msS c) (D := vs ++ rest) ⟨_, hg⟩ (by omega) msS_flat
      have q3 := mk_wr (n0 := G.length) (ver := ver) (esz := 4) (k := i * 4 + 3) (ms := msS c) (D := vs ++ rest) ⟨_, hg⟩ (by omega) msS_flat
      rw [msS_int (by omega)] at q0 q1 q2
      rw [msS_bool (by omega)] at q3
      have w1 : IntKind.wrap .i64 (c + (i * 4 : Nat) + 1) = c + (i * 4 + 1 : Nat) := by rw [wrap64 (by omega)]; omega
      have w2 : IntKind.wrap .i64 (c + (i * 4 + 1 : Nat) + 1) = c + (i * 4 + 2 : Nat) := by rw [wrap64 (by omega)]; omega
      have w3 : IntKind.wrap .i64 (c + (i * 4 + 2 : Nat) + 1) = c + (i * 4 + 3 : Nat) := by rw [wrap64 (by omega)]; omega
      have w4 : IntKind.wrap .i64 (c + (i * 4 + 3 : Nat) + 1) = c + ((i + 1) * 4 : Nat) := by rw [wrap64 (by omega)]; omega
      have e6 : (i + 1) * 4 = i * 4 + 3 + 1 := by omega
      simp (disch := decide) [b139_1, h5, h0, h1, hii, at_nat hi, q0, q1, q2, q3, wbOf, w1, w2, w3, w4, e4, e6, -Int.natCast_add, -Int.natCast_mul]
    · rintro e _ _ h5 ⟨h0, h1, rfl⟩
      simp [b139_1, h5, h0, h1, mkC_all hl]
theorem held140 : HdF 140 4 4 msS := by
  intro pu G r β n0 n c ho hn hc0 hc1
  have hs := ho.sl
  refine Call_wp t140 (.inr rfl) rfl ?_
  simp [c140, k140]
  refine WP_forH 5 n n rfl (by omega) (fun i e => e 0 = r ∧ e 1 = .int .i64 (c + (i * 4 : Nat))) ?_ ?_ (by simp) (by simp)
  · rintro i e hi hii e4 h5 ⟨h0, h1⟩
    obtain ⟨q, off, ver, ha, hr⟩ := hs.get1 hi
    have hd : ∀ o, o < 4 → rd G q (off + o) ver 1 = some [msS c (i * 4 + o)] := fun o ho => by
      rw [rd_part hr (by omega)]
      unfold elem
      rw [List.drop_take, List.take_take, List.drop_drop, Nat.min_eq_left (by omega), mkL_cell (by omega)]
    have d0 := hd 0 (by omega)
    have d1 := hd 1 (by omega)
    have d2 := hd 2 (by omega)
    have d3 := hd 3 (by omega)
    rw [msS_int (by omega)] at d0 d1 d2
    rw [msS_bool (by omega)] at d3
    rw [Nat.add_zero, Nat.add_zero] at d0
    have w1 : IntKind.wrap .i64 (c + (i * 4 : Nat) + 1) = c + (i * 4 + 1 : Nat) := by rw [wrap64 (by omega)]; omega
    have w2 : IntKind.wrap .i64 (c + (i * 4 + 1 : Nat) + 1) = c + (i * 4 + 2 : Nat) := by rw [wrap64 (by omega)]; omega
    have w3 : IntKind.wrap .i64 (c + (i * 4 + 2 : Nat) + 1) = c + (i * 4 + 3 : Nat) := by rw [wrap64 (by omega)]; omega
    have w4 : IntKind.wrap .i64 (c + (i * 4 + 3 : Nat) + 1) = c + ((i + 1) * 4 : Nat) := by rw [wrap64 (by omega)]; omega
    simp (disch := decide) [b140_1, h5, h0, h1, hs.lenV, hii, ha, d0, d1, d2, d3, w1, w2, w3, w4, e4, -Int.natCast_add, -Int.natCast_mul]
  · rintro e h5 ⟨h0, h1⟩
    simp [b140_1, h5, h0, hs.lenV, h1]
theorem eqSk {l : List Sk} (hn : l.length ≤ 1000000) : EqF 138 4 l.length (sksC l) :=
  eqS_EqF s138 (by omega) fun G i hi => by rw [sksC_elem hi]; exact call364
/-- What a function makes of some arguments: a list of its own, and a code. -/
def RsV (f : Nat) (args : List Value) (eszR nR : Nat) (vsR : List Value) (c : Int) : Prop := ∀ (G : Heap), ∃ r G' β, Call tab true f args G = some (tup [r, .int .i64 c], G') ∧ Pre G G' ∧ Own G' r β G.length eszR nR vsR
def frCode (f : List Int) : Int := if okF f = true then 0 else 1
def fewR (f : List Int) : List Sk := if okF f = true then if (skS f true 144).length < (skS f false 144).length then skS f true 144 else skS f false 144 else []
theorem fewR_len {f : List Int} : (fewR f).length ≤ 1000000 := by
  unfold fewR; split
  · have h1 := skS_len (f := f) (d := true) (k := 144)
    have h2 := skS_len (f := f) (d := false) (k := 144)
    split <;> omega
  · simp
theorem call142 {f : List Int} (hw : FrW f) : RsV 142 [iv .u16 f] 4 (fewR f).length (sksC (fewR f)) (frCode f) := by
  intro H
  cases hk : okF f with
  | false =>
    refine ⟨.slice none 0 0, H, none, Call_wp t142 (.inr rfl) rfl ?_, .refl, by rw [sksC_length], rfl, by simp [fewR, hk]⟩
    simp [c142, k142, hw.len, call234 hw.len, hk, finish_nil2, frCode]
  | true =>
    refine ⟨slc H.length 0 0 (fewR f).length (fewR f).length, H ++ [⟨sksC (fewR f), 4, 0, false⟩], some H.length, Call_wp t142 (.inr rfl) rfl ?_, Pre.one, own_new (sksC_length)⟩
    obtain ⟨A, hA⟩ : ∃ A, A = skS f false 144 := ⟨_, rfl⟩
    obtain ⟨B, hB⟩ : ∃ B, B = skS f true 144 := ⟨_, rfl⟩
    have hc1 := call363 (pu := true) (H := H) (d := false) hw
    rw [← hA] at hc1
    obtain ⟨G1, hG1⟩ : ∃ G, G = H ++ [(⟨sksC A, 4, 0, false⟩ : Blk)] := ⟨_, rfl⟩
    rw [← hG1] at hc1
    have hc2 := call363 (pu := true) (H := G1) (d := true) hw
    rw [← hB] at hc2
    have hP1 : Pre H G1 := by rw [hG1]; exact Pre.one
    have gA : Gr H G1 (slc H.length 0 0 A.length A.length) 4 A.length (sksC A) := ⟨_, _, rfl, by rw [hG1]; exact get_last, Nat.le_refl _, sksC_length, hP1⟩
    have gA2 := gA.app (L := [⟨sksC B, 4, 0, false⟩])
    have gB : Gr H (G1 ++ [⟨sksC B, 4, 0, false⟩]) (slc G1.length 0 0 B.length B.length) 4 B.length (sksC B) := ⟨_, _, rfl, get_last, hP1.len, sksC_length, hP1.app⟩
    have fA := gA2.fin2 sksC_flat (c := 0)
    have fB := gB.fin2 sksC_flat (c := 0)
    by_cases hlt : B.length < A.length
    · have hlt' : (B.length : Int) < (A.length : Int) := by omega
      have hr : fewR f = B := by rw [fewR, if_pos hk, ← hA, ← hB, if_pos hlt]
      simp [c142, k142, hw.len, call234 hw.len, hk, hc1, hc2, hlt', fB, hr, frCode]
    · have hlt' : ¬ ((B.length : Int) < (A.length : Int)) := by omega
      have hr : fewR f = A := by rw [fewR, if_pos hk, ← hA, ← hB, if_neg hlt]
      simp [c142, k142, hw.len, call234 hw.len, hk, hc1, hc2, hlt', fA, hr, frCode]
theorem call141 {f : List Int} (hw : FrW f) : RsV 141 [iv .u16 f] 4 (fewR f).length (sksC (fewR f)) (frCode f) := by
  intro H
  obtain ⟨G, hG⟩ : ∃ G, G = H ++ [⟨cs .u16 f, 1, 0, false⟩] := ⟨_, rfl⟩
  have hP : Pre H G := by rw [hG]; exact Pre.one
  have hrd : rd G H.length 0 0 12 = some (cs .u16 f) := by rw [hG]; exact rd_last rfl (by simp [hw.len])
  have hc := call359 (pu := true) hw.len hrd
  refine ⟨slc H.length 0 0 (fewR f).length (fewR f).length, H ++ [⟨sksC (fewR f), 4, 0, false⟩], some H.length, Call_wp t141 (.inr rfl) rfl ?_, Pre.one, own_new (sksC_length)⟩
  cases hk : okF f with
  | false =>
    have hfin := (Gr.new (H := H) (G := G) (esz := 4) hP).fin2 (c := 1) (by intro v hv; simp at hv)
    simp [c141, k141, hw.len, ← hG, hc, hk, fill, rep, hfin, fewR, frCode, sksC, rowsC]
  | true =>
    obtain ⟨A, hA⟩ : ∃ A, A = skS f false 144 := ⟨_, rfl⟩
    obtain ⟨B, hB⟩ : ∃ B, B = skS f true 144 := ⟨_, rfl⟩
    have hc1 := call362 (pu := true) (d := false) hw hrd
    rw [← hA] at hc1
    obtain ⟨G1, hG1⟩ : ∃ G', G' = G ++ [(⟨sksC A, 4, 0, false⟩ : Blk)] := ⟨_, rfl⟩
    rw [← hG1] at hc1
    have hP1 : Pre G G1 := by rw [hG1]; exact Pre.one
    have hc2 := call362 (pu := true) (d := true) hw (hP1.rd hrd)
    rw [← hB] at hc2
    have hP2 : Pre H G1 := hP.trans hP1
    have gA : Gr H G1 (slc G.length 0 0 A.length A.length) 4 A.length (sksC A) := ⟨_, _, rfl, by rw [hG1]; exact get_last, hP.len, sksC_length, hP2⟩
    have gA2 := gA.app (L := [⟨sksC B, 4, 0, false⟩])
    have gB : Gr H (G1 ++ [⟨sksC B, 4, 0, false⟩]) (slc G1.length 0 0 B.length B.length) 4 B.length (sksC B) := ⟨_, _, rfl, get_last, hP2.len, sksC_length, hP2.app⟩
    have fA := gA2.fin2 sksC_flat (c := 0)
    have fB := gB.fin2 sksC_flat (c := 0)
    by_cases hlt : B.length < A.length
    · have hlt' : (B.length : Int) < (A.length : Int) := by omega
      have hr : fewR f = B := by rw [fewR, if_pos hk, ← hA, ← hB, if_pos hlt]
      simp [c141, k141, hw.len, ← hG, hc, hk, hc1, hc2, hlt', fB, hr, frCode]
    · have hlt' : ¬ ((B.length : Int) < (A.length : Int)) := by omega
      have hr : fewR f = A := by rw [fewR, if_pos hk, ← hA, ← hB, if_neg hlt]
      simp [c141, k141, hw.len, ← hG, hc, hk, hc1, hc2, hlt', fA, hr, frCode]
/-- The part of a law that is alike for both. -/
theorem lfs_steps {sp im : Nat} {args : List Value} {l : List Sk} {c : Int} (hn : l.length ≤ 1000000) (hsp : RsV sp args 4 l.length (sksC l) c) (him : RsV im args 4 l.length (sksC l) c) (H : Heap) :
    ∃ rs G1 ri G2 G3 r3 G4, Call tab true sp args H = some (tup [rs, .int .i64 c], G1) ∧ Call tab true im args G1 = some (tup [ri, .int .i64 c], G2) ∧ Call tab true 138 [ri, rs] G2 = some (.bool true, G2) ∧
      (Call tab false 139 [ri, .int .i64 101] G2).bind (elder H.length false G2) = some (.int .i64 (101 + (l.length * 4 : Nat)), G3) ∧ Call tab true 140 [ri, .int .i64 101] G3 = some (.int .i64 (101 + (l.length * 4 : Nat)), G3) ∧
      Call tab true im args G3 = some (tup [r3, .int .i64 c], G4) ∧ Call tab true 138 [r3, rs] G4 = some (.bool true, G4) ∧ Call tab true 140 [ri, .int .i64 101] G4 = some (.int .i64 (101 + (l.length * 4 : Nat)), G4) ∧ Pre H G4 := by
  obtain ⟨rs, G1, βs, w1, p1, os⟩ := hsp H
  obtain ⟨ri, G2, βi, w2, p2, oi⟩ := him G1
  have P2 := p1.trans p2
  have os2 := os.pre p2
  have e1 := eqSk hn G2 ri rs oi.sl os2.sl
  obtain ⟨G3, w3, s3, oi3⟩ := mark139 G2 ri βi _ l.length _ 101 oi hn (by omega) (by omega)
  have P3 : Pre H G3 := s3.pre P2 fun b hb => Nat.le_trans p1.len (oi.below b hb)
  have os3 : Own G3 rs βs H.length 4 l.length (sksC l) := os2.same s3 fun b hb he => by
    subst hb
    have h1 := os.lt
    have h2 := oi.below b he
    omega
  have w4 := held140 true G3 ri βi _ l.length 101 oi3 hn (by omega) (by omega)
  obtain ⟨r3, G4, β3, w5, p4, o3⟩ := him G3
  have os4 := os3.pre p4
  have oi4 := oi3.pre p4
  have e2 := eqSk hn G4 r3 rs o3.sl os4.sl
  have w6 := held140 true G4 ri βi _ l.length 101 oi4 hn (by omega) (by omega)
  refine ⟨rs, G1, ri, G2, G3, r3, G4, w1, w2, e1, ?_, w4, w5, e2, w6, P3.trans p4⟩
  rw [w3]
  exact elder_pre P2 P3
theorem call20 {H : Heap} {f : List Int} (hw : FrW f) : Call tab false 20 [iv .u16 f] H = some (.bool true, H) := by
  refine Call_wp t20 (.inl rfl) rfl ?_
  obtain ⟨rs, G1, ri, G2, G3, r3, G4, w1, w2, e1, w3, w4, w5, e2, w6, P⟩ := lfs_steps fewR_len (call141 hw) (call142 hw) H
  have hB : ¬ ((101 : Int) + ((fewR f).length * 4 : Nat) < 0) := by omega
  generalize ((101 : Int) + ((fewR f).length * 4 : Nat)) = B at *
  simp [c20, k20, hw.len, call134 hw.len, w1, w2, w3, w4, w5, w6, e1, e2, hB, skip, wbOf, P.take]
end Fb
