/- What each function computes. -/
import Derived.Test.YtimijcjjmeemeaaDoorTab
import Derived.Test.YtimijcjjmeemeaaDoorPl
set_option linter.unusedVariables false
set_option linter.unusedSimpArgs false
namespace Fb
open Go
theorem call304 {pu : Bool} {a b c : Int} {H : Heap} : Call tab pu 304 [.int .i64 a, .int .i64 b, .int .i64 c] H = some (.bool (decide (b ≤ a ∧ a ≤ c)), H) := by
  refine Call_wp t304 (.inr rfl) rfl ?_
  by_cases h : b ≤ a <;> simp [c304, k304, h, skip]
theorem call295 {pu : Bool} {a b c : Int} {H : Heap} : Call tab pu 295 [.int .i64 a, .int .i64 b, .int .i64 c] H = some (.bool (decide (b ≤ a ∧ a ≤ c)), H) := by
  refine Call_wp t295 (.inr rfl) rfl ?_
  by_cases h : b ≤ a <;> simp [c295, k295, h, skip]
/-- A number that fits. -/
abbrev i16 (n : Int) : Prop := -32768 ≤ n ∧ n ≤ 32767
def okL (n : Int) : Bool := decide (0 ≤ n ∧ n ≤ 1000)
def okAll (l : List Int) : Bool := l.all okL
theorem upto_succ {p : Nat → Prop} {i : Nat} (h : ∀ j, j < i → p j) (hi : p i) : ∀ j, j < i + 1 → p j := by
  intro j hj
  rcases Nat.lt_or_ge j i with h1 | h1
  · exact h j h1
  · obtain rfl : j = i := by omega
    exact hi
/-- The first m numbers of a row are turned. -/
def part (f : Int → Int) (m : Nat) (l : List Int) : List Int := (l.take m).map f ++ l.drop m
def bit (x : Nat) : Int := 2 ^ x
def eqSB1 (eqE : Nat) (esz : Nat) : Cd :=
  (.seq
   (.seq
    (.reg [14] [
      ⟨none, (some 11), .mov (.t 5), []⟩,
      ⟨none, (some 12), .mov (.t 0), []⟩,
      ⟨none, (some 13), .len (.t 12), []⟩,
      ⟨none, (some 14), .bin .lss (.t 11) (.t 13), []⟩])
    (.cond (.t 14)
     .skip
     (.exit 0)))
   (.seq
    (.block 1
     (.seq
      (.reg [26] [
        ⟨none, (some 17), .mov (.t 0), []⟩,
        ⟨none, (some 18), .mov (.t 5), []⟩,
        ⟨none, (some 19), .idxA esz (.t 17) (.t 18), []⟩,
        ⟨none, (some 20), .ld esz true (.t 19), []⟩,
        ⟨none, (some 21), .mov (.t 1), []⟩,
        ⟨none, (some 22), .mov (.t 5), []⟩,
        ⟨none, (some 23), .idxA esz (.t 21) (.t 22), []⟩,
        ⟨none, (some 24), .ld esz true (.t 23), []⟩,
        ⟨none, (some 25), .call true eqE [.t 20, .t 24], []⟩,
        ⟨none, (some 26), .un .not (.t 25), []⟩])
      (.cond (.t 26)
       (.seq
        (.reg [4] [
          ⟨none, (some 4), .mov (.c (.bool false)), []⟩])
        .ret)
       .skip)))
    (.reg [5] [
      ⟨none, (some 15), .mov (.t 5), []⟩,
      ⟨none, (some 16), .bin .add (.t 15) (.c (.int .i64 1)), []⟩,
      ⟨none, (some 5), .mov (.t 16), []⟩])))
def eqSK (eqE : Nat) (esz : Nat) : Cd :=
  (.seq
   (.reg [4] [
     ⟨none, (some 4), .mov (.c (.bool false)), []⟩])
   (.seq
    (.seq
     (.reg [10] [
       ⟨none, (some 6), .mov (.t 0), []⟩,
       ⟨none, (some 7), .len (.t 6), []⟩,
       ⟨none, (some 8), .mov (.t 1), []⟩,
       ⟨none, (some 9), .len (.t 8), []⟩,
       ⟨none, (some 10), .bin .neq (.t 7) (.t 9), []⟩])
     (.cond (.t 10)
      (.seq
       (.reg [4] [
         ⟨none, (some 4), .mov (.c (.bool false)), []⟩])
       .ret)
      .skip))
    (.seq
     (.seq
      (.reg [5] [
        ⟨none, (some 5), .mov (.c (.int .i64 0)), []⟩])
      (.block 0
       (.loop (eqSB1 eqE esz))))
     (.seq
      (.reg [4] [
        ⟨none, (some 4), .mov (.c (.bool true)), []⟩])
      .ret))))
def eqSC (eqE : Nat) (esz : Nat) : Fn := { np := 2, nt := 27, kind := .pure, res := [.t 4], body := eqSK eqE esz }
def roomN (n : Nat) : Nat := if n % 6 = 5 then 0 else if n % 3 = 0 then 1 else n
/-- The i-th of a row of things. -/
def elem (vs : List Value) (esz i : Nat) : List Value := (vs.drop (i * esz)).take esz
theorem mul_next {i n esz : Nat} (h : i < n) : i * esz + esz ≤ n * esz := by
  have := Nat.mul_le_mul_right esz (show i + 1 ≤ n from h)
  rwa [Nat.succ_mul] at this
/-- A slice that can be read. -/
structure SlR (H : Heap) (x : Value) (esz n : Nat) (vs : List Value) : Prop where
  size : vs.length = n * esz
  is : (x = .slice none 0 0 ∧ n = 0) ∨ ∃ b off ver cap, x = slc b off ver n cap ∧ n ≤ cap ∧ rd H b off ver (n * esz) = some vs ∧ ∃ k, H[b]? = some k ∧ ver = k.ver ∧ k.esz = esz
theorem SlR.lenV {H : Heap} {x : Value} {esz n : Nat} {vs : List Value} (h : SlR H x esz n vs) : lenV x = some (.int .i64 n) := by
  rcases h.is with ⟨rfl, rfl⟩ | ⟨b, off, ver, cap, rfl, _⟩ <;> rfl
theorem SlR.app {H L : Heap} {x : Value} {esz n : Nat} {vs : List Value} (h : SlR H x esz n vs) : SlR (H ++ L) x esz n vs :=
  ⟨h.size, h.is.imp id fun ⟨b, off, ver, cap, h1, h2, h3, k, h4, h5⟩ => ⟨b, off, ver, cap, h1, h2, rd_app h3, k, by rw [List.getElem?_append_left (List.getElem?_eq_some_iff.1 h4).1]; exact h4, h5⟩⟩
theorem SlR.get {H : Heap} {x : Value} {esz n : Nat} {vs : List Value} (h : SlR H x esz n vs) {i : Nat} (hi : i < n) : ∃ a, idxAV esz x (.int .i64 (i : Int)) = some a ∧ ldH H esz true a = some (agg (elem vs esz i)) := by
  rcases h.is with ⟨rfl, rfl⟩ | ⟨b, off, ver, cap, rfl, h2, h3, _⟩
  · omega
  · refine ⟨adr b (off + i * esz) ver, by rw [idxAV_slc, at_nat hi]; rfl, ?_⟩
    rw [ldH_adr, rd_part h3 (mul_next hi)]; rfl
theorem SlR.of {H : Heap} {x : Value} {esz n : Nat} {vs : List Value} (h1 : vs.length = n * esz) (h : (x = .slice none 0 0 ∧ n = 0) ∨ ∃ b cap, x = slc b 0 0 n cap ∧ n ≤ cap ∧ rd H b 0 0 (n * esz) = some vs ∧ ∃ k, H[b]? = some k ∧ 0 = k.ver ∧ k.esz = esz) : SlR H x esz n vs :=
  ⟨h1, h.imp id fun ⟨b, cap, h1, h2, h3⟩ => ⟨b, 0, 0, cap, h1, h2, h3⟩⟩
theorem rep_len {n : Nat} {z : List Value} : (rep n z).length = n * z.length := by
  induction n with
  | zero => simp [rep]
  | succ n ih => simp [rep, ih, Nat.succ_mul]; omega
/-- What leads nowhere. -/
def NoRef (vs : List Value) : Prop := ∀ v ∈ vs, ∀ n, old0 n v = true
theorem NoRef.all {vs : List Value} (h : NoRef vs) {n : Nat} : vs.all (old0 n) = true := List.all_eq_true.2 fun v hv => h v hv n
theorem NoRef.app {vs ws : List Value} (h : NoRef vs) (h' : NoRef ws) : NoRef (vs ++ ws) := fun v hv n => (List.mem_append.1 hv).elim (fun h1 => h v h1 n) (fun h1 => h' v h1 n)
theorem finish_slc {H G : Heap} {b ver len cap : Nat} {k : Blk} (hp : Pre H G) (hb : H.length ≤ b) (hk : G[b]? = some k) (hv : ver = k.ver) (hr : k.ro = false) (ho : k.cells.all (old0 H.length) = true) :
    finish H.length G [slc b 0 ver len cap] = (slc H.length 0 0 len cap, H ++ [{ k with ver := 0 }]) := by
  have hne : old1 H.length (slc b 0 ver len cap) = false := by
    show (true && decide (b < H.length)) = false
    simp; omega
  have : pack H.length G [slc b 0 ver len cap] [] [] = some ([slc H.length 0 0 len cap], [{ k with ver := 0 }]) := by
    rw [pack, if_neg (by rw [hne]; decide)]
    show (match G[b]? with
      | some k => if ([] : List Nat).contains b = false ∧ ver = k.ver ∧ k.ro = false ∧ k.cells.all (old0 H.length) = true then _ else none
      | none => none) = _
    rw [hk]
    simp only []
    rw [if_pos ⟨by simp, hv, hr, ho⟩]
    rfl
  rw [finish_some this, hp.take]; rfl
/-- The cells of a copy: with room behind. -/
def room (vs : List Value) (n : Nat) (fc : List Value) : List Value := vs ++ rep (roomN n) fc
theorem room_length {vs fc : List Value} {n esz : Nat} (hl : vs.length = n * esz) (hf : fc.length = esz) : (room vs n fc).length = (n + roomN n) * esz := by
  simp [room, rep_len, hl, hf, Nat.add_mul]
theorem eqS_call {f eqE esz : Nat} (hf : tab f = some (.fn (eqSC eqE esz))) {pu : Bool} {H : Heap} {x y : Value} {n : Nat} {vs : List Value} (hx : SlR H x esz n vs) (hy : SlR H y esz n vs) (hn : n ≤ 1000000000)
    (hE : ∀ i, i < n → Call tab true eqE [agg (elem vs esz i), agg (elem vs esz i)] H = some (.bool true, H)) : Call tab pu f [x, y] H = some (.bool true, H) := by
  refine Call_wp hf (.inr rfl) rfl ?_
  simp [eqSC, eqSK, hx.lenV, hy.lenV]
  refine WP_forH 5 n n rfl (by omega) (fun i e => e 0 = x ∧ e 1 = y) ?_ ?_ (by simp) (by simp)
  · rintro i e hi hlt e4 h5 ⟨h0, h1⟩
    obtain ⟨a, ha, hl⟩ := hx.get hi
    obtain ⟨a', ha', hl'⟩ := hy.get hi
    simp [eqSB1, h5, h0, h1, hlt, hx.lenV, ha, hl, ha', hl', hE i hi, e4]
  · rintro e h5 ⟨h0, h1⟩
    simp [eqSB1, h5, h0, h1, hx.lenV]
/-- What a copy looks like. -/
def IsCp (H : Heap) (x : Value) (esz n : Nat) (vs fc : List Value) : Prop := ∃ b ver, x = slc b 0 ver n (n + roomN n) ∧ H[b]? = some ⟨room vs n fc, esz, ver, false⟩
theorem IsCp.sl {H : Heap} {x : Value} {esz n : Nat} {vs fc : List Value} (h : IsCp H x esz n vs fc) (hl : vs.length = n * esz) (hf : fc.length = esz) : SlR H x esz n vs := by
  obtain ⟨b, ver, rfl, h⟩ := h
  refine ⟨hl, .inr ⟨b, 0, ver, _, rfl, by omega, ?_, _, h, rfl, rfl⟩⟩
  have := room_length hl hf
  rw [Nat.add_mul] at this
  rw [rd_at h rfl (by simp; omega)]
  simp [room, hl]
theorem IsCp.app {H L : Heap} {x : Value} {esz n : Nat} {vs fc : List Value} (h : IsCp H x esz n vs fc) : IsCp (H ++ L) x esz n vs fc := by
  obtain ⟨b, ver, rfl, h⟩ := h
  exact ⟨b, ver, rfl, by rw [List.getElem?_append_left (List.getElem?_eq_some_iff.1 h).1]; exact h⟩
theorem SlR.pre {H G : Heap} {x : Value} {esz n : Nat} {vs : List Value} (p : Pre H G) (h : SlR H x esz n vs) : SlR G x esz n vs := by obtain ⟨L, rfl⟩ := p; exact h.app
theorem IsCp.pre {H G : Heap} {x : Value} {esz n : Nat} {vs fc : List Value} (p : Pre H G) (h : IsCp H x esz n vs fc) : IsCp G x esz n vs fc := by obtain ⟨L, rfl⟩ := p; exact h.app
/-- Things of a kind, one behind the other. -/
def rowsC {α : Type} (f : α → List Value) : List α → List Value
  | [] => []
  | a :: r => f a ++ rowsC f r
def at0 {α : Type} [Inhabited α] (l : List α) (i : Nat) : α := l.getD i default
theorem at0_mem {α : Type} [Inhabited α] {l : List α} {i : Nat} (h : i < l.length) : at0 l i ∈ l := by
  rw [at0, List.getD_eq_getElem?_getD, List.getElem?_eq_getElem h]; exact List.getElem_mem h
theorem at0_get {α : Type} [Inhabited α] {l : List α} {i : Nat} (h : i < l.length) : l[i]? = some (at0 l i) := by
  rw [at0, List.getD_eq_getElem?_getD, List.getElem?_eq_getElem h]; rfl
theorem rows_length {α : Type} {f : α → List Value} {esz : Nat} {l : List α} (hf : ∀ a ∈ l, (f a).length = esz) : (rowsC f l).length = l.length * esz := by
  induction l with
  | nil => simp [rowsC]
  | cons a r ih =>
    have h1 := ih fun b hb => hf b (by simp [hb])
    have h2 := hf a (by simp)
    simp [rowsC, h1, h2, Nat.succ_mul]; omega
theorem rows_elem {α : Type} [Inhabited α] {f : α → List Value} {esz : Nat} {l : List α} (hf : ∀ a ∈ l, (f a).length = esz) {i : Nat} (hi : i < l.length) : elem (rowsC f l) esz i = f (at0 l i) := by
  induction l generalizing i with
  | nil => simp at hi
  | cons a r ih =>
    have h2 := hf a (by simp)
    cases i with
    | zero => simp [elem, rowsC, at0, ← h2]
    | succ i =>
      have h1 := ih (fun b hb => hf b (by simp [hb])) (i := i) (by simpa using hi)
      rw [show at0 (a :: r) (i + 1) = at0 r i by simp [at0], ← h1]
      unfold elem
      rw [Nat.succ_mul, Nat.add_comm, ← List.drop_drop, rowsC, ← h2, List.drop_left]
theorem SlR.sub {H : Heap} {x : Value} {esz n : Nat} {vs : List Value} (h : SlR H x esz n vs) {lo hi : Nat} (h1 : lo ≤ hi) (h2 : hi ≤ n) {k k' : IntKind} :
    ∃ y, slcAV H esz x (some (.int k (lo : Int))) (some (.int k' (hi : Int))) none = some y ∧ SlR H y esz (hi - lo) ((vs.drop (lo * esz)).take ((hi - lo) * esz)) := by
  have hsz := h.size
  have e1 : hi * esz ≤ n * esz := Nat.mul_le_mul_right _ h2
  have e2 : (hi - lo) * esz + lo * esz = hi * esz := by rw [← Nat.add_mul]; congr 1; omega
  have hlen : ((vs.drop (lo * esz)).take ((hi - lo) * esz)).length = (hi - lo) * esz := by simp; omega
  rcases h.is with ⟨rfl, rfl⟩ | ⟨b, off, ver, cap, rfl, g2, g3, kk, g4, g5, g6⟩
  · obtain rfl : hi = 0 := by omega
    obtain rfl : lo = 0 := by omega
    exact ⟨.slice none 0 0, by simp [slcAV, mxOf, bnds, bnd], hlen, .inl ⟨rfl, rfl⟩⟩
  · refine ⟨_, slcAV_lohi g4 g5 g6 (by omega) h1, hlen, .inr ⟨b, _, ver, _, rfl, by omega, rd_part g3 (by omega), kk, g4, g5, g6⟩⟩
theorem SlR.lo {H : Heap} {x : Value} {esz n : Nat} {vs : List Value} (h : SlR H x esz n vs) {lo : Nat} (h2 : lo ≤ n) {k' : IntKind} :
    ∃ y, slcAV H esz x (some (.int k' (lo : Int))) none none = some y ∧ SlR H y esz (n - lo) (vs.drop (lo * esz)) := by
  have hsz := h.size
  have e1 : lo * esz ≤ n * esz := Nat.mul_le_mul_right _ h2
  have hlen : (vs.drop (lo * esz)).length = (n - lo) * esz := by rw [Nat.sub_mul]; simp; omega
  rcases h.is with ⟨rfl, rfl⟩ | ⟨b, off, ver, cap, rfl, g2, g3, kk, g4, g5, g6⟩
  · obtain rfl : lo = 0 := by omega
    exact ⟨.slice none 0 0, by simp [slcAV, mxOf, bnds, bnd], hlen, .inl ⟨rfl, rfl⟩⟩
  · refine ⟨slc b (off + lo * esz) ver (n - lo) (cap - lo), ?_, hlen, .inr ⟨b, _, ver, _, rfl, by omega, ?_, kk, g4, g5, g6⟩⟩
    · rw [slcAV_get g4 g5 g6]; simp [bnds, bnd_nat h2]
    · have e2 : (n - lo) * esz + lo * esz = n * esz := by rw [← Nat.add_mul]; congr 1; omega
      rw [rd_part g3 (by omega), List.take_of_length_le (by omega)]
abbrev i8 (n : Int) : Prop := -128 ≤ n ∧ n ≤ 127
/-- A move. -/
def mvC (m : Int × Int) : List Value := [.int .i8 m.1, .int .i8 m.2]
def mvsC (l : List (Int × Int)) : List Value := rowsC mvC l
def mv (l : List (Int × Int)) (i : Nat) : Int × Int := at0 l i
theorem mvsC_length {l : List (Int × Int)} : (mvsC l).length = l.length * 2 := rows_length (f := mvC) (esz := 2) fun _ _ => rfl
theorem stc2c {v w u x : Value} : stc (agg [v, w]) 0 [u, x] = some (agg [u, x]) := by simp [stc, agg, splice]
theorem ldc2 {v w : Value} : ldc 1 false (agg [v, w]) 0 = some v := by simp [ldc]
theorem ldc2b {v w : Value} : ldc 1 false (agg [v, w]) 1 = some w := by simp [ldc]
theorem SlR.get1 {H : Heap} {x : Value} {esz n : Nat} {vs : List Value} (h : SlR H x esz n vs) {i : Nat} (hi : i < n) : ∃ b off ver, idxAV esz x (.int .i64 (i : Int)) = some (adr b off ver) ∧ rd H b off ver esz = some (elem vs esz i) := by
  rcases h.is with ⟨rfl, rfl⟩ | ⟨b, off, ver, cap, rfl, h2, h3, _⟩
  · omega
  · exact ⟨b, _, ver, by rw [idxAV_slc, at_nat hi]; rfl, rd_part h3 (mul_next hi)⟩
def chC (m : Int × Int) : List Value := [.int .i8 m.1, .int .u16 m.2]
def chsC (l : List (Int × Int)) : List Value := rowsC chC l
theorem chsC_length {l : List (Int × Int)} : (chsC l).length = l.length * 2 := rows_length (f := chC) (esz := 2) fun _ _ => rfl
theorem chsC_elem {l : List (Int × Int)} {i : Nat} (hi : i < l.length) : elem (chsC l) 2 i = chC (at0 l i) := rows_elem (f := chC) (esz := 2) (fun _ _ => rfl) hi
def chF : List Value := [.int .i8 (-101), .int .u16 60201]
theorem call529 {pu : Bool} {H : Heap} {m : Int × Int} : Call tab pu 529 [agg (chC m), agg (chC m)] H = some (.bool true, H) := by
  refine Call_wp t529 (.inr rfl) rfl ?_
  simp [c529, k529, chC, ldc2, ldc2b]
theorem s390 : tab 390 = some (.fn (eqSC 529 2)) := t390
theorem ldc5a {a b c d x : Value} : ldc 1 false (agg [a, b, c, d, x]) 0 = some a := by simp [ldc]
theorem ldc5b {a b c d x : Value} : ldc 1 false (agg [a, b, c, d, x]) 1 = some b := by simp [ldc]
theorem ldc5c {a b c d x : Value} : ldc 1 false (agg [a, b, c, d, x]) 2 = some c := by simp [ldc]
theorem ldc5d {a b c d x : Value} : ldc 1 false (agg [a, b, c, d, x]) 3 = some d := by simp [ldc]
theorem ldc5e {a b c d x : Value} : ldc 1 false (agg [a, b, c, d, x]) 4 = some x := by simp [ldc]
theorem ldc5 {a b c d x : Value} : ldc 5 true (agg [a, b, c, d, x]) 0 = some (agg [a, b, c, d, x]) := by simp [ldc]
theorem stc5 {a b c d x u v w y z : Value} : stc (agg [a, b, c, d, x]) 0 [u, v, w, y, z] = some (agg [u, v, w, y, z]) := by simp [stc, agg, splice]
theorem old0_slc {n0 b off ver len cap : Nat} : old0 n0 (slc b off ver len cap) = decide (b < n0) := Bool.true_and _
theorem call309 {pu : Bool} {a : Int} {H : Heap} : Call tab pu 309 [.int .i64 a] H = some (.bool (decide (0 ≤ a ∧ a ≤ 2)), H) := by
  refine Call_wp t309 (.inr rfl) rfl ?_
  simp [c309, k309, call304]
def howC (a : Int) : Int := nth [1, 2, 4] a.toNat
def costV (a : Int) (n : Nat) : Int := howC a + 3 * n
/-- The first place with p below n, or -1. -/
def findN (p : Nat → Bool) (n : Nat) : Int := match (List.range n).find? p with
  | some i => i
  | none => -1
abbrev u16' (n : Int) : Prop := 0 ≤ n ∧ n ≤ 65535
/-- A frame's form. -/
structure FrW (f : List Int) : Prop where
  len : f.length = 12
  ok : ∀ n ∈ f, u16' n
theorem FrW.nth {f : List Int} (h : FrW f) {i : Nat} (hi : i < 12) : u16' (nth f i) := h.ok _ (nth_mem (by rw [h.len]; exact hi))
def okRow (n : Int) : Bool := decide (n ≤ 4095)
def okF (f : List Int) : Bool := f.all okRow
def frC (f : List Int) : List Value := cs .u16 f
def bkC (b : List (List Int)) : List Value := rowsC frC b
/-- A book's form. -/
def BkW (b : List (List Int)) : Prop := ∀ f ∈ b, FrW f
def fr (b : List (List Int)) (i : Nat) : List Int := at0 b i
theorem BkW.fr {b : List (List Int)} (h : BkW b) {i : Nat} (hi : i < b.length) : FrW (fr b i) := h _ (at0_mem hi)
theorem bkC_length {b : List (List Int)} (h : BkW b) : (bkC b).length = b.length * 12 := rows_length (f := frC) (esz := 12) fun f hf => by simp [frC, (h f hf).len]
theorem bkC_elem {b : List (List Int)} (h : BkW b) {i : Nat} (hi : i < b.length) : elem (bkC b) 12 i = cs .u16 (fr b i) := rows_elem (f := frC) (esz := 12) (fun f hf => by simp [frC, (h f hf).len]) hi
/-- A book in memory. -/
abbrev Bk (H : Heap) (x : Value) (b : List (List Int)) : Prop := SlR H x 12 b.length (bkC b)
theorem Bk.get {H : Heap} {x : Value} {b : List (List Int)} (h : Bk H x b) (hw : BkW b) {i : Nat} (hi : i < b.length) : ∃ q off ver, idxAV 12 x (.int .i64 (i : Int)) = some (adr q off ver) ∧ rd H q off ver 12 = some (cs .u16 (fr b i)) := by
  obtain ⟨q, off, ver, h1, h2⟩ := SlR.get1 h hi
  rw [bkC_elem hw hi] at h2
  exact ⟨q, off, ver, h1, h2⟩
def okFs (b : List (List Int)) : Bool := b.all okF
def okB (b : List (List Int)) : Bool := okFs b && decide (b.length ≤ 40)
/-- A row told place by place. -/
def tabN (n : Nat) (g : Nat → Int) : List Int := (List.range n).map g
theorem nth_tabN {n : Nat} {g : Nat → Int} {i : Nat} (h : i < n) : nth (tabN n g) i = g i := by
  apply nth_of; simp [tabN, h]
/-- Two frames, row by row. -/
def mixF (op : Int → Int → Int) (a b : List Int) : List Int := tabN 12 fun j => op (nth a j) (nth b j)
def xorI (a b : Int) : Int := bitsOf .xor .u16 a b
def bkF : List Int := [60201, 0, 0, 0, 0, 0, 0, 0, 0, 0, 0, 0]
def allN (p : Nat → Bool) (n : Nat) : Bool := (List.range n).all p
theorem allN_true {p : Nat → Bool} {n : Nat} (h : ∀ i, i < n → p i = true) : allN p n = true := List.all_eq_true.2 fun i hi => h i (by simpa using hi)
theorem allN_false {p : Nat → Bool} {n i : Nat} (hi : i < n) (h : p i = false) : allN p n = false := List.all_eq_false.2 ⟨i, by simpa using hi, by simp [h]⟩
theorem allN_get {p : Nat → Bool} {n : Nat} (h : allN p n = true) {i : Nat} (hi : i < n) : p i = true := List.all_eq_true.1 h i (by simpa using hi)
theorem elem_take {vs : List Value} {esz hi i : Nat} (h : i < hi) : elem (vs.take (hi * esz)) esz i = elem vs esz i := by
  have := mul_next (esz := esz) h
  unfold elem
  rw [List.drop_take, List.take_take, Nat.min_eq_left (by omega)]
/-- Does a book repeat by p? -/
def perB (b : List (List Int)) (p : Nat) : Bool := allN (fun i => decide (fr b i = fr b (p + i))) (b.length - p)
def perP (b : List (List Int)) (p : Nat) : Bool := decide (1 ≤ p) && perB b p
theorem Pre.set {H G : Heap} {b : Nat} {k : Blk} (p : Pre H G) (hb : H.length ≤ b) : Pre H (G.set b k) := by
  obtain ⟨L, rfl⟩ := p
  exact ⟨L.set (b - H.length) k, by rw [List.set_append_right _ _ hb]⟩
/-- A list of a call's own that grows. -/
def Gr (H G : Heap) (x : Value) (esz n : Nat) (vs : List Value) : Prop := ∃ b ver, x = slc b 0 ver n n ∧ G[b]? = some ⟨vs, esz, ver, false⟩ ∧ H.length ≤ b ∧ vs.length = n * esz ∧ Pre H G
theorem Gr.new {H G : Heap} {esz : Nat} (p : Pre H G) : Gr H (G ++ [⟨[], esz, 0, false⟩]) (slc G.length 0 0 0 0) esz 0 [] := ⟨_, _, rfl, get_last, p.len, by simp, p.app⟩
theorem Gr.pre {H G : Heap} {x : Value} {esz n : Nat} {vs : List Value} (g : Gr H G x esz n vs) : Pre H G := by obtain ⟨b, ver, _, _, _, _, p⟩ := g; exact p
theorem Gr.app {H G L : Heap} {x : Value} {esz n : Nat} {vs : List Value} (g : Gr H G x esz n vs) : Gr H (G ++ L) x esz n vs := by
  obtain ⟨b, ver, rfl, h1, h2, h3, h4⟩ := g
  exact ⟨b, ver, rfl, by rw [List.getElem?_append_left (List.getElem?_eq_some_iff.1 h1).1]; exact h1, h2, h3, h4.app⟩
theorem Gr.sl {H G : Heap} {x : Value} {esz n : Nat} {vs : List Value} (g : Gr H G x esz n vs) : SlR G x esz n vs := by
  obtain ⟨b, ver, rfl, h1, h2, h3, h4⟩ := g
  exact ⟨h3, .inr ⟨b, 0, ver, n, rfl, Nat.le_refl _, by rw [rd_at h1 rfl (by simp [h3])]; simp [take_all (Nat.le_of_eq h3)], _, h1, rfl, rfl⟩⟩
theorem appendTo_grow {n0 : Nat} {wb : Bool} {G : Heap} {esz bytes b ver len n : Nat} {cs : List Value} {k : Blk} (h : G[b]? = some k) (hv : ver = k.ver) (hr : k.ro = false) (hm : may n0 wb b cs = true) (he : k.esz = esz) (hl : len * esz = k.cells.length) (hn : 0 < n)
    (hb : (len + n) * bytes ≤ roomMax) : appendTo n0 wb esz bytes G (slc b 0 ver len len) n cs = some (slc b 0 (ver + 1) (len + n) (len + n), G.set b { k with cells := k.cells ++ cs, ver := ver + 1 }) := by
  unfold appendTo slc
  simp only []
  rw [if_neg (by omega), h]
  simp only []
  exact if_pos ⟨hv, hr, hm, he, trivial, hl, hb⟩
theorem Gr.push {H G : Heap} {x : Value} {esz n bytes : Nat} {vs c : List Value} (g : Gr H G x esz n vs) (hc : c.length = esz) (hb : (n + 1) * bytes ≤ roomMax) {wb : Bool} :
    ∃ x' G', ((srcOf esz (G ++ [⟨c, esz, 0, false⟩]) (slc G.length 0 0 1 1)).bind fun q => appendTo H.length wb esz bytes (G ++ [⟨c, esz, 0, false⟩]) x q.1 q.2) = some (x', G') ∧ Gr H G' x' esz (n + 1) (vs ++ c) := by
  obtain ⟨b, ver, rfl, h1, h2, h3, h4⟩ := g
  have h1' : (G ++ [(⟨c, esz, 0, false⟩ : Blk)])[b]? = some ⟨vs, esz, ver, false⟩ := by rw [List.getElem?_append_left (List.getElem?_eq_some_iff.1 h1).1]; exact h1
  have e1 : srcOf esz (G ++ [⟨c, esz, 0, false⟩]) (slc G.length 0 0 1 1) = some (1, c) := by
    show (rd (G ++ [⟨c, esz, 0, false⟩]) G.length 0 0 (1 * esz)).map (fun cs => (1, cs)) = _
    rw [Nat.one_mul, rd_last rfl (by simpa using hc)]; rfl
  refine ⟨slc b 0 (ver + 1) (n + 1) (n + 1), (G ++ [(⟨c, esz, 0, false⟩ : Blk)]).set b ⟨vs ++ c, esz, ver + 1, false⟩, ?_, b, ver + 1, rfl, get_set h1', h2, by simp [h3, hc, Nat.succ_mul], (h4.app).set h2⟩
  rw [e1, Option.bind_some]
  exact appendTo_grow h1' rfl rfl (by simp [may, h2]) rfl h3.symm (by omega) hb
theorem fill_one {z : List Value} {v : Value} {esz : Nat} (hv : (cellsOf v).length = esz) (hz : z.length = esz) : fill (rep 1 z) [(0, esz, v)] = some (cellsOf v) := by
  have e1 : rep 1 z = z := by simp [rep]
  rw [e1]
  show (if (cellsOf v).length = esz ∧ 0 + esz ≤ z.length then fill (splice z 0 (cellsOf v)) [] else none) = _
  rw [if_pos ⟨hv, by omega⟩]
  have : splice z 0 (cellsOf v) = cellsOf v := by simp [splice, hv, ← hz]
  rw [this]; rfl
theorem Gr.fin {H G : Heap} {x : Value} {esz n : Nat} {vs : List Value} (g : Gr H G x esz n vs) (hn : NoRef vs) : finish H.length G [x] = (slc H.length 0 0 n n, H ++ [⟨vs, esz, 0, false⟩]) := by
  obtain ⟨b, ver, rfl, h1, h2, h3, h4⟩ := g
  exact finish_slc h4 h2 h1 rfl rfl hn.all
/- Has a frame a dot there? -/
def dotB (row : Int) (x : Nat) : Bool := decide ((row / bit x) % 2 = 1)
def hasF (f : List Int) (x y : Nat) : Bool := dotB (nth f y) x
/- The dots, one behind the other. -/
def hasK (f : List Int) (k : Nat) : Bool := hasF f (k % 12) (k / 12)
def dotL (f : List Int) (k : Nat) : List Nat := (List.range k).filter (hasK f)
def idxsV (x i : Value) : Option Value := match x with
  | .string s => (at' s.size i).map fun j => .int .u8 (s.data.toList.getD j 0).toNat
  | _ => none
theorem ev1_idxs {cl : Cl} {n0 : Nat} {wb : Bool} {e : Env} {H : Heap} {x i : Opd} : ev1 cl n0 wb e H (.idxs x i) = (idxsV (x.ev e) (i.ev e)).map (·, H) := rfl
theorem dotB_bit {n x : Nat} : dotB (n : Int) x = n.testBit x := by
  unfold dotB bit
  rw [Nat.testBit_eq_decide_div_mod_eq]
  apply decide_eq_decide.2
  have : ((n : Int) / 2 ^ x) = ((n / 2 ^ x : Nat) : Int) := by rw [Int.natCast_ediv]; simp
  rw [this]; omega
/-- How many dots. -/
def cntF (f : List Int) : Int := ((dotL f 144).length : Int)
theorem okF_row {f : List Int} (h : okF f = true) (hw : FrW f) {y : Nat} (hy : y < 12) : ∃ n : Nat, nth f y = n ∧ n < 4096 := by
  have h1 := hw.nth hy
  have h2 := List.all_eq_true.1 (show f.all okRow = true from h) _ (nth_mem (i := y) (by rw [hw.len]; exact hy))
  simp [okRow] at h2
  exact ⟨(nth f y).toNat, by omega, by omega⟩
/-- By how many dots two frames differ. -/
def difF (a b : List Int) : Int := cntF (mixF xorI a b)
abbrev Lp := Option (Nat × Nat × Int)
def stepL (b : List (List Int)) (n : Nat) (i : Nat) (o : Lp) : Lp := match o with
  | none => some (i, n, difF (fr b (i + n - 1)) (fr b i))
  | some (f, c, j) => if difF (fr b (i + n - 1)) (fr b i) < j then some (i, n, difF (fr b (i + n - 1)) (fr b i)) else some (f, c, j)
/-- A list of which one knows the block. -/
def Own (G : Heap) (r : Value) (β : Option Nat) (n0 esz n : Nat) (vs : List Value) : Prop := vs.length = n * esz ∧ match β with
  | none => r = .slice none 0 0 ∧ n = 0
  | some b => n0 ≤ b ∧ ∃ ver cap rest, r = slc b 0 ver n cap ∧ n ≤ cap ∧ G[b]? = some ⟨vs ++ rest, esz, ver, false⟩
theorem Own.sl {G : Heap} {r : Value} {β : Option Nat} {n0 esz n : Nat} {vs : List Value} (h : Own G r β n0 esz n vs) : SlR G r esz n vs := by
  obtain ⟨hl, h⟩ := h
  cases β with
  | none => exact ⟨hl, .inl h⟩
  | some b =>
    obtain ⟨_, ver, cap, rest, rfl, hc, hg⟩ := h
    exact ⟨hl, .inr ⟨b, 0, ver, cap, rfl, hc, by rw [rd_at hg rfl (by simp [hl])]; simp [← hl], _, hg, rfl, rfl⟩⟩
theorem Own.pre {G G' : Heap} {r : Value} {β : Option Nat} {n0 esz n : Nat} {vs : List Value} (p : Pre G G') (h : Own G r β n0 esz n vs) : Own G' r β n0 esz n vs := by
  obtain ⟨L, rfl⟩ := p
  obtain ⟨hl, h⟩ := h
  refine ⟨hl, ?_⟩
  cases β with
  | none => exact h
  | some b =>
    obtain ⟨hb, ver, cap, rest, rfl, hc, hg⟩ := h
    exact ⟨hb, ver, cap, rest, rfl, hc, by rw [List.getElem?_append_left (List.getElem?_eq_some_iff.1 hg).1]; exact hg⟩
theorem Own.low {G : Heap} {r : Value} {β : Option Nat} {n0 n1 esz n : Nat} {vs : List Value} (h : Own G r β n0 esz n vs) (hn : n1 ≤ n0) : Own G r β n1 esz n vs := by
  obtain ⟨hl, h⟩ := h
  refine ⟨hl, ?_⟩
  cases β with
  | none => exact h
  | some b => exact ⟨Nat.le_trans hn h.1, h.2⟩
theorem Own.lt {G : Heap} {r : Value} {b : Nat} {n0 esz n : Nat} {vs : List Value} (h : Own G r (some b) n0 esz n vs) : n0 ≤ b ∧ b < G.length := by
  obtain ⟨hl, hb, ver, cap, rest, rfl, hc, hg⟩ := h
  exact ⟨hb, (List.getElem?_eq_some_iff.1 hg).1⟩
/-- Two heaps that differ in one block at most. -/
structure SameB (G G' : Heap) (β : Option Nat) : Prop where
  len : G'.length = G.length
  get : ∀ b, β ≠ some b → G'[b]? = G[b]?
theorem SameB.refl {G : Heap} {β : Option Nat} : SameB G G β := ⟨rfl, fun _ _ => rfl⟩
theorem SameB.set {G : Heap} {b : Nat} {k : Blk} : SameB G (G.set b k) (some b) := ⟨by simp, fun b' h => by rw [List.getElem?_set_ne]; intro h2; exact h (by rw [h2])⟩
theorem pre_of_get {H G : Heap} (hl : H.length ≤ G.length) (h : ∀ i, i < H.length → G[i]? = H[i]?) : Pre H G := by
  refine ⟨G.drop H.length, ?_⟩
  have : G.take H.length = H := List.ext_getElem? fun i => by
    rcases Nat.lt_or_ge i H.length with h1 | h1
    · rw [List.getElem?_take, if_pos h1, h i h1]
    · rw [List.getElem?_eq_none (by simp; omega), List.getElem?_eq_none h1]
  conv => lhs; rw [← List.take_append_drop H.length G, this]
theorem Pre.get {H G : Heap} (p : Pre H G) {i : Nat} (hi : i < H.length) : G[i]? = H[i]? := by
  obtain ⟨L, rfl⟩ := p
  rw [List.getElem?_append_left hi]
theorem SameB.pre {H G G' : Heap} {β : Option Nat} (s : SameB G G' β) (p : Pre H G) (hb : ∀ b, β = some b → H.length ≤ b) : Pre H G' :=
  pre_of_get (by rw [s.len]; exact p.len) fun i hi => by rw [s.get i fun h => by have := hb i h; omega, p.get hi]
theorem Own.below {G : Heap} {r : Value} {β : Option Nat} {n0 esz n : Nat} {vs : List Value} (h : Own G r β n0 esz n vs) : ∀ b, β = some b → n0 ≤ b := by
  rintro b rfl; exact h.2.1
theorem set_self {G : Heap} {b : Nat} {k : Blk} (h : G[b]? = some k) : G.set b k = G := by
  apply List.ext_getElem?
  intro i
  rw [List.getElem?_set]
  split
  · rename_i h1; subst h1; rw [if_pos (List.getElem?_eq_some_iff.1 h).1, h]
  · rfl
/- Marks. -/
def mkC (ms : Nat → Value) (D : List Value) (k : Nat) : List Value := (List.range k).map ms ++ D.drop k
theorem mkC_zero {ms : Nat → Value} {D : List Value} : mkC ms D 0 = D := by simp [mkC]
theorem mkC_length {ms : Nat → Value} {D : List Value} {k : Nat} (h : k ≤ D.length) : (mkC ms D k).length = D.length := by simp [mkC]; omega
theorem mkC_step {ms : Nat → Value} {D : List Value} {k : Nat} (h : k < D.length) : splice (mkC ms D k) k [ms k] = mkC ms D (k + 1) := by
  have e1 : ((List.range k).map ms).length = k := by simp
  unfold splice mkC
  rw [List.take_append_of_le_length (by omega), List.take_of_length_le (by omega), List.drop_append, List.drop_eq_nil_of_le (by simp), List.range_succ]
  simp
def mkL (ms : Nat → Value) (m : Nat) : List Value := (List.range m).map ms
theorem mkC_all {ms : Nat → Value} {vs rest : List Value} {m : Nat} (h : vs.length = m) : mkC ms (vs ++ rest) m = mkL ms m ++ rest := by subst h; simp [mkC, mkL]
theorem mkL_length {ms : Nat → Value} {m : Nat} : (mkL ms m).length = m := by simp [mkL]
theorem mkL_cell {ms : Nat → Value} {m k : Nat} (h : k < m) : ((mkL ms m).drop k).take 1 = [ms k] := by
  rw [List.drop_eq_getElem_cons (by simpa [mkL] using h)]
  simp [mkL]
/-- What writing marks comes to. -/
def MkF (f esz w : Nat) (ms : Int → Nat → Value) : Prop := ∀ (G : Heap) (r : Value) (β : Option Nat) (n0 n : Nat) (vs : List Value) (c : Int), Own G r β n0 esz n vs → n ≤ 1000000 → 0 ≤ c → c ≤ 1000000000 →
  ∃ G', Call tab false f [r, .int .i64 c] G = some (.int .i64 (c + (n * w : Nat)), G') ∧ SameB G G' β ∧ Own G' r β n0 esz n (mkL (ms c) (n * esz))
def HdF (f esz w : Nat) (ms : Int → Nat → Value) : Prop := ∀ (pu : Bool) (G : Heap) (r : Value) (β : Option Nat) (n0 n : Nat) (c : Int), Own G r β n0 esz n (mkL (ms c) (n * esz)) → n ≤ 1000000 → 0 ≤ c → c ≤ 1000000000 →
  Call tab pu f [r, .int .i64 c] G = some (.int .i64 (c + (n * w : Nat)), G)
theorem elder_pre {H G G' : Heap} {v : Value} (p : Pre H G) (p' : Pre H G') {wb : Bool} : elder H.length wb G (v, G') = some (v, G') := elder_same (by rw [p.take, p'.take])
theorem rowsC_app {α : Type} {f : α → List Value} {a b : List α} : rowsC f (a ++ b) = rowsC f a ++ rowsC f b := by
  induction a with
  | nil => rfl
  | cons m r ih => simp only [List.cons_append, rowsC, List.append_assoc, ih]
theorem room24 {n : Nat} (h : n ≤ 1000000) : (n + 1) * 24 ≤ roomMax := by have : roomMax = 140737488355328 := rfl; omega
/-- A list that grows, in a block that one knows. -/
def GrB (H G : Heap) (b : Nat) (x : Value) (esz n : Nat) (vs : List Value) : Prop := ∃ ver, x = slc b 0 ver n n ∧ G[b]? = some ⟨vs, esz, ver, false⟩ ∧ H.length ≤ b ∧ vs.length = n * esz ∧ Pre H G
theorem GrB.push {H G : Heap} {b : Nat} {x : Value} {esz n bytes : Nat} {vs c : List Value} (g : GrB H G b x esz n vs) (hc : c.length = esz) (hb : (n + 1) * bytes ≤ roomMax) {wb : Bool} :
    ∃ x' G', ((srcOf esz (G ++ [⟨c, esz, 0, false⟩]) (slc G.length 0 0 1 1)).bind fun q => appendTo H.length wb esz bytes (G ++ [⟨c, esz, 0, false⟩]) x q.1 q.2) = some (x', G') ∧ GrB H G' b x' esz (n + 1) (vs ++ c) ∧ ∀ b', b' ≠ b → b' < G.length → G'[b']? = G[b']? := by
  obtain ⟨ver, rfl, h1, h2, h3, h4⟩ := g
  have h1' : (G ++ [(⟨c, esz, 0, false⟩ : Blk)])[b]? = some ⟨vs, esz, ver, false⟩ := by rw [List.getElem?_append_left (List.getElem?_eq_some_iff.1 h1).1]; exact h1
  have e1 : srcOf esz (G ++ [⟨c, esz, 0, false⟩]) (slc G.length 0 0 1 1) = some (1, c) := by
    show (rd (G ++ [⟨c, esz, 0, false⟩]) G.length 0 0 (1 * esz)).map (fun cs => (1, cs)) = _
    rw [Nat.one_mul, rd_last rfl (by simpa using hc)]; rfl
  refine ⟨slc b 0 (ver + 1) (n + 1) (n + 1), (G ++ [(⟨c, esz, 0, false⟩ : Blk)]).set b ⟨vs ++ c, esz, ver + 1, false⟩, ?_, ⟨ver + 1, rfl, get_set h1', h2, by simp [h3, hc, Nat.succ_mul], (h4.app).set h2⟩, fun b' hne hlt => ?_⟩
  · rw [e1, Option.bind_some]
    exact appendTo_grow h1' rfl rfl (by simp [may, h2]) rfl h3.symm (by omega) hb
  · rw [List.getElem?_set_ne (fun h => hne h.symm), List.getElem?_append_left hlt]
theorem mk_wr {n0 : Nat} {G : Heap} {b ver esz k : Nat} {ms : Nat → Value} {D : List Value} (hg : ∃ k0, G[b]? = some k0) (hk : k < D.length) (hf : old0 0 (ms k) = true) :
    wr n0 true (G.set b ⟨mkC ms D k, esz, ver, false⟩) b k ver [ms k] = some (G.set b ⟨mkC ms D (k + 1), esz, ver, false⟩) := by
  obtain ⟨k0, hk0⟩ := hg
  rw [wr_at (get_set hk0) rfl rfl (by simp [may, hf]) (by simp only [List.length_singleton]; rw [mkC_length (by omega)]; omega)]
  simp only []
  rw [mkC_step hk, set_set]
structure Sted where
  a : Int
  b : Int
  c : Int
  d : Int
  rows : List (Int × Int)
instance : Inhabited Sted := ⟨⟨0, 0, 0, 0, []⟩⟩
structure StW (s : Sted) : Prop where
  a : i8 s.a
  b : i8 s.b
  c : i8 s.c
  d : i8 s.d
  rows : ∀ m ∈ s.rows, i8 m.1 ∧ u16' m.2
/-- The cells of a step. -/
def stC (s : Sted) (y : Value) : List Value := [.int .i8 s.a, .int .i8 s.b, .int .i8 s.c, .int .i8 s.d, y]
/-- The rows of a step in memory. -/
abbrev Rw (G : Heap) (y : Value) (s : Sted) : Prop := SlR G y 2 s.rows.length (chsC s.rows)
abbrev RwC (G : Heap) (y : Value) (s : Sted) : Prop := IsCp G y 2 s.rows.length (chsC s.rows) chF
/-- Steps in memory. -/
def StS (G : Heap) (x : Value) (l : List Sted) : Prop := ∃ vs, SlR G x 5 l.length vs ∧ ∀ i, i < l.length → ∃ y, elem vs 5 i = stC (at0 l i) y ∧ Rw G y (at0 l i)
theorem StS.pre {H G : Heap} {x : Value} {l : List Sted} (p : Pre H G) (h : StS H x l) : StS G x l := by
  obtain ⟨vs, h1, h2⟩ := h
  exact ⟨vs, h1.pre p, fun i hi => by obtain ⟨y, h3, h4⟩ := h2 i hi; exact ⟨y, h3, h4.pre p⟩⟩
theorem StS.lenV {G : Heap} {x : Value} {l : List Sted} (h : StS G x l) : lenV x = some (.int .i64 l.length) := by
  obtain ⟨vs, h1, _⟩ := h; exact h1.lenV
theorem StS.get {G : Heap} {x : Value} {l : List Sted} (h : StS G x l) {i : Nat} (hi : i < l.length) : ∃ q off ver y, idxAV 5 x (.int .i64 (i : Int)) = some (adr q off ver) ∧ rd G q off ver 5 = some (stC (at0 l i) y) ∧ Rw G y (at0 l i) := by
  obtain ⟨vs, h1, h2⟩ := h
  obtain ⟨q, off, ver, h3, h4⟩ := h1.get1 hi
  obtain ⟨y, h5, h6⟩ := h2 i hi
  rw [h5] at h4
  exact ⟨q, off, ver, y, h3, h4, h6⟩
/-- A copy of steps: what stands in the block, whatever stands in that block itself. -/
structure CpI (H G : Heap) (b : Nat) (flag : Bool) (s : Sted) (y : Value) : Prop where
  r : ∀ k, Rw (G.set b k) y s
  n : y = .slice none 0 0 ∨ old0 H.length y = false
  c : flag = false → (∀ k, RwC (G.set b k) y s) ∧ old0 H.length y = false
theorem CpI.set {H G : Heap} {b : Nat} {flag : Bool} {s : Sted} {y : Value} {k : Blk} (h : CpI H G b flag s y) : CpI H (G.set b k) b flag s y := ⟨fun k' => by rw [set_set]; exact h.r k', h.n, fun hf => ⟨fun k' => by rw [set_set]; exact (h.c hf).1 k', (h.c hf).2⟩⟩
theorem set_pre {G G' : Heap} {b : Nat} {k : Blk} (p : Pre G G') (hb : b < G.length) : Pre (G.set b k) (G'.set b k) := by
  obtain ⟨L, rfl⟩ := p
  exact ⟨L, by rw [List.set_append_left _ _ hb]⟩
theorem CpI.pre {H G G' : Heap} {b : Nat} {flag : Bool} {s : Sted} {y : Value} (h : CpI H G b flag s y) (p : Pre G G') (hb : b < G.length) : CpI H G' b flag s y :=
  ⟨fun k => (h.r k).pre (set_pre p hb), h.n, fun hf => ⟨fun k => ((h.c hf).1 k).pre (set_pre p hb), (h.c hf).2⟩⟩
def stpF : Sted := ⟨-101, -101, -101, -101, [(-101, 60201)]⟩
/-- Steps copied, with room behind. -/
def CpS (G : Heap) (x : Value) (l : List Sted) : Prop := ∃ b ver vs, x = slc b 0 ver l.length (l.length + roomN l.length) ∧ G[b]? = some ⟨vs, 5, ver, false⟩ ∧ vs.length = (l.length + roomN l.length) * 5 ∧
  (∀ i, i < l.length → ∃ y, elem vs 5 i = stC (at0 l i) y ∧ RwC G y (at0 l i)) ∧ ∀ i, l.length ≤ i → i < l.length + roomN l.length → ∃ y, elem vs 5 i = stC stpF y ∧ Rw G y stpF
theorem CpS.sl {G : Heap} {x : Value} {l : List Sted} (h : CpS G x l) : StS G x l := by
  obtain ⟨b, ver, vs, rfl, hg, hl, h1, h2⟩ := h
  have e1 : l.length * 5 ≤ vs.length := by omega
  refine ⟨vs.take (l.length * 5), ⟨by simp; omega, .inr ⟨b, 0, ver, _, rfl, by omega, by rw [rd_at hg rfl (by simp; omega)]; simp, _, hg, rfl, rfl⟩⟩, fun i hi => ?_⟩
  obtain ⟨y, h3, h4⟩ := h1 i hi
  exact ⟨y, by rw [elem_take hi, h3], h4.sl chsC_length rfl⟩
theorem CpS.pre {H G : Heap} {x : Value} {l : List Sted} (p : Pre H G) (h : CpS H x l) : CpS G x l := by
  obtain ⟨b, ver, vs, rfl, hg, hl, h1, h2⟩ := h
  refine ⟨b, ver, vs, rfl, by rw [p.get (List.getElem?_eq_some_iff.1 hg).1]; exact hg, hl, fun i hi => ?_, fun i hi hi2 => ?_⟩
  · obtain ⟨y, h3, h4⟩ := h1 i hi; exact ⟨y, h3, h4.pre p⟩
  · obtain ⟨y, h3, h4⟩ := h2 i hi hi2; exact ⟨y, h3, h4.pre p⟩
theorem mem_elem {C : List Value} {esz i : Nat} {v : Value} (h : v ∈ elem C esz i) : v ∈ C := List.mem_of_mem_drop (List.mem_of_mem_take h)
/-- A call, and what holds of what it comes to. -/
theorem Call_ex {T : Tab} {pu : Bool} {f : Nat} {F : Fn} (hT : T f = some (.fn F)) (hp : pu = false ∨ F.kind = .pure) {xs : List Value} {H : Heap} {P : Value × Heap → Prop} (hn : xs.length = F.np)
    (h : WK T H.length (wbOf F.kind) F.body [] (ini xs) H fun x e' H' => (∀ i, x ≠ .exit i) ∧ ∃ r, (resVs e' H' F.res).map (finish H.length H') = some r ∧ P r) : ∃ r, Call T pu f xs H = some r ∧ P r := by
  obtain ⟨x, e', H', hr, hx, r, q, p⟩ := h
  exact ⟨r, Call_wp0 hT hp hn ⟨x, e', H', hr, hx, q⟩, p⟩
theorem eqS2_call {f eqE esz : Nat} (hf : tab f = some (.fn (eqSC eqE esz))) {pu : Bool} {H : Heap} {x y : Value} {n : Nat} {vs ws : List Value} (hx : SlR H x esz n vs) (hy : SlR H y esz n ws) (hn : n ≤ 1000000000)
    (hE : ∀ i, i < n → Call tab true eqE [agg (elem vs esz i), agg (elem ws esz i)] H = some (.bool true, H)) : Call tab pu f [x, y] H = some (.bool true, H) := by
  refine Call_wp hf (.inr rfl) rfl ?_
  simp [eqSC, eqSK, hx.lenV, hy.lenV]
  refine WP_forH 5 n n rfl (by omega) (fun i e => e 0 = x ∧ e 1 = y) ?_ ?_ (by simp) (by simp)
  · rintro i e hi hlt e4 h5 ⟨h0, h1⟩
    obtain ⟨a, ha, hl⟩ := hx.get hi
    obtain ⟨a', ha', hl'⟩ := hy.get hi
    simp [eqSB1, h5, h0, h1, hlt, hx.lenV, ha, hl, ha', hl', hE i hi, e4]
  · rintro e h5 ⟨h0, h1⟩
    simp [eqSB1, h5, h0, h1, hx.lenV]
theorem call390 {pu : Bool} {H : Heap} {y y' : Value} {s : Sted} (h : Rw H y s) (h' : Rw H y' s) (hn : s.rows.length ≤ 1000000) : Call tab pu 390 [y, y'] H = some (.bool true, H) :=
  eqS_call s390 h h' (by omega) fun i hi => by rw [chsC_elem hi]; exact call529
theorem call166 {pu : Bool} {H : Heap} {y y' : Value} {s : Sted} (h : Rw H y s) (h' : Rw H y' s) (hn : s.rows.length ≤ 1000000) : Call tab pu 166 [agg (stC s y), agg (stC s y')] H = some (.bool true, H) := by
  refine Call_wp t166 (.inr rfl) rfl ?_
  simp [c166, k166, stC, ldc5a, ldc5b, ldc5c, ldc5d, ldc5e, call390 h h' hn]
theorem s213 : tab 213 = some (.fn (eqSC 166 5)) := t213
theorem call213 {pu : Bool} {H : Heap} {x y : Value} {l : List Sted} (hx : StS H x l) (hy : StS H y l) (hn : l.length ≤ 1000000) (hr : ∀ s ∈ l, s.rows.length ≤ 1000000) : Call tab pu 213 [x, y] H = some (.bool true, H) := by
  obtain ⟨vs, h1, h2⟩ := hx
  obtain ⟨ws, h3, h4⟩ := hy
  refine eqS2_call s213 h1 h3 (by omega) fun i hi => ?_
  obtain ⟨y1, e1, r1⟩ := h2 i hi
  obtain ⟨y2, e2, r2⟩ := h4 i hi
  rw [e1, e2]
  exact call166 r1 r2 (hr _ (at0_mem hi))
def rw' (s : Sted) (j : Nat) : Int × Int := at0 s.rows j
def in1 (n lo hi : Int) : Bool := decide (lo ≤ n ∧ n ≤ hi)
def rowB (s : Sted) (j : Nat) : Bool := in1 (rw' s j).1 0 11 && in1 (rw' s j).2 1 4095 && (decide (j = 0) || decide ((rw' s (j - 1)).1 < (rw' s j).1))
def rowsB (s : Sted) : Bool := allN (rowB s) s.rows.length
def stillB (s : Sted) : Bool := (s.c == 0) && (s.d == 0)
def kindB (s : Sted) (i : Nat) : Bool :=
  if (s.a == 0) = true then (s.b == 0) && stillB s else if (s.a == 1) = true then in1 s.b 0 ((i : Int) - 1) && stillB s
  else if (s.a == 2) = true then in1 s.b 0 ((i : Int) - 1) && !stillB s && in1 s.c (-12) 12 && in1 s.d (-12) 12 else false
def okSt (s : Sted) (i : Nat) : Bool := rowsB s && kindB s i
def okSts (l : List Sted) : Bool := allN (fun i => okSt (at0 l i) i) l.length && decide (l.length ≤ 40)
theorem in295 {pu : Bool} {H : Heap} {n lo hi : Int} : Call tab pu 295 [.int .i64 n, .int .i64 lo, .int .i64 hi] H = some (.bool (in1 n lo hi), H) := call295
theorem in304 {pu : Bool} {H : Heap} {n lo hi : Int} : Call tab pu 304 [.int .i64 n, .int .i64 lo, .int .i64 hi] H = some (.bool (in1 n lo hi), H) := call304
theorem Rw.at {H : Heap} {y : Value} {s : Sted} (h : Rw H y s) {j : Nat} (hj : j < s.rows.length) : ∃ q off ver, idxAV 2 y (.int .i64 (j : Int)) = some (adr q off ver) ∧ rd H q off ver 2 = some [.int .i8 (rw' s j).1, .int .u16 (rw' s j).2] ∧
    rd H q off ver 1 = some [.int .i8 (rw' s j).1] ∧ rd H q (off + 1) ver 1 = some [.int .u16 (rw' s j).2] := by
  obtain ⟨q, off, ver, h1, h2⟩ := SlR.get1 h hj
  rw [chsC_elem hj] at h2
  have h3 := rd_part h2 (o := 0) (m := 1) (by omega)
  have h4 := rd_part h2 (o := 1) (m := 1) (by omega)
  exact ⟨q, off, ver, h1, h2, h3, h4⟩
theorem StW.row {s : Sted} (h : StW s) {j : Nat} (hj : j < s.rows.length) : i8 (rw' s j).1 ∧ u16' (rw' s j).2 := h.rows _ (at0_mem hj)
theorem call573 {pu : Bool} {H : Heap} {y : Value} {s : Sted} (h : Rw H y s) (hw : StW s) (hn : s.rows.length ≤ 1000000) : Call tab pu 573 [y] H = some (.bool (rowsB s), H) := by
  refine Call_wp t573 (.inr rfl) rfl ?_
  simp [c573, k573]
  refine WP_forH 3 s.rows.length _ rfl (by omega) (fun j e => e 0 = y ∧ ∀ i, i < j → rowB s i = true) ?_ ?_ (by simp) (by simp)
  · rintro j e hj hjj e4 h3 ⟨h0, hp⟩
    obtain ⟨q, off, ver, ha, hr, hr1, hr2⟩ := Rw.at h hj
    obtain ⟨w1, w2⟩ := hw.row hj
    have e1 : IntKind.wrap .i64 (rw' s j).1 = (rw' s j).1 := wrap64 (by omega)
    have e2 : IntKind.wrap .i64 (rw' s j).2 = (rw' s j).2 := wrap64 (by omega)
    cases b1 : in1 (rw' s j).1 0 11 with
    | false =>
      have hb : rowB s j = false := by simp [rowB, b1]
      simp [b573_1, h3, h0, hjj, SlR.lenV h, ha, hr1, e1, in304, b1, skip, rowsB, allN_false hj hb]
    | true =>
      cases b2 : in1 (rw' s j).2 1 4095 with
      | false =>
        have hb : rowB s j = false := by simp [rowB, b2]
        simp [b573_1, h3, h0, hjj, SlR.lenV h, ha, hr1, hr2, e1, e2, in304, b1, b2, skip, rowsB, allN_false hj hb]
      | true =>
        rcases Nat.eq_zero_or_pos j with h0j | h0j
        · subst h0j
          have hb : rowB s 0 = true := by simp [rowB, b1, b2]
          have ha' : idxAV 2 y (.int .i64 0) = some (adr q off ver) := ha
          have h3' : e 3 = .int .i64 0 := h3
          have hj' : (0 : Int) < s.rows.length := by omega
          have e4' : IntKind.wrap .i64 (0 + 1) = 1 := by decide
          simp [b573_1, h3', h0, hj, SlR.lenV h, ha', hr1, hr2, e1, e2, in304, b1, b2, skip, e4']
          exact hb
        · obtain ⟨q', off', ver', ha', hr', hr1', hr2'⟩ := Rw.at h (j := j - 1) (by omega)
          have c1 : IntKind.wrap .i64 ((j : Int) - 1) = ((j - 1 : Nat) : Int) := by rw [wrap64 (by omega)]; omega
          have hj0 : (0 : Int) < (j : Int) := by omega
          by_cases hlt : (rw' s (j - 1)).1 < (rw' s j).1
          · have hb : rowB s j = true := by simp [rowB, b1, b2, hlt]
            have hnle : ¬ ((rw' s j).1 ≤ (rw' s (j - 1)).1) := by omega
            simp [b573_1, h3, h0, hjj, SlR.lenV h, ha, hr1, hr2, e1, e2, in304, b1, b2, h0j, c1, ha', hr1', hnle, skip, e4]
            exact upto_succ hp hb
          · have hb : rowB s j = false := by simp [rowB, hlt]; intro _ _; omega
            have hle : (rw' s j).1 ≤ (rw' s (j - 1)).1 := by omega
            simp [b573_1, h3, h0, hjj, SlR.lenV h, ha, hr1, hr2, e1, e2, in304, b1, b2, h0j, c1, ha', hr1', hle, skip, rowsB, allN_false hj hb]
  · rintro e h3 ⟨h0, hp⟩
    simp [b573_1, h3, h0, SlR.lenV h, rowsB, allN_true hp]
theorem call572 {pu : Bool} {H : Heap} {n : Int} : Call tab pu 572 [.int .i64 n] H = some (.bool (in1 n (-12) 12), H) := by
  refine Call_wp t572 (.inr rfl) rfl ?_
  simp [c572, k572, in304]
theorem call524 {pu : Bool} {H : Heap} {q off ver : Nat} {y : Value} {s : Sted} {i : Nat} (hrd : rd H q off ver 5 = some (stC s y)) (h : Rw H y s) (hw : StW s) (hn : s.rows.length ≤ 1000000) (hi : i ≤ 1000000) : Call tab pu 524 [adr q off ver, .int .i64 i] H = some (.bool (okSt s i), H) := by
  refine Call_wp t524 (.inr rfl) rfl ?_
  have hrows := call573 (pu := true) h hw hn
  obtain ⟨wa, wb, wc, wd, _⟩ := hw
  have d0 := rd_part hrd (o := 0) (m := 1) (by omega)
  have d1 := rd_part hrd (o := 1) (m := 1) (by omega)
  have d2 := rd_part hrd (o := 2) (m := 1) (by omega)
  have d3 := rd_part hrd (o := 3) (m := 1) (by omega)
  have d4 := rd_part hrd (o := 4) (m := 1) (by omega)
  simp [stC] at d0 d1 d2 d3 d4
  have ea : IntKind.wrap .i64 s.a = s.a := wrap64 (by omega)
  have eb : IntKind.wrap .i64 s.b = s.b := wrap64 (by omega)
  have ec : IntKind.wrap .i64 s.c = s.c := wrap64 (by omega)
  have ed : IntKind.wrap .i64 s.d = s.d := wrap64 (by omega)
  have ei : IntKind.wrap .i64 ((i : Int) - 1) = (i : Int) - 1 := wrap64 (by omega)
  have h309 : ∀ (pu : Bool) (G : Heap) (n : Int), Call tab pu 309 [.int .i64 n] G = some (.bool (in1 n 0 2), G) := fun pu G n => call309
  cases hr : rowsB s with
  | false =>
    have hok : okSt s i = false := by simp [okSt, hr]
    cases b1 : in1 s.a 0 2 <;> cases b2 : in1 s.c (-12) 12 <;> cases b3 : in1 s.d (-12) 12 <;>
      simp [c524, k524, d0, d1, d2, d3, d4, ea, ec, ed, h309, b1, call572, b2, b3, hrows, hr, hok, skip]
  | true =>
    have hok : okSt s i = kindB s i := by simp [okSt, hr]
    cases b1 : in1 s.a 0 2 with
    | false =>
      have a0 : (s.a == 0) = false := by simp [in1] at b1; simp; omega
      have a1 : (s.a == 1) = false := by simp [in1] at b1; simp; omega
      have a2 : (s.a == 2) = false := by simp [in1] at b1; simp; omega
      have hk : kindB s i = false := by simp [kindB, a0, a1, a2]
      simp [c524, k524, d0, d1, d2, d3, d4, ea, ec, ed, h309, b1, hok, hk, skip]
    | true =>
      cases b2 : in1 s.c (-12) 12 with
      | false =>
        have c0 : (s.c == 0) = false := by simp [in1] at b2; simp; omega
        have hk : kindB s i = false := by
          cases a0 : (s.a == 0) <;> cases a1 : (s.a == 1) <;> cases a2 : (s.a == 2) <;> simp [kindB, stillB, a0, a1, a2, c0, b2]
        simp [c524, k524, d0, d1, d2, d3, d4, ea, ec, ed, h309, b1, call572, b2, hok, hk, skip]
      | true =>
        cases b3 : in1 s.d (-12) 12 with
        | false =>
          have c0 : (s.d == 0) = false := by simp [in1] at b3; simp; omega
          have hk : kindB s i = false := by
            cases a0 : (s.a == 0) <;> cases a1 : (s.a == 1) <;> cases a2 : (s.a == 2) <;> simp [kindB, stillB, a0, a1, a2, c0, b3]
          simp [c524, k524, d0, d1, d2, d3, d4, ea, ec, ed, h309, b1, call572, b2, b3, hok, hk, skip]
        | true =>
          have a012 : (s.a == 0) = false → (s.a == 1) = false → (s.a == 2) = true := fun h1 h2 => by simp [in1] at b1 h1 h2 ⊢; omega
          cases a0 : (s.a == 0)
          · cases a1 : (s.a == 1)
            · have a2 := a012 a0 a1
              cases c0 : (s.c == 0) <;> cases e0 : (s.d == 0) <;> cases b5 : in1 s.b 0 ((i : Int) - 1) <;>
                simp [c524, k524, d0, d1, d2, d3, d4, ea, eb, ec, ed, ei, h309, b1, call572, b2, b3, hrows, hr, hok, skip, a0, a1, a2, c0, e0, in304, b5, kindB, stillB]
            · cases c0 : (s.c == 0) <;> cases e0 : (s.d == 0) <;> cases b5 : in1 s.b 0 ((i : Int) - 1) <;>
                simp [c524, k524, d0, d1, d2, d3, d4, ea, eb, ec, ed, ei, h309, b1, call572, b2, b3, hrows, hr, hok, skip, a0, a1, c0, e0, in304, b5, kindB, stillB]
          · cases c0 : (s.c == 0) <;> cases e0 : (s.d == 0) <;> cases b0 : (s.b == 0) <;>
              simp [c524, k524, d0, d1, d2, d3, d4, ea, eb, ec, ed, ei, h309, b1, call572, b2, b3, hrows, hr, hok, skip, a0, c0, e0, b0, kindB, stillB]
structure StsW (l : List Sted) : Prop where
  w : ∀ s ∈ l, StW s
  n : l.length ≤ 1000000
  r : ∀ s ∈ l, s.rows.length ≤ 1000000
theorem call386 {pu : Bool} {H : Heap} {x : Value} {l : List Sted} (h : StS H x l) (hw : StsW l) : Call tab pu 386 [x] H = some (.bool (okSts l), H) := by
  refine Call_wp t386 (.inr rfl) rfl ?_
  have hn := hw.n
  simp [c386, k386]
  refine WP_forH 3 l.length _ rfl (by omega) (fun i e => e 0 = x ∧ ∀ j, j < i → okSt (at0 l j) j = true) ?_ ?_ (by simp) (by simp)
  · rintro i e hi hii e4 h3 ⟨h0, hp⟩
    obtain ⟨q, off, ver, y, ha, hrd, hrw⟩ := h.get hi
    have hc := call524 (pu := true) (i := i) hrd hrw (hw.w _ (at0_mem hi)) (hw.r _ (at0_mem hi)) (by omega)
    cases hk : okSt (at0 l i) i with
    | true =>
      rw [hk] at hc
      simp [b386_1, h3, h0, hii, h.lenV, ha, hc, e4]
      exact upto_succ hp hk
    | false =>
      rw [hk] at hc
      simp [b386_1, h3, h0, hii, h.lenV, ha, hc, okSts, allN_false (p := fun i => okSt (at0 l i) i) hi hk]
  · rintro e h3 ⟨h0, hp⟩
    have e1 : decide ((l.length : Int) ≤ 40) = decide (l.length ≤ 40) := by apply decide_eq_decide.2; omega
    simp [b386_1, h3, h0, h.lenV, okSts, allN_true (p := fun i => okSt (at0 l i) i) hp, e1]
theorem call387 {pu : Bool} {H : Heap} {y : Value} {s : Sted} {i : Nat} (h : Rw H y s) (hw : StW s) (hn : s.rows.length ≤ 1000000) (hi : i ≤ 1000000) : Call tab pu 387 [agg (stC s y), .int .i64 i] H = some (.bool (okSt s i), H) := by
  refine Call_wp t387 (.inr rfl) rfl ?_
  have hst : stC s y = [.int .i8 s.a, .int .i8 s.b, .int .i8 s.c, .int .i8 s.d, y] := rfl
  simp [c387, k387, hst, ldc5e, SlR.lenV h]
  refine WP_forH 12 s.rows.length _ rfl (by omega) (fun j e => e 1 = .int .i64 i ∧ e 2 = agg [.int .i8 s.a, .int .i8 s.b, .int .i8 s.c, .int .i8 s.d, y] ∧ e 10 = y ∧ e 11 = .int .i64 s.rows.length ∧ ∀ i, i < j → rowB s i = true) ?_ ?_ (by simp) (by simp)
  · rintro j e hj hjj e4 h12 ⟨h1, h2, h10, h11, hp⟩
    obtain ⟨q, off, ver, ha, hr, hr1, hr2⟩ := Rw.at h hj
    obtain ⟨w1, w2⟩ := hw.row hj
    have e1 : IntKind.wrap .i64 (rw' s j).1 = (rw' s j).1 := wrap64 (by omega)
    have e2 : IntKind.wrap .i64 (rw' s j).2 = (rw' s j).2 := wrap64 (by omega)
    cases b1 : in1 (rw' s j).1 0 11 with
    | false =>
      have hb : rowB s j = false := by simp [rowB, b1]
      simp [b387_1, h12, h1, h2, h10, h11, hjj, ha, hr, stc2c, ldc2, ldc2b, e1, in295, b1, skip, okSt, rowsB, allN_false hj hb]
    | true =>
      cases b2 : in1 (rw' s j).2 1 4095 with
      | false =>
        have hb : rowB s j = false := by simp [rowB, b2]
        simp [b387_1, h12, h1, h2, h10, h11, hjj, ha, hr, stc2c, ldc2, ldc2b, e1, e2, in295, b1, b2, skip, okSt, rowsB, allN_false hj hb]
      | true =>
        rcases Nat.eq_zero_or_pos j with h0j | h0j
        · subst h0j
          have hb : rowB s 0 = true := by simp [rowB, b1, b2]
          have ha' : idxAV 2 y (.int .i64 0) = some (adr q off ver) := ha
          have h3' : e 12 = .int .i64 0 := h12
          have e4' : IntKind.wrap .i64 (0 + 1) = 1 := by decide
          simp [b387_1, h3', h1, h2, h10, h11, hj, ha', hr, stc2c, ldc2, ldc2b, e1, e2, in295, b1, b2, skip, e4']
          exact hb
        · obtain ⟨q', off', ver', ha', hr', hr1', hr2'⟩ := Rw.at h (j := j - 1) (by omega)
          have c1 : IntKind.wrap .i64 ((j : Int) - 1) = ((j - 1 : Nat) : Int) := by rw [wrap64 (by omega)]; omega
          by_cases hlt : (rw' s (j - 1)).1 < (rw' s j).1
          · have hb : rowB s j = true := by simp [rowB, b1, b2, hlt]
            have hnle : ¬ ((rw' s j).1 ≤ (rw' s (j - 1)).1) := by omega
            simp [b387_1, h12, h1, h2, h10, h11, hjj, ha, hr, stc2c, ldc2, ldc2b, ldc5e, e1, e2, in295, b1, b2, h0j, c1, ha', hr1', hnle, skip, e4]
            exact upto_succ hp hb
          · have hb : rowB s j = false := by simp [rowB, hlt]; intro _ _; omega
            have hle : (rw' s j).1 ≤ (rw' s (j - 1)).1 := by omega
            simp [b387_1, h12, h1, h2, h10, h11, hjj, ha, hr, stc2c, ldc2, ldc2b, ldc5e, e1, e2, in295, b1, b2, h0j, c1, ha', hr1', hle, skip, okSt, rowsB, allN_false hj hb]
  · rintro e h12 ⟨h1, h2, h10, h11, hp⟩
    have hr : rowsB s = true := allN_true hp
    have hok : okSt s i = kindB s i := by simp [okSt, hr]
    obtain ⟨wa, wb, wc, wd, _⟩ := hw
    have eb : IntKind.wrap .i64 s.b = s.b := wrap64 (by omega)
    have ec : IntKind.wrap .i64 s.c = s.c := wrap64 (by omega)
    have ed : IntKind.wrap .i64 s.d = s.d := wrap64 (by omega)
    have ei : IntKind.wrap .i64 ((i : Int) - 1) = (i : Int) - 1 := wrap64 (by omega)
    have e11 : e 12 = .int .i64 s.rows.length := h12
    simp only [b387_1]
    cases a0 : (s.a == 0)
    · cases a1 : (s.a == 1)
      · cases a2 : (s.a == 2)
        · cases c0 : (s.c == 0) <;> cases e0 : (s.d == 0) <;>
            simp [e11, h1, h2, h11, ldc5a, ldc5b, ldc5c, ldc5d, eb, ec, ed, ei, hok, skip, a0, a1, a2, c0, e0, in295, kindB, stillB]
        · cases c0 : (s.c == 0) <;> cases e0 : (s.d == 0) <;> cases b5 : in1 s.b 0 ((i : Int) - 1) <;> cases b2 : in1 s.c (-12) 12 <;> cases b3 : in1 s.d (-12) 12 <;>
            simp [e11, h1, h2, h11, ldc5a, ldc5b, ldc5c, ldc5d, eb, ec, ed, ei, hok, skip, a0, a1, a2, c0, e0, b5, b2, b3, in295, kindB, stillB]
      · cases c0 : (s.c == 0) <;> cases e0 : (s.d == 0) <;> cases b5 : in1 s.b 0 ((i : Int) - 1) <;>
          simp [e11, h1, h2, h11, ldc5a, ldc5b, ldc5c, ldc5d, eb, ec, ed, ei, hok, skip, a0, a1, c0, e0, b5, in295, kindB, stillB]
    · cases c0 : (s.c == 0) <;> cases e0 : (s.d == 0) <;> cases b0 : (s.b == 0) <;>
        simp [e11, h1, h2, h11, ldc5a, ldc5b, ldc5c, ldc5d, eb, ec, ed, ei, hok, skip, a0, c0, e0, b0, in295, kindB, stillB]
theorem call163 {pu : Bool} {H : Heap} {x : Value} {l : List Sted} (h : StS H x l) (hw : StsW l) : Call tab pu 163 [x] H = some (.bool (okSts l), H) := by
  refine Call_wp t163 (.inr rfl) rfl ?_
  have hn := hw.n
  simp [c163, k163, h.lenV]
  refine WP_forH 7 l.length _ rfl (by omega) (fun i e => e 0 = x ∧ e 5 = x ∧ e 6 = .int .i64 l.length ∧ ∀ j, j < i → okSt (at0 l j) j = true) ?_ ?_ (by simp) (by simp)
  · rintro i e hi hii e4 h7 ⟨h0, h5, h6, hp⟩
    obtain ⟨q, off, ver, y, ha, hrd, hrw⟩ := h.get hi
    have hc := call387 (pu := true) (i := i) hrw (hw.w _ (at0_mem hi)) (hw.r _ (at0_mem hi)) (by omega)
    have hst : ∀ s y, stC s y = [.int .i8 s.a, .int .i8 s.b, .int .i8 s.c, .int .i8 s.d, y] := fun _ _ => rfl
    rw [hst] at hc hrd
    cases hk : okSt (at0 l i) i with
    | true =>
      rw [hk] at hc
      simp [b163_1, h7, h0, h5, h6, hii, ha, hrd, stc5, ldc5, hc, e4]
      exact upto_succ hp hk
    | false =>
      rw [hk] at hc
      simp [b163_1, h7, h0, h5, h6, hii, ha, hrd, stc5, ldc5, hc, okSts, allN_false (p := fun i => okSt (at0 l i) i) hi hk]
  · rintro e h7 ⟨h0, h5, h6, hp⟩
    have e1 : decide ((l.length : Int) ≤ 40) = decide (l.length ≤ 40) := by apply decide_eq_decide.2; omega
    simp [b163_1, h7, h0, h6, h.lenV, okSts, allN_true (p := fun i => okSt (at0 l i) i) hp, e1]
theorem okSt_a {s : Sted} {i : Nat} (h : okSt s i = true) : 0 ≤ s.a ∧ s.a ≤ 2 := by
  simp only [okSt, kindB, Bool.and_eq_true] at h
  obtain ⟨_, h⟩ := h
  by_cases h0 : (s.a == 0) = true
  · simp at h0; omega
  · rw [if_neg h0] at h
    by_cases h1 : (s.a == 1) = true
    · simp at h1; omega
    · rw [if_neg h1] at h
      by_cases h2 : (s.a == 2) = true
      · simp at h2; omega
      · rw [if_neg h2] at h; cases h
theorem okSt_b {s : Sted} {i : Nat} (h : okSt s i = true) (ha : s.a ≠ 0) : 0 ≤ s.b ∧ s.b < i := by
  simp only [okSt, kindB, Bool.and_eq_true] at h
  obtain ⟨_, h⟩ := h
  rw [if_neg (by simpa using ha)] at h
  by_cases h1 : (s.a == 1) = true
  · rw [if_pos h1] at h; simp [in1] at h; omega
  · rw [if_neg h1] at h
    by_cases h2 : (s.a == 2) = true
    · rw [if_pos h2] at h; simp [in1] at h; omega
    · rw [if_neg h2] at h; cases h
theorem okSts_get {l : List Sted} (h : okSts l = true) {i : Nat} (hi : i < l.length) : okSt (at0 l i) i = true := by
  simp only [okSts, Bool.and_eq_true] at h
  exact allN_get (p := fun i => okSt (at0 l i) i) h.1 hi
theorem okSts_len {l : List Sted} (h : okSts l = true) : l.length ≤ 40 := by
  simp only [okSts, Bool.and_eq_true, decide_eq_true_eq] at h
  exact h.2
def stCost (s : Sted) : Int := costV s.a s.rows.length
structure StsC (l : List Sted) : Prop where
  n : l.length ≤ 1000000
  a : ∀ i, i < l.length → 0 ≤ (at0 l i).a ∧ (at0 l i).a ≤ 2
  r : ∀ s ∈ l, s.rows.length ≤ 1000000
theorem StsC.of {l : List Sted} (hw : StsW l) (hk : okSts l = true) : StsC l := ⟨hw.n, fun i hi => okSt_a (okSts_get hk hi), hw.r⟩
def ms2 (c : Int) (i : Nat) : Value := if i % 2 = 0 then .int .i8 (IntKind.wrap .i8 (c + i)) else .int .u16 (IntKind.wrap .u16 (c + i))
theorem ms2_a {c : Int} {i : Nat} (h : i % 2 = 0) : ms2 c i = .int .i8 (IntKind.wrap .i8 (c + i)) := if_pos h
theorem ms2_b {c : Int} {i : Nat} (h : i % 2 ≠ 0) : ms2 c i = .int .u16 (IntKind.wrap .u16 (c + i)) := if_neg h
theorem ms2_flat {c : Int} {i : Nat} {n : Nat} : old0 n (ms2 c i) = true := by
  unfold ms2; split <;> exact old0_int
/-- A copy of steps while marks are being written over it. -/
structure MkI (G G' : Heap) (b ver lo hi n : Nat) (y : Nat → Value) (m : Nat → Nat) : Prop where
  len : G'.length = G.length
  fr : ∀ j, j < lo ∨ hi ≤ j → G'[j]? = G[j]?
  inb : lo ≤ b ∧ b < hi
  out : ∃ vs, G'[b]? = some ⟨vs, 5, ver, false⟩ ∧ n * 5 ≤ vs.length ∧ ∀ i, i < n → vs[i * 5 + 4]? = some (y i)
  row : ∀ i, i < n → ∃ b' ver' cap' ws, y i = slc b' 0 ver' (m i) cap' ∧ lo ≤ b' ∧ b' < hi ∧ b' ≠ b ∧ G'[b']? = some ⟨ws, 2, ver', false⟩ ∧ m i * 2 ≤ ws.length
theorem MkI.cell {G G' : Heap} {b ver lo hi n n0 : Nat} {y : Nat → Value} {m : Nat → Nat} (h : MkI G G' b ver lo hi n y m) {k : Nat} {v : Value} (hk : k < n * 5) (h4 : k % 5 ≠ 4) (hv : old0 0 v = true) :
    ∃ G2, wr n0 true G' b k ver [v] = some G2 ∧ MkI G G2 b ver lo hi n y m := by
  obtain ⟨vs, hg, hl, hy⟩ := h.out
  refine ⟨_, wr_at hg rfl rfl (by simp [may, hv]) (by simp; omega), by simp [h.len], fun j hj => ?_, h.inb, ⟨_, get_set hg, ?_, fun i hi => ?_⟩, fun i hi => ?_⟩
  · have := h.inb
    rw [List.getElem?_set_ne (by omega)]
    exact h.fr j hj
  · simp only []
    rw [splice_one (by omega)]
    simpa using hl
  · simp only []
    rw [splice_one (by omega), List.getElem?_set_ne (by omega)]
    exact hy i hi
  · obtain ⟨b', ver', cap', ws, h1, h2, h3, h4, h5, h6⟩ := h.row i hi
    exact ⟨b', ver', cap', ws, h1, h2, h3, h4, by rw [List.getElem?_set_ne (by omega)]; exact h5, h6⟩
theorem MkI.rows {G G' : Heap} {b ver lo hi n : Nat} {y : Nat → Value} {m : Nat → Nat} (h : MkI G G' b ver lo hi n y m) {b' ver' : Nat} {ws ws' : List Value} (hb : lo ≤ b' ∧ b' < hi) (hne : b' ≠ b) (hg : G'[b']? = some ⟨ws, 2, ver', false⟩) (hw : ws'.length = ws.length) :
    MkI G (G'.set b' ⟨ws', 2, ver', false⟩) b ver lo hi n y m := by
  refine ⟨by simp [h.len], fun j hj => ?_, h.inb, ?_, fun i hi => ?_⟩
  · rw [List.getElem?_set_ne (by omega)]
    exact h.fr j hj
  · obtain ⟨vs, h1, h2⟩ := h.out
    exact ⟨vs, by rw [List.getElem?_set_ne hne]; exact h1, h2⟩
  · obtain ⟨b2, ver2, cap2, ws2, h1, h2, h3, h4, h5, h6⟩ := h.row i hi
    by_cases hb2 : b' = b2
    · subst hb2
      rw [hg] at h5
      cases h5
      exact ⟨b', ver', cap2, ws', h1, h2, h3, h4, get_set hg, by rw [hw]; exact h6⟩
    · exact ⟨b2, ver2, cap2, ws2, h1, h2, h3, h4, by rw [List.getElem?_set_ne hb2]; exact h5, h6⟩
def mkS (m : Nat → Nat) (i : Nat) : Nat := itN (fun i v => v + 4 + m i * 2) 0 i
theorem mkS_succ {m : Nat → Nat} {i : Nat} : mkS m (i + 1) = mkS m i + 4 + m i * 2 := itN_succ
theorem elem_at {vs : List Value} {esz i o : Nat} (h : o < esz) : (elem vs esz i)[o]? = vs[i * esz + o]? := by
  unfold elem
  rw [List.getElem?_take, if_pos h, List.getElem?_drop]
theorem Own.agree {G G' : Heap} {r : Value} {β : Option Nat} {n0 esz n : Nat} {vs : List Value} (h : Own G r β n0 esz n vs) (hne : ∀ b, β = some b → G'[b]? = G[b]?) : Own G' r β n0 esz n vs := by
  obtain ⟨hl, h⟩ := h
  refine ⟨hl, ?_⟩
  cases β with
  | none => exact h
  | some b =>
    obtain ⟨hb, ver, cap, rest, rfl, hc, hg⟩ := h
    exact ⟨hb, ver, cap, rest, rfl, hc, by rw [hne b rfl]; exact hg⟩
def depV (s : Sted) (v : List Int) : Int := if s.a == 0 then 0 else nth v s.b.toNat + 1
/-- A row from its bits. -/
def rowN (q : Nat → Bool) (m : Nat) : Nat := itN (fun i v => v ||| if q i = true then 2 ^ i else 0) 0 m
theorem rowN_succ {q : Nat → Bool} {m : Nat} : rowN q (m + 1) = rowN q m ||| if q m = true then 2 ^ m else 0 := itN_succ
theorem rowN_bit {q : Nat → Bool} {m x : Nat} : (rowN q m).testBit x = (decide (x < m) && q x) := by
  induction m with
  | zero => simp [rowN, itN_zero]
  | succ m ih =>
    rw [rowN_succ, Nat.testBit_or, ih]
    by_cases h : x = m
    · subst h
      cases hq : q x <;> simp
    · have h2 : decide (x < m + 1) = decide (x < m) := by apply decide_eq_decide.2; omega
      rw [h2]
      cases hq : q m
      · simp
      · simp [Nat.testBit_two_pow]; omega
theorem rowN_lt {q : Nat → Bool} {m : Nat} : rowN q m < 2 ^ m := by
  apply Nat.lt_pow_two_of_testBit
  intro i hi
  rw [rowN_bit]
  simp; omega
theorem rowN_eq {q : Nat → Bool} {n m : Nat} (hn : n < 2 ^ m) (h : ∀ x, x < m → n.testBit x = q x) : n = rowN q m := by
  apply Nat.eq_of_testBit_eq
  intro x
  rw [rowN_bit]
  by_cases hx : x < m
  · rw [h x hx]; simp [hx]
  · simp [hx]
    exact Nat.testBit_lt_two_pow (Nat.lt_of_lt_of_le hn (Nat.pow_le_pow_right (by omega) (by omega)))
/-- A frame from its dots. -/
def dotsF (p : Nat → Nat → Bool) : List Int := tabN 12 fun y => ((rowN (fun x => p x y) 12 : Nat) : Int)
theorem dotsF_length {p : Nat → Nat → Bool} : (dotsF p).length = 12 := by simp [dotsF, tabN]
theorem dotsF_nth {p : Nat → Nat → Bool} {y : Nat} (hy : y < 12) : nth (dotsF p) y = ((rowN (fun x => p x y) 12 : Nat) : Int) := nth_tabN hy
theorem list12 {f g : List Int} (hf : f.length = 12) (hg : g.length = 12) (h : ∀ y, y < 12 → nth f y = nth g y) : f = g := by
  apply List.ext_getElem (by omega)
  intro i h1 h2
  have := h i (by omega)
  rw [nth_of (List.getElem?_eq_getElem h1), nth_of (List.getElem?_eq_getElem h2)] at this
  exact this
theorem dotsF_congr {p q : Nat → Nat → Bool} (h : ∀ x y, x < 12 → y < 12 → p x y = q x y) : dotsF p = dotsF q := by
  refine list12 dotsF_length dotsF_length fun y hy => ?_
  rw [dotsF_nth hy, dotsF_nth hy]
  congr 1
  apply rowN_eq rowN_lt
  intro x hx
  rw [rowN_bit]; simp [hx, h x y hx hy]
/-- The dots of a frame that has been moved. -/
def mvP (f : List Int) (dx dy : Int) (x y : Nat) : Bool := decide (0 ≤ (x : Int) - dx ∧ (x : Int) - dx < 12 ∧ 0 ≤ (y : Int) - dy ∧ (y : Int) - dy < 12) && hasF f ((x : Int) - dx).toNat ((y : Int) - dy).toNat
def shF (f : List Int) (dx dy : Int) : List Int := dotsF (mvP f dx dy)
def chgL (f g : List Int) (k : Nat) : List (Int × Int) := itN (fun y v => if (nth f y != nth g y) = true then v ++ [((y : Int), xorI (nth f y) (nth g y))] else v) [] k
theorem chsC_push {l : List (Int × Int)} {m : Int × Int} : chsC l ++ chC m = chsC (l ++ [m]) := by rw [chsC, chsC, rowsC_app]; simp [rowsC]
/-- A list that has grown, or is none yet. -/
def GrN (H G : Heap) (x : Value) (esz n : Nat) (vs : List Value) : Prop := Gr H G x esz n vs ∨ (x = .slice none 0 0 ∧ n = 0 ∧ vs = [] ∧ Pre H G)
theorem GrN.pre {H G : Heap} {x : Value} {esz n : Nat} {vs : List Value} (g : GrN H G x esz n vs) : Pre H G := by
  rcases g with g | ⟨_, _, _, p⟩
  · exact g.pre
  · exact p
theorem GrN.sl {H G : Heap} {x : Value} {esz n : Nat} {vs : List Value} (g : GrN H G x esz n vs) : SlR G x esz n vs := by
  rcases g with g | ⟨rfl, rfl, rfl, _⟩
  · exact g.sl
  · exact ⟨by simp, .inl ⟨rfl, rfl⟩⟩
theorem GrN.push {H G : Heap} {x : Value} {esz n bytes : Nat} {vs c : List Value} (g : GrN H G x esz n vs) (hc : c.length = esz) (hb : (n + 1) * bytes ≤ roomMax) {wb : Bool} :
    ∃ x' G', ((srcOf esz (G ++ [⟨c, esz, 0, false⟩]) (slc G.length 0 0 1 1)).bind fun q => appendTo H.length wb esz bytes (G ++ [⟨c, esz, 0, false⟩]) x q.1 q.2) = some (x', G') ∧ GrN H G' x' esz (n + 1) (vs ++ c) := by
  rcases g with g | ⟨rfl, rfl, rfl, p⟩
  · obtain ⟨x', G', h1, h2⟩ := g.push hc hb (wb := wb)
    exact ⟨x', G', h1, .inl h2⟩
  · have e1 : srcOf esz (G ++ [⟨c, esz, 0, false⟩]) (slc G.length 0 0 1 1) = some (1, c) := by
      show (rd (G ++ [⟨c, esz, 0, false⟩]) G.length 0 0 (1 * esz)).map (fun cs => (1, cs)) = _
      rw [Nat.one_mul, rd_last rfl (by simpa using hc)]; rfl
    refine ⟨slc (G ++ [(⟨c, esz, 0, false⟩ : Blk)]).length 0 0 1 1, G ++ [(⟨c, esz, 0, false⟩ : Blk)] ++ [⟨c, esz, 0, false⟩], ?_, .inl ⟨_, 0, rfl, get_last, ?_, by simp [hc], (p.app).app⟩⟩
    · rw [e1, Option.bind_some]
      unfold appendTo
      simp only []
      rw [if_neg (by decide), if_pos (by simpa using hb)]
    · have := p.len
      simp; omega
/-- The better of a step and a slide. -/
def stepB (f g : List Int) (base : Int) (s : Sted) (dx dy : Int) : Sted :=
  if (dx == 0 && dy == 0) = true then s else if 4 + 3 * ((chgL (shF f dx dy) g 12).length : Int) < stCost s then ⟨2, base, dx, dy, chgL (shF f dx dy) g 12⟩ else s
def inB (f g : List Int) (base dx : Int) (s : Sted) (k : Nat) : Sted := itN (fun j s => stepB f g base s dx ((j : Int) - 12)) s k
def outB (f g : List Int) (base : Int) (k : Nat) : Sted := itN (fun i s => inB f g base ((i : Int) - 12) s 25) ⟨1, base, 0, 0, chgL f g 12⟩ k
/-- A step in a block of its own. -/
structure StO (H G : Heap) (P : Nat) (s : Sted) (y : Value) : Prop where
  pre : Pre H G
  ge : H.length ≤ P
  blk : G[P]? = some ⟨stC s y, 1, 0, false⟩
  row : ∃ b, y = slc b 0 0 s.rows.length s.rows.length ∧ H.length ≤ b ∧ b ≠ P ∧ G[b]? = some ⟨chsC s.rows, 2, 0, false⟩
theorem StO.rw {H G : Heap} {P : Nat} {s : Sted} {y : Value} (h : StO H G P s y) : Rw G y s := by
  obtain ⟨b, rfl, _, _, hg⟩ := h.row
  exact ⟨chsC_length, .inr ⟨b, 0, 0, _, rfl, Nat.le_refl _, by rw [rd_at hg rfl (by simp only []; rw [chsC_length]; omega)]; simp only [List.drop_zero]; rw [List.take_of_length_le (by rw [chsC_length]; exact Nat.le_refl _)], _, hg, rfl, rfl⟩⟩
theorem StO.rd {H G : Heap} {P : Nat} {s : Sted} {y : Value} (h : StO H G P s y) : rd G P 0 0 5 = some (stC s y) := by
  rw [rd_at h.blk rfl (by simp [stC])]; rfl
theorem StO.app {H G G' : Heap} {P : Nat} {s : Sted} {y : Value} (p : Pre G G') (h : StO H G P s y) : StO H G' P s y := by
  refine ⟨h.pre.trans p, h.ge, by rw [p.get (List.getElem?_eq_some_iff.1 h.blk).1]; exact h.blk, ?_⟩
  obtain ⟨b, e, h1, h2, h3⟩ := h.row
  exact ⟨b, e, h1, h2, by rw [p.get (List.getElem?_eq_some_iff.1 h3).1]; exact h3⟩
theorem GrN.app {H G G' : Heap} {x : Value} {esz n : Nat} {vs : List Value} (g : GrN H G x esz n vs) (p : Pre G G') : GrN H G' x esz n vs := by
  rcases g with g | ⟨e1, e2, e3, q⟩
  · obtain ⟨L, rfl⟩ := p
    exact .inl g.app
  · exact .inr ⟨e1, e2, e3, q.trans p⟩
theorem GrN.low {H G G' : Heap} {x : Value} {esz n : Nat} {vs : List Value} (g : GrN G G' x esz n vs) (p : Pre H G) : GrN H G' x esz n vs := by
  rcases g with ⟨b, ver, e1, e2, e3, e4, q⟩ | ⟨e1, e2, e3, q⟩
  · exact .inl ⟨b, ver, e1, e2, Nat.le_trans p.len e3, e4, p.trans q⟩
  · exact .inr ⟨e1, e2, e3, p.trans q⟩
theorem mk391 : MkF 391 2 2 ms2 := by
  intro G r β n0 n vs c ho hn hc0 hc1
  cases β with
  | none =>
    obtain ⟨hl, rfl, rfl⟩ := ho
    refine ⟨G, Call_wp t391 (.inl rfl) rfl ?_, .refl, by simp [mkL], rfl, rfl⟩
    simp [c391, k391]
    refine WP_forH 5 0 0 rfl (by omega) (fun i e => e 0 = .slice none 0 0 ∧ e 1 = .int .i64 c) ?_ ?_ (by simp) (by simp)
    · intro i e hi; omega
    · rintro e h5 ⟨h0, h1⟩
      simp [b391_1, h5, h0, h1]
  | some b =>
    obtain ⟨hl, hb, ver, cap, rest, rfl, hcap, hg⟩ := ho
    have hD : n * 2 ≤ (vs ++ rest).length := by simp [hl]
    refine ⟨G.set b ⟨mkL (ms2 c) (n * 2) ++ rest, 2, ver, false⟩, Call_wp t391 (.inl rfl) rfl ?_, .set, mkL_length, hb, ver, cap, rest, rfl, hcap, get_set hg⟩
    simp [c391, k391]
    refine WP_count 5 n n rfl (fun i e G' => e 0 = slc b 0 ver n cap ∧ e 1 = .int .i64 (c + (i * 2 : Nat)) ∧ G' = G.set b ⟨mkC (ms2 c) (vs ++ rest) (i * 2), 2, ver, false⟩) (by omega) ?_ ?_ (by simp) ⟨by simp, by simp, by rw [Nat.zero_mul, mkC_zero]; exact (set_self hg).symm⟩
    · rintro i e _ _ hi hii e4 h5 ⟨h0, h1, rfl⟩
      have q0 := mk_wr (n0 := G.length) (ver := ver) (esz := 2) (k := i * 2) (ms := ms2 c) (D := vs ++ rest) ⟨_, hg⟩ (by omega) ms2_flat
      have q1 := mk_wr (n0 := G.length) (ver := ver) (esz := 2) (k := i * 2 + 1) (ms := ms2 c) (D := vs ++ rest) ⟨_, hg⟩ (by omega) ms2_flat
      rw [ms2_a (by omega)] at q0
      rw [ms2_b (by omega)] at q1
      have w1 : IntKind.wrap .i64 (c + (i * 2 : Nat) + 1) = c + (i * 2 + 1 : Nat) := by rw [wrap64 (by omega)]; omega
      have w2 : IntKind.wrap .i64 (c + (i * 2 + 1 : Nat) + 1) = c + ((i + 1) * 2 : Nat) := by rw [wrap64 (by omega)]; omega
      have e6 : (i + 1) * 2 = i * 2 + 1 + 1 := by omega
      simp (disch := decide) [b391_1, h5, h0, h1, hii, at_nat hi, q0, q1, wbOf, w1, w2, e4, e6, -Int.natCast_add, -Int.natCast_mul]
    · rintro e _ _ h5 ⟨h0, h1, rfl⟩
      simp [b391_1, h5, h0, h1, mkC_all hl]
theorem held392 : HdF 392 2 2 ms2 := by
  intro pu G r β n0 n c ho hn hc0 hc1
  have hs := ho.sl
  refine Call_wp t392 (.inr rfl) rfl ?_
  simp [c392, k392]
  refine WP_forH 5 n n rfl (by omega) (fun i e => e 0 = r ∧ e 1 = .int .i64 (c + (i * 2 : Nat))) ?_ ?_ (by simp) (by simp)
  · rintro i e hi hii e4 h5 ⟨h0, h1⟩
    obtain ⟨q, off, ver, ha, hr⟩ := hs.get1 hi
    have hd : ∀ o, o < 2 → rd G q (off + o) ver 1 = some [ms2 c (i * 2 + o)] := fun o ho => by
      rw [rd_part hr (by omega)]
      unfold elem
      rw [List.drop_take, List.take_take, List.drop_drop, Nat.min_eq_left (by omega), mkL_cell (by omega)]
    have d0 := hd 0 (by omega)
    have d1 := hd 1 (by omega)
    rw [ms2_a (by omega)] at d0
    rw [ms2_b (by omega)] at d1
    rw [Nat.add_zero, Nat.add_zero] at d0
    have w1 : IntKind.wrap .i64 (c + (i * 2 : Nat) + 1) = c + (i * 2 + 1 : Nat) := by rw [wrap64 (by omega)]; omega
    have w2 : IntKind.wrap .i64 (c + (i * 2 + 1 : Nat) + 1) = c + ((i + 1) * 2 : Nat) := by rw [wrap64 (by omega)]; omega
    simp (disch := decide) [b392_1, h5, h0, h1, hs.lenV, hii, ha, d0, d1, w1, w2, e4, -Int.natCast_add, -Int.natCast_mul]
  · rintro e h5 ⟨h0, h1⟩
    simp [b392_1, h5, h0, hs.lenV, h1]
/-- The better of a step and the cheapest step from a page. -/
def pickB (b : List (List Int)) (k : Nat) (p : Nat → Bool) (j : Nat) (s : Sted) : Sted :=
  if p j = true then if stCost (outB (fr b j) (fr b k) j 25) < stCost s then outB (fr b j) (fr b k) j 25 else s else s
def bestS (b : List (List Int)) (k : Nat) (p : Nat → Bool) (i : Nat) : Sted := itN (fun j s => pickB b k p j s) ⟨0, 0, 0, 0, chgL (zr 12 0) (fr b k) 12⟩ i
structure StP (H G : Heap) (P : Nat) (s : Sted) (y : Value) : Prop where
  ge : H.length ≤ P
  blk : G[P]? = some ⟨stC s y, 1, 0, false⟩
  row : GrN H G y 2 s.rows.length (chsC s.rows)
theorem StP.rd {H G : Heap} {P : Nat} {s : Sted} {y : Value} (h : StP H G P s y) : rd G P 0 0 5 = some (stC s y) := by
  rw [rd_at h.blk rfl (by simp [stC])]; rfl
theorem StP.app {H G G' : Heap} {P : Nat} {s : Sted} {y : Value} (p : Pre G G') (h : StP H G P s y) : StP H G' P s y :=
  ⟨h.ge, by rw [p.get (List.getElem?_eq_some_iff.1 h.blk).1]; exact h.blk, h.row.app p⟩
theorem GrN.set {H G : Heap} {y : Value} {n P : Nat} {vs : List Value} {k k' : Blk} (g : GrN H G y 2 n vs) (ge : H.length ≤ P) (hP : G[P]? = some k) (hk : k.esz = 1) : GrN H (G.set P k') y 2 n vs := by
  rcases g with ⟨b, ver, e1, e2, e3, e4, q⟩ | ⟨e1, e2, e3, q⟩
  · have hne : P ≠ b := by
      rintro rfl
      rw [hP] at e2
      cases e2
      cases hk
    exact .inl ⟨b, ver, e1, by rw [List.getElem?_set_ne hne]; exact e2, e3, e4, q.set ge⟩
  · exact .inr ⟨e1, e2, e3, q.set ge⟩
/-- A list of steps that grows: the rows stand in blocks of their own. -/
def GrS (H G : Heap) (x : Value) (l : List Sted) : Prop := ∃ b ver vs, x = slc b 0 ver l.length l.length ∧ G[b]? = some ⟨vs, 5, ver, false⟩ ∧ H.length ≤ b ∧ vs.length = l.length * 5 ∧ Pre H G ∧
  ∀ i, i < l.length → ∃ y, elem vs 5 i = stC (at0 l i) y ∧ GrN H G y 2 (at0 l i).rows.length (chsC (at0 l i).rows)
theorem GrN.put {H G : Heap} {y : Value} {n P : Nat} {vs : List Value} {k k' : Blk} (g : GrN H G y 2 n vs) (ge : H.length ≤ P) (hP : G[P]? = some k) (hk : k.esz ≠ 2) : GrN H (G.set P k') y 2 n vs := by
  rcases g with ⟨b, ver, e1, e2, e3, e4, q⟩ | ⟨e1, e2, e3, q⟩
  · have hne : P ≠ b := by
      rintro rfl
      rw [hP] at e2
      cases e2
      exact hk rfl
    exact .inl ⟨b, ver, e1, by rw [List.getElem?_set_ne hne]; exact e2, e3, e4, q.set ge⟩
  · exact .inr ⟨e1, e2, e3, q.set ge⟩
theorem GrS.new {H G : Heap} (p : Pre H G) : GrS H (G ++ [⟨[], 5, 0, false⟩]) (slc G.length 0 0 0 0) [] := ⟨_, _, _, rfl, get_last, p.len, by simp, p.app, fun i hi => by simp at hi⟩
theorem GrS.pre {H G : Heap} {x : Value} {l : List Sted} (g : GrS H G x l) : Pre H G := by obtain ⟨_, _, _, _, _, _, _, p, _⟩ := g; exact p
theorem at0_app {α : Type} [Inhabited α] {l : List α} {a : α} {i : Nat} : at0 (l ++ [a]) i = if i < l.length then at0 l i else if i = l.length then a else default := by
  unfold at0
  by_cases h : i < l.length
  · rw [if_pos h]; simp [List.getD_eq_getElem?_getD, List.getElem?_append_left h]
  · rw [if_neg h]
    by_cases h2 : i = l.length
    · rw [if_pos h2]; subst h2; simp [List.getD_eq_getElem?_getD]
    · rw [if_neg h2, List.getD_eq_getElem?_getD, List.getElem?_eq_none (by simp; omega)]; rfl
theorem GrS.push {H G : Heap} {x : Value} {l : List Sted} {s : Sted} {y : Value} (g : GrS H G x l) (hy : GrN H G y 2 s.rows.length (chsC s.rows)) (hb : (l.length + 1) * 32 ≤ roomMax) {wb : Bool} :
    ∃ x' G', ((srcOf 5 (G ++ [⟨stC s y, 5, 0, false⟩]) (slc G.length 0 0 1 1)).bind fun q => appendTo H.length wb 5 32 (G ++ [⟨stC s y, 5, 0, false⟩]) x q.1 q.2) = some (x', G') ∧ GrS H G' x' (l ++ [s]) ∧ ∀ (b' : Nat) (k : Blk), G[b']? = some k → k.esz ≠ 5 → G'[b']? = some k := by
  obtain ⟨b, ver, vs, rfl, h1, h2, h3, h4, h5⟩ := g
  obtain ⟨G1, hG1⟩ : ∃ G1, G1 = G ++ [(⟨stC s y, 5, 0, false⟩ : Blk)] := ⟨_, rfl⟩
  have p1 : Pre G G1 := by rw [hG1]; exact Pre.one
  have h1' : G1[b]? = some ⟨vs, 5, ver, false⟩ := by rw [p1.get (List.getElem?_eq_some_iff.1 h1).1]; exact h1
  have e1 : srcOf 5 G1 (slc G.length 0 0 1 1) = some (1, stC s y) := by
    show (rd G1 G.length 0 0 (1 * 5)).map (fun cs => (1, cs)) = _
    rw [Nat.one_mul, hG1, rd_last rfl (by simp [stC])]; rfl
  rw [← hG1]
  have hl : (stC s y).length = 5 := rfl
  refine ⟨slc b 0 (ver + 1) (l.length + 1) (l.length + 1), G1.set b ⟨vs ++ stC s y, 5, ver + 1, false⟩, ?_, ⟨b, ver + 1, vs ++ stC s y, by simp, get_set h1', h2, by simp [h3, hl]; omega, (h4.trans p1).set h2, fun i hi => ?_⟩, fun b' k hk he => ?_⟩
  · rw [e1, Option.bind_some]
    exact appendTo_grow h1' rfl rfl (by simp [may, h2]) rfl h3.symm (by omega) hb
  · rw [at0_app]
    by_cases hil : i < l.length
    · rw [if_pos hil]
      obtain ⟨y', e2, e3⟩ := h5 i hil
      have hm := mul_next (esz := 5) hil
      refine ⟨y', ?_, (e3.app p1).put h2 h1' (by simp)⟩
      rw [← e2]
      unfold elem
      rw [List.drop_append_of_le_length (by omega), List.take_append_of_le_length (by simp; omega)]
    · have hie : i = l.length := by simp at hi; omega
      rw [if_neg hil, if_pos hie]
      subst hie
      refine ⟨y, ?_, (hy.app p1).put h2 h1' (by simp)⟩
      unfold elem
      rw [← h3, List.drop_left, List.take_of_length_le (by rw [hl]; omega)]
  · have hne : b ≠ b' := by
      rintro rfl
      rw [h1] at hk
      cases hk
      exact he rfl
    rw [List.getElem?_set_ne hne, p1.get (List.getElem?_eq_some_iff.1 hk).1]
    exact hk
/-- The steps and the depths, page by page. -/
def encP (b : List (List Int)) (lim : Int) (i : Nat) : List Sted × List Int :=
  itN (fun i q => let s := bestS b i (fun j => !decide (lim ≤ nth q.2 j)) i; (q.1 ++ [s], q.2 ++ [depV s q.2])) ([], []) i
/-- Only blocks of one kind have changed. -/
def KeepE (e : Nat) (G G' : Heap) : Prop := ∀ (b : Nat) (k : Blk), G[b]? = some k → k.esz ≠ e → G'[b]? = some k
theorem KeepE.pre {e : Nat} {G G' : Heap} (p : Pre G G') : KeepE e G G' := fun b k h _ => by rw [p.get (List.getElem?_eq_some_iff.1 h).1]; exact h
theorem KeepE.trans {e : Nat} {A B C : Heap} (h : KeepE e A B) (h' : KeepE e B C) : KeepE e A C := fun b k q n => h' b k (h b k q n) n
theorem GrN.keep {e : Nat} {H G G' : Heap} {y : Value} {n : Nat} {vs : List Value} (g : GrN H G y 2 n vs) (k : KeepE e G G') (he : e ≠ 2) (p : Pre H G') : GrN H G' y 2 n vs := by
  rcases g with ⟨b, ver, e1, e2, e3, e4, _⟩ | ⟨e1, e2, e3, _⟩
  · exact .inl ⟨b, ver, e1, k _ _ e2 (by simp only []; omega), e3, e4, p⟩
  · exact .inr ⟨e1, e2, e3, p⟩
theorem GrS.keep {e : Nat} {H G G' : Heap} {x : Value} {l : List Sted} (g : GrS H G x l) (k : KeepE e G G') (he : e ≠ 2) (he5 : e ≠ 5) (p : Pre H G') : GrS H G' x l := by
  obtain ⟨b, ver, vs, e1, h1, h2, h3, _, h5⟩ := g
  refine ⟨b, ver, vs, e1, k _ _ h1 (by simp only []; omega), h2, h3, p, fun i hi => ?_⟩
  obtain ⟨y, e2, e3⟩ := h5 i hi
  exact ⟨y, e2, e3.keep k he p⟩
theorem Gr.keep {e esz : Nat} {H G G' : Heap} {x : Value} {n : Nat} {vs : List Value} (g : Gr H G x esz n vs) (k : KeepE e G G') (he : e ≠ esz) (p : Pre H G') : Gr H G' x esz n vs := by
  obtain ⟨b, ver, e1, h1, h2, h3, _⟩ := g
  exact ⟨b, ver, e1, k _ _ h1 (by simp only []; omega), h2, h3, p⟩
theorem GrS.sts {H G : Heap} {x : Value} {l : List Sted} (g : GrS H G x l) : StS G x l := by
  obtain ⟨b, ver, vs, rfl, h1, h2, h3, h4, h5⟩ := g
  refine ⟨vs, ⟨h3, .inr ⟨b, 0, ver, _, rfl, Nat.le_refl _, by rw [rd_at h1 rfl (by simp only []; omega)]; simp only [List.drop_zero]; rw [List.take_of_length_le (by omega)], _, h1, rfl, rfl⟩⟩, fun i hi => ?_⟩
  obtain ⟨y, e2, e3⟩ := h5 i hi
  exact ⟨y, e2, e3.sl⟩
@[simp] theorem blkOf_adr {b o v : Nat} : blkOf (adr b o v) = some b := rfl
@[simp] theorem blkOf_slc {b o v n c : Nat} : blkOf (slc b o v n c) = some b := rfl
@[simp] theorem blkOf_nil {n c : Nat} : blkOf (.slice none n c) = none := rfl
/-- A piece appended to a list of a call's own. -/
theorem push_at {n0 b ver n esz bytes : Nat} {G : Heap} {vs c : List Value} {wb : Bool} (hg : G[b]? = some ⟨vs, esz, ver, false⟩) (hb : n0 ≤ b) (hl : vs.length = n * esz) (hc : c.length = esz) (hr : (n + 1) * bytes ≤ roomMax) :
    ((srcOf esz (G ++ [⟨c, esz, 0, false⟩]) (slc G.length 0 0 1 1)).bind fun q => appendTo n0 wb esz bytes (G ++ [⟨c, esz, 0, false⟩]) (slc b 0 ver n n) q.1 q.2) =
      some (slc b 0 (ver + 1) (n + 1) (n + 1), (G ++ [(⟨c, esz, 0, false⟩ : Blk)]).set b ⟨vs ++ c, esz, ver + 1, false⟩) := by
  have h1' : (G ++ [(⟨c, esz, 0, false⟩ : Blk)])[b]? = some ⟨vs, esz, ver, false⟩ := by rw [List.getElem?_append_left (List.getElem?_eq_some_iff.1 hg).1]; exact hg
  have e1 : srcOf esz (G ++ [⟨c, esz, 0, false⟩]) (slc G.length 0 0 1 1) = some (1, c) := by
    show (rd (G ++ [⟨c, esz, 0, false⟩]) G.length 0 0 (1 * esz)).map (fun cs => (1, cs)) = _
    rw [Nat.one_mul, rd_last rfl (by simpa using hc)]; rfl
  rw [e1, Option.bind_some]
  exact appendTo_grow h1' rfl rfl (by simp [may, hb]) rfl hl.symm (by omega) hr
theorem push_get {b b' : Nat} {G : Heap} {k k' : Blk} (hb : b' ≠ b) (hl : b' < G.length) : ((G ++ [k']).set b k)[b']? = G[b']? := by
  rw [List.getElem?_set_ne (Ne.symm hb), List.getElem?_append_left hl]
theorem push_self {b : Nat} {G : Heap} {k k' : Blk} (hl : b < G.length) : ((G ++ [k']).set b k)[b]? = some k := by
  rw [List.getElem?_set_self (by simp; omega)]
theorem push_pre {H G : Heap} {b : Nat} {k k' : Blk} (p : Pre H G) (hb : H.length ≤ b) : Pre H ((G ++ [k']).set b k) := (p.app).set hb
theorem GrN.ownC {H G : Heap} {x : Value} {esz n : Nat} {vs : List Value} (g : GrN H G x esz n vs) : Own G x (blkOf x) H.length esz n vs := by
  rcases g with ⟨b, ver, rfl, h1, h2, h3, _⟩ | ⟨rfl, rfl, rfl, _⟩
  · exact ⟨h3, h2, ver, n, [], rfl, Nat.le_refl _, by rw [List.append_nil]; exact h1⟩
  · exact ⟨by simp, rfl, rfl⟩
/-- Cells of records of five, the last of which leads to rows of its own. -/
structure RawD (n0 : Nat) (G : Heap) (b ver n : Nat) (ys : Nat → Value) (β : Nat → Option Nat) (hd : Nat → List Value) (m : Nat → Nat) (rc : Nat → List Value) : Prop where
  lo : n0 ≤ b
  out : ∃ vs, G[b]? = some ⟨vs, 5, ver, false⟩ ∧ vs.length = n * 5 ∧ ∀ i, i < n → elem vs 5 i = hd i ++ [ys i]
  hl : ∀ i, i < n → (hd i).length = 4
  row : ∀ i, i < n → Own G (ys i) (β i) n0 2 (m i) (rc i)
  dis : ∀ i j q, i < n → j < n → β i = some q → β j = some q → i = j
theorem RawD.lt {n0 b ver n : Nat} {G : Heap} {ys : Nat → Value} {β : Nat → Option Nat} {hd rc : Nat → List Value} {m : Nat → Nat} (h : RawD n0 G b ver n ys β hd m rc) : b < G.length := by
  obtain ⟨vs, hg, _⟩ := h.out
  exact (List.getElem?_eq_some_iff.1 hg).1
theorem RawD.ne {n0 b ver n : Nat} {G : Heap} {ys : Nat → Value} {β : Nat → Option Nat} {hd rc : Nat → List Value} {m : Nat → Nat} (h : RawD n0 G b ver n ys β hd m rc) {i q : Nat} (hi : i < n) (hq : β i = some q) : q ≠ b := by
  rintro rfl
  obtain ⟨vs, hg, _⟩ := h.out
  obtain ⟨_, h2⟩ := h.row i hi
  rw [hq] at h2
  obtain ⟨_, ver', cap, rest, _, _, hg'⟩ := h2
  rw [hg] at hg'
  cases hg'
/-- What keeps the blocks keeps the list. -/
theorem RawD.keep {n0 b ver n : Nat} {G G' : Heap} {ys : Nat → Value} {β : Nat → Option Nat} {hd rc : Nat → List Value} {m : Nat → Nat} (h : RawD n0 G b ver n ys β hd m rc)
    (k : ∀ (b' : Nat) (k : Blk), G[b']? = some k → k.esz ≠ 1 → G'[b']? = some k) : RawD n0 G' b ver n ys β hd m rc := by
  refine ⟨h.lo, ?_, h.hl, fun i hi => ?_, h.dis⟩
  · obtain ⟨vs, hg, h2⟩ := h.out
    exact ⟨vs, k _ _ hg (by simp), h2⟩
  · obtain ⟨h1, h2⟩ := h.row i hi
    refine ⟨h1, ?_⟩
    cases hb : β i with
    | none => rw [hb] at h2; exact h2
    | some q =>
      rw [hb] at h2
      obtain ⟨hb, ver', cap, rest, e1, hc, hg⟩ := h2
      exact ⟨hb, ver', cap, rest, e1, hc, k _ _ hg (by simp)⟩
theorem RawD.pre {n0 b ver n : Nat} {G G' : Heap} {ys : Nat → Value} {β : Nat → Option Nat} {hd rc : Nat → List Value} {m : Nat → Nat} (p : Pre G G') (h : RawD n0 G b ver n ys β hd m rc) : RawD n0 G' b ver n ys β hd m rc :=
  h.keep fun b' k hk _ => by rw [p.get (List.getElem?_eq_some_iff.1 hk).1]; exact hk
theorem RawD.low {n0 n1 b ver n : Nat} {G : Heap} {ys : Nat → Value} {β : Nat → Option Nat} {hd rc : Nat → List Value} {m : Nat → Nat} (h : RawD n0 G b ver n ys β hd m rc) (hn : n1 ≤ n0) : RawD n1 G b ver n ys β hd m rc :=
  ⟨Nat.le_trans hn h.lo, h.out, h.hl, fun i hi => (h.row i hi).low hn, h.dis⟩
theorem elem_set {vs : List Value} {esz i o j : Nat} {v : Value} (ho : o < esz) : elem (vs.set (i * esz + o) v) esz j = if j = i then (elem vs esz i).set o v else elem vs esz j := by
  unfold elem
  rw [List.drop_set]
  by_cases h : j = i
  · subst h
    rw [if_pos rfl, if_neg (by omega), List.take_set, show j * esz + o - j * esz = o by omega]
  · rw [if_neg h]
    rcases Nat.lt_or_ge i j with h1 | h1
    · have := mul_next (esz := esz) h1
      rw [if_pos (by omega)]
    · have := mul_next (esz := esz) (show j < i by omega)
      rw [if_neg (by omega), List.take_set, List.set_eq_of_length_le]
      rw [List.length_take]; omega
theorem RawD.cell {n0 b ver n n1 : Nat} {G : Heap} {ys : Nat → Value} {β : Nat → Option Nat} {hd rc : Nat → List Value} {m : Nat → Nat} (h : RawD n0 G b ver n ys β hd m rc) {i o : Nat} {v : Value} (hi : i < n) (ho : o < 4) (hv : old0 0 v = true) :
    ∃ G', wr n1 true G b (i * 5 + o) ver [v] = some G' ∧ SameB G G' (some b) ∧ RawD n0 G' b ver n ys β (fun j => if j = i then (hd i).set o v else hd j) m rc := by
  obtain ⟨vs, hg, hl, he⟩ := h.out
  have hm := mul_next (esz := 5) hi
  refine ⟨_, wr_at hg rfl rfl (by simp [may, hv]) (by simp; omega), .set, h.lo, ⟨_, get_set hg, ?_, fun j hj => ?_⟩, fun j hj => ?_, fun j hj => ?_, h.dis⟩
  · simp only []
    rw [splice_one (by omega)]; simpa using hl
  · simp only []
    rw [splice_one (by omega), elem_set (by omega), he i hi, he j hj, List.set_append_left _ _ (by rw [h.hl i hi]; exact ho)]
    by_cases hji : j = i
    · subst hji; rw [if_pos rfl, if_pos rfl]
    · rw [if_neg hji, if_neg hji]
  · split
    · rw [List.length_set]; exact h.hl i hi
    · exact h.hl j hj
  · exact (h.row j hj).agree fun q hq => by rw [List.getElem?_set_ne (Ne.symm (h.ne hj hq))]
theorem RawD.rows {n0 b ver n : Nat} {G G' : Heap} {ys : Nat → Value} {β : Nat → Option Nat} {hd rc : Nat → List Value} {m : Nat → Nat} (h : RawD n0 G b ver n ys β hd m rc) {i : Nat} {c : List Value} (hi : i < n) (s : SameB G G' (β i)) (ho : Own G' (ys i) (β i) n0 2 (m i) c) :
    RawD n0 G' b ver n ys β hd m (fun j => if j = i then c else rc j) := by
  refine ⟨h.lo, ?_, h.hl, fun j hj => ?_, h.dis⟩
  · obtain ⟨vs, hg, h2⟩ := h.out
    refine ⟨vs, ?_, h2⟩
    rw [s.get]
    · exact hg
    · intro hq; exact h.ne hi hq rfl
  · by_cases hji : j = i
    · subst hji; simp only [if_pos rfl]; exact ho
    · simp only [if_neg hji]
      exact (h.row j hj).agree fun q hq => s.get q fun he => hji (h.dis j i q hj hi hq he)
theorem RawD.congr {n0 b ver n : Nat} {G : Heap} {ys : Nat → Value} {β : Nat → Option Nat} {hd rc hd' rc' : Nat → List Value} {m : Nat → Nat} (h : RawD n0 G b ver n ys β hd m rc) (h1 : ∀ i, i < n → hd i = hd' i) (h2 : ∀ i, i < n → rc i = rc' i) : RawD n0 G b ver n ys β hd' m rc' := by
  refine ⟨h.lo, ?_, fun i hi => by rw [← h1 i hi]; exact h.hl i hi, fun i hi => by rw [← h2 i hi]; exact h.row i hi, h.dis⟩
  obtain ⟨vs, hg, hl, he⟩ := h.out
  exact ⟨vs, hg, hl, fun i hi => by rw [← h1 i hi]; exact he i hi⟩
/- Marks. -/
def msH (c : Int) : List Value := [.int .i8 (IntKind.wrap .i8 c), .int .i8 (IntKind.wrap .i8 (c + 1)), .int .i8 (IntKind.wrap .i8 (c + 2)), .int .i8 (IntKind.wrap .i8 (c + 3))]
def mkP (m : Nat → Nat) (i : Nat) : Int := 101 + (mkS m i : Nat)
theorem set4 {l : List Value} {a b c d : Value} (h : l.length = 4) : (((l.set 0 a).set 1 b).set 2 c).set 3 d = [a, b, c, d] := by
  match l, h with
  | [_, _, _, _], _ => rfl
theorem SameB.fr' {G G' : Heap} {β : Option Nat} (s : SameB G G' β) {n0 : Nat} (hb : ∀ b, β = some b → n0 ≤ b) {j : Nat} (hj : j < n0) : G'[j]? = G[j]? := s.get j fun h => by have := hb j h; omega
theorem markD {n0 b ver n cap : Nat} {G : Heap} {ys : Nat → Value} {β : Nat → Option Nat} {hd rc : Nat → List Value} {m : Nat → Nat} (h : RawD n0 G b ver n ys β hd m rc) (hn : n ≤ 1000) (hm : ∀ i, i < n → m i ≤ 100000) :
    ∃ r, Call tab false 181 [slc b 0 ver n cap, .int .i64 101] G = some r ∧ ∃ G', r = (.int .i64 (mkP m n), G') ∧ G'.length = G.length ∧ (∀ j, j < n0 → G'[j]? = G[j]?) ∧ RawD n0 G' b ver n ys β (fun i => msH (mkP m i)) m (fun i => mkL (ms2 (mkP m i + 4)) (m i * 2)) := by
  refine Call_ex t181 (.inl rfl) rfl ?_
  simp [c181, k181]
  refine WP_count 5 n n rfl (fun i e G' => e 0 = slc b 0 ver n cap ∧ e 1 = .int .i64 (mkP m i) ∧ G'.length = G.length ∧ (∀ j, j < n0 → G'[j]? = G[j]?) ∧ RawD n0 G' b ver n ys β (fun j => if j < i then msH (mkP m j) else hd j) m (fun j => if j < i then mkL (ms2 (mkP m j + 4)) (m j * 2) else rc j)) (by omega) ?_ ?_ (by simp) ⟨by simp, by simp [mkP, mkS, itN_zero], rfl, fun _ _ => rfl, h.congr (fun i hi => by simp) (fun i hi => by simp)⟩
  · rintro i e G' _ hi hii e4 h5 ⟨h0, h1, hlen, hfr, hI⟩
    have hmi := hm i hi
    have hS : mkS m i ≤ i * 200004 := by
      have : ∀ i, i ≤ n → mkS m i ≤ i * 200004 := by
        intro i
        induction i with
        | zero => intro _; simp [mkS, itN_zero]
        | succ i ih =>
          intro hi
          have h1 := ih (by omega)
          have h2 := hm i (by omega)
          rw [mkS_succ]; omega
      exact this i (by omega)
    have hPs : mkP m (i + 1) = mkP m i + 4 + (m i * 2 : Nat) := by unfold mkP; rw [mkS_succ]; omega
    have hP0 : 101 ≤ mkP m i ∧ mkP m i ≤ 300000000 := by unfold mkP; omega
    generalize hc : mkP m i = c at *
    obtain ⟨G1, q1, s1, I1⟩ := hI.cell (n1 := G.length) (i := i) (o := 0) (v := .int .i8 (IntKind.wrap .i8 c)) hi (by omega) old0_int
    obtain ⟨G2, q2, s2, I2⟩ := I1.cell (n1 := G.length) (i := i) (o := 1) (v := .int .i8 (IntKind.wrap .i8 (c + 1))) hi (by omega) old0_int
    obtain ⟨G3, q3, s3, I3⟩ := I2.cell (n1 := G.length) (i := i) (o := 2) (v := .int .i8 (IntKind.wrap .i8 (c + 2))) hi (by omega) old0_int
    obtain ⟨G4, q4, s4, I4⟩ := I3.cell (n1 := G.length) (i := i) (o := 3) (v := .int .i8 (IntKind.wrap .i8 (c + 3))) hi (by omega) old0_int
    obtain ⟨G5, w2, s5, o5⟩ := mk391 G4 (ys i) (β i) n0 (m i) _ (c + 4) (I4.row i hi) (by omega) (by omega) (by omega)
    have I5 := I4.rows hi s5 o5
    obtain ⟨vs, o1, o2, o3⟩ := I4.out
    have hrd : rd G4 b (i * 5 + 4) ver 1 = some [ys i] := by
      have hmn := mul_next (esz := 5) hi
      rw [rd_at o1 rfl (by simp only []; omega)]
      have he := elem_at (vs := vs) (esz := 5) (i := i) (o := 4) (by omega)
      rw [o3 i hi, List.getElem?_append_right (Nat.le_of_eq (I4.hl i hi)), I4.hl i hi] at he
      have he' : vs[i * 5 + 4]? = some (ys i) := by rw [← he]; rfl
      obtain ⟨hlt, hv⟩ := List.getElem?_eq_some_iff.1 he'
      simp only []
      rw [List.drop_eq_getElem_cons hlt, hv]; rfl
    have u1 : IntKind.wrap .i64 (c + 1) = c + 1 := wrap64 (by omega)
    have u2 : IntKind.wrap .i64 (c + 1 + 1) = c + 2 := by rw [wrap64 (by omega)]; omega
    have u3 : IntKind.wrap .i64 (c + 2 + 1) = c + 3 := by rw [wrap64 (by omega)]; omega
    have u4 : IntKind.wrap .i64 (c + 3 + 1) = c + 4 := by rw [wrap64 (by omega)]; omega
    have hlo := h.lo
    have hβ : ∀ q, β i = some q → n0 ≤ q := (I4.row i hi).below
    rw [Nat.add_zero] at q1
    simp [b181_1, h5, h0, h1, hii, at_nat hi, q1, q2, q3, q4, hrd, w2, wbOf, u1, u2, u3, u4, e4, hPs, -Int.natCast_add, -Int.natCast_mul]
    refine ⟨by rw [s5.len, s4.len, s3.len, s2.len, s1.len, hlen], fun j hj => ?_, I5.congr (fun j hj => ?_) fun j hj => ?_⟩
    · rw [s5.fr' hβ hj, s4.fr' (fun b hb => by cases hb; exact hlo) hj, s3.fr' (fun b hb => by cases hb; exact hlo) hj, s2.fr' (fun b hb => by cases hb; exact hlo) hj, s1.fr' (fun b hb => by cases hb; exact hlo) hj, hfr j hj]
    · by_cases hji : j = i
      · subst hji
        simp only [if_true, if_neg (Nat.lt_irrefl j)]
        rw [if_pos (Nat.lt_succ_self j), set4 (h.hl j hj), hc]; rfl
      · simp only [if_neg hji]
        by_cases hlt : j < i
        · rw [if_pos hlt, if_pos (by omega)]
        · rw [if_neg hlt, if_neg (by omega)]
    · by_cases hji : j = i
      · subst hji
        simp only [if_true]
        rw [if_pos (Nat.lt_succ_self j), hc]
      · simp only [if_neg hji]
        by_cases hlt : j < i
        · rw [if_pos hlt, if_pos (by omega)]
        · rw [if_neg hlt, if_neg (by omega)]
  · rintro e G' _ h5 ⟨h0, h1, hlen, hfr, hI⟩
    simp [b181_1, h5, h0, h1]
    have ht : List.take G.length G' = G' := List.take_of_length_le (by rw [hlen]; exact Nat.le_refl _)
    rw [ht]
    exact ⟨by rw [hlen]; omega, hfr, hI.congr (fun i hi => by rw [if_pos hi]) (fun i hi => by rw [if_pos hi])⟩
end Fb
