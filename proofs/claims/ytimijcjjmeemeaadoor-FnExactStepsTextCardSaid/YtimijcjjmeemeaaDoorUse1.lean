/- What each function computes. -/
import Derived.Test.YtimijcjjmeemeaaDoorUse0
set_option linter.unusedVariables false
set_option linter.unusedSimpArgs false
namespace Fb
open Go
theorem call387 {pu : Bool} {H : Heap} {y : Value} {s : Sted} {i : Nat} (h : Rw H y s) (hw : StW s) (hn : s.rows.length ≤ 1000000) (hi : i ≤ 1000000) : Call tab pu 387 [agg (stC s y), .int .i64 i] H = some (.bool (okSt s i), H) := by
  refine Call_wp t387 (.inr rfl) rfl ?_
  have hst : stC s y = [.int .i8 s.a, .int .i8 s.b, .int .i8 s.c, .int .i8 s.d, y] := rfl
  simp [c387, k387, hst, ldc5e, SlR.lenV h]
  refine WP_forH 12 s.rows.length _ rfl (by omega) (fun j e => e 1 = .int .i64 i ∧ e 2 = agg [.int .i8 s.a, .int .i8 s.b, .int .i8 s.c, .int .i8 s.d, y] ∧ e 10 = y ∧ e 11 = .int .i64 s.rows.length ∧ ∀ i, i < j → rowB s i = true) ?_ ?_ (by simp) (by simp)
  · rintro j e hj hjj e4 h12 ⟨h1, h2, h10, h11, hp⟩
    obtain ⟨q, off, ver, ha, hr, hr1, hr2⟩ := Rw.at h hj
    obtain ⟨w1, w2⟩ := hw.row hj
    have e1 : IntKind.wrap .i64 (rw' s j).1 = (rw' s j).1 := wrap64 (by omega)
    have e2 : IntKind.wrap .i64 (rw' s j).2 = (rw' s j).2 := wrap64 (by omega)
    cases b1 : in1 (rw' s j).1 0 11 with
    | false =>
      have hb : rowB s j = false := by simp [rowB, b1]
      simp [b387_1, h12, h1, h2, h10, h11, hjj, ha, hr, stc2c, ldc2, ldc2b, e1, in295, b1, skip, okSt, rowsB, allN_false hj hb]
    | true =>
      cases b2 : in1 (rw' s j).2 1 4095 with
      | false =>
        have hb : rowB s j = false := by simp [rowB, b2]
        simp [b387_1, h12, h1, h2, h10, h11, hjj, ha, hr, stc2c, ldc2, ldc2b, e1, e2, in295, b1, b2, skip, okSt, rowsB, allN_false hj hb]
      | true =>
        rcases Nat.eq_zero_or_pos j with h0j | h0j
        · subst h0j
          have hb : rowB s 0 = true := by simp [rowB, b1, b2]
          have ha' : idxAV 2 y (.int .i64 0) = some (adr q off ver) := ha
          have h3' : e 12 = .int .i64 0 := h12
          have e4' : IntKind.wrap .i64 (0 + 1) = 1 := by decide
          simp [b387_1, h3', h1, h2, h10, h11, hj, ha', hr, stc2c, ldc2, ldc2b, e1, e2, in295, b1, b2, skip, e4']
          exact hb
        · obtain ⟨q', off', ver', ha', hr', hr1', hr2'⟩ := Rw.at h (j := j - 1) (by omega)
          have c1 : IntKind.wrap .i64 ((j : Int) - 1) = ((j - 1 : Nat) : Int) := by rw [wrap64 (by omega)]; omega
          by_cases hlt : (rw' s (j - 1)).1 < (rw' s j).1
          · have hb : rowB s j = true := by simp [rowB, b1, b2, hlt]
            have hnle : ¬ ((rw' s j).1 ≤ (rw' s (j - 1)).1) := by omega
            simp [b387_1, h12, h1, h2, h10, h11, hjj, ha, hr, stc2c, ldc2, ldc2b, ldc5e, e1, e2, in295, b1, b2, h0j, c1, ha', hr1', hnle, skip, e4]
            exact upto_succ hp hb
          · have hb : rowB s j = false := by simp [rowB, hlt]; intro _ _; omega
            have hle : (rw' s j).1 ≤ (rw' s (j - 1)).1 := by omega
            simp [b387_1, h12, h1, h2, h10, h11, hjj, ha, hr, stc2c, ldc2, ldc2b, ldc5e, e1, e2, in295, b1, b2, h0j, c1, ha', hr1', hle, skip, okSt, rowsB, allN_false hj hb]
  · rintro e h12 ⟨h1, h2, h10, h11, hp⟩
    have hr : rowsB s = true := allN_true hp
    have hok : okSt s i = kindB s i := by simp [okSt, hr]
    obtain ⟨wa, wb, wc, wd, _⟩ := hw
    have eb : IntKind.wrap .i64 s.b = s.b := wrap64 (by omega)
    have ec : IntKind.wrap .i64 s.c = s.c := wrap64 (by omega)
    have ed : IntKind.wrap .i64 s.d = s.d := wrap64 (by omega)
    have ei : IntKind.wrap .i64 ((i : Int) - 1) = (i : Int) - 1 := wrap64 (by omega)
    have e11 : e 12 = .int .i64 s.rows.length := h12
    simp only [b387_1]
    cases a0 : (s.a == 0)
    · cases a1 : (s.a == 1)
      · cases a2 : (s.a == 2)
        · cases c0 : (s.c == 0) <;> cases e0 : (s.d == 0) <;>
            simp [e11, h1, h2, h11, ldc5a, ldc5b, ldc5c, ldc5d, eb, ec, ed, ei, hok, skip, a0, a1, a2, c0, e0, in295, kindB, stillB]
        · cases c0 : (s.c == 0) <;> cases e0 : (s.d == 0) <;> cases b5 : in1 s.b 0 ((i : Int) - 1) <;> cases b2 : in1 s.c (-12) 12 <;> cases b3 : in1 s.d (-12) 12 <;>
            simp [e11, h1, h2, h11, ldc5a, ldc5b, ldc5c, ldc5d, eb, ec, ed, ei, hok, skip, a0, a1, a2, c0, e0, b5, b2, b3, in295, kindB, stillB]
      · cases c0 : (s.c == 0) <;> cases e0 : (s.d == 0) <;> cases b5 : in1 s.b 0 ((i : Int) - 1) <;>
          simp [e11, h1, h2, h11, ldc5a, ldc5b, ldc5c, ldc5d, eb, ec, ed, ei, hok, skip, a0, a1, c0, e0, b5, in295, kindB, stillB]
    · cases c0 : (s.c == 0) <;> cases e0 : (s.d == 0) <;> cases b0 : (s.b == 0) <;>
        simp [e11, h1, h2, h11, ldc5a, ldc5b, ldc5c, ldc5d, eb, ec, ed, ei, hok, skip, a0, c0, e0, b0, in295, kindB, stillB]
theorem call163 {pu : Bool} {H : Heap} {x : Value} {l : List Sted} (h : StS H x l) (hw : StsW l) : Call tab pu 163 [x] H = some (.bool (okSts l), H) := by
  refine Call_wp t163 (.inr rfl) rfl ?_
  have hn := hw.n
  simp [c163, k163, h.lenV]
  refine WP_forH 7 l.length _ rfl (by omega) (fun i e => e 0 = x ∧ e 5 = x ∧ e 6 = .int .i64 l.length ∧ ∀ j, j < i → okSt (at0 l j) j = true) ?_ ?_ (by simp) (by simp)
  · rintro i e hi hii e4 h7 ⟨h0, h5, h6, hp⟩
    obtain ⟨q, off, ver, y, ha, hrd, hrw⟩ := h.get hi
    have hc := call387 (pu := true) (i := i) hrw (hw.w _ (at0_mem hi)) (hw.r _ (at0_mem hi)) (by omega)
    have hst : ∀ s y, stC s y = [.int .i8 s.a, .int .i8 s.b, .int .i8 s.c, .int .i8 s.d, y] := fun _ _ => rfl
    rw [hst] at hc hrd
    cases hk : okSt (at0 l i) i with
    | true =>
      rw [hk] at hc
      simp [b163_1, h7, h0, h5, h6, hii, ha, hrd, stc5, ldc5, hc, e4]
      exact upto_succ hp hk
    | false =>
      rw [hk] at hc
      simp [b163_1, h7, h0, h5, h6, hii, ha, hrd, stc5, ldc5, hc, okSts, allN_false (p := fun i => okSt (at0 l i) i) hi hk]
  · rintro e h7 ⟨h0, h5, h6, hp⟩
    have e1 : decide ((l.length : Int) ≤ 40) = decide (l.length ≤ 40) := by apply decide_eq_decide.2; omega
    simp [b163_1, h7, h0, h6, h.lenV, okSts, allN_true (p := fun i => okSt (at0 l i) i) hp, e1]
/-- Steps as an argument: their lengths are not bounded yet. -/
structure StsA (l : List Sted) : Prop where
  w : ∀ s ∈ l, StW s
  n : l.length ≤ 9223372036854775807
  r : ∀ s ∈ l, s.rows.length ≤ 9223372036854775807
theorem okSt_a {s : Sted} {i : Nat} (h : okSt s i = true) : 0 ≤ s.a ∧ s.a ≤ 2 := by
  simp only [okSt, kindB, Bool.and_eq_true] at h
  obtain ⟨_, h⟩ := h
  by_cases h0 : (s.a == 0) = true
  · simp at h0; omega
  · rw [if_neg h0] at h
    by_cases h1 : (s.a == 1) = true
    · simp at h1; omega
    · rw [if_neg h1] at h
      by_cases h2 : (s.a == 2) = true
      · simp at h2; omega
      · rw [if_neg h2] at h; cases h
theorem okSt_b {s : Sted} {i : Nat} (h : okSt s i = true) (ha : s.a ≠ 0) : 0 ≤ s.b ∧ s.b < i := by
  simp only [okSt, kindB, Bool.and_eq_true] at h
  obtain ⟨_, h⟩ := h
  rw [if_neg (by simpa using ha)] at h
  by_cases h1 : (s.a == 1) = true
  · rw [if_pos h1] at h; simp [in1] at h; omega
  · rw [if_neg h1] at h
    by_cases h2 : (s.a == 2) = true
    · rw [if_pos h2] at h; simp [in1] at h; omega
    · rw [if_neg h2] at h; cases h
theorem okSts_get {l : List Sted} (h : okSts l = true) {i : Nat} (hi : i < l.length) : okSt (at0 l i) i = true := by
  simp only [okSts, Bool.and_eq_true] at h
  exact allN_get (p := fun i => okSt (at0 l i) i) h.1 hi
theorem okSts_len {l : List Sted} (h : okSts l = true) : l.length ≤ 40 := by
  simp only [okSts, Bool.and_eq_true, decide_eq_true_eq] at h
  exact h.2
def stCost (s : Sted) : Int := costV s.a s.rows.length
structure StsC (l : List Sted) : Prop where
  n : l.length ≤ 1000000
  a : ∀ i, i < l.length → 0 ≤ (at0 l i).a ∧ (at0 l i).a ≤ 2
  r : ∀ s ∈ l, s.rows.length ≤ 1000000
theorem StsC.of {l : List Sted} (hw : StsW l) (hk : okSts l = true) : StsC l := ⟨hw.n, fun i hi => okSt_a (okSts_get hk hi), hw.r⟩
def ms2 (c : Int) (i : Nat) : Value := if i % 2 = 0 then .int .i8 (IntKind.wrap .i8 (c + i)) else .int .u16 (IntKind.wrap .u16 (c + i))
/-- A copy of steps while marks are being written over it. -/
structure MkI (G G' : Heap) (b ver lo hi n : Nat) (y : Nat → Value) (m : Nat → Nat) : Prop where
  len : G'.length = G.length
  fr : ∀ j, j < lo ∨ hi ≤ j → G'[j]? = G[j]?
  inb : lo ≤ b ∧ b < hi
  out : ∃ vs, G'[b]? = some ⟨vs, 5, ver, false⟩ ∧ n * 5 ≤ vs.length ∧ ∀ i, i < n → vs[i * 5 + 4]? = some (y i)
  row : ∀ i, i < n → ∃ b' ver' cap' ws, y i = slc b' 0 ver' (m i) cap' ∧ lo ≤ b' ∧ b' < hi ∧ b' ≠ b ∧ G'[b']? = some ⟨ws, 2, ver', false⟩ ∧ m i * 2 ≤ ws.length
theorem MkI.rows {G G' : Heap} {b ver lo hi n : Nat} {y : Nat → Value} {m : Nat → Nat} (h : MkI G G' b ver lo hi n y m) {b' ver' : Nat} {ws ws' : List Value} (hb : lo ≤ b' ∧ b' < hi) (hne : b' ≠ b) (hg : G'[b']? = some ⟨ws, 2, ver', false⟩) (hw : ws'.length = ws.length) :
    MkI G (G'.set b' ⟨ws', 2, ver', false⟩) b ver lo hi n y m := by
  refine ⟨by simp [h.len], fun j hj => ?_, h.inb, ?_, fun i hi => ?_⟩
  · rw [List.getElem?_set_ne (by omega)]
    exact h.fr j hj
  · obtain ⟨vs, h1, h2⟩ := h.out
    exact ⟨vs, by rw [List.getElem?_set_ne hne]; exact h1, h2⟩
  · obtain ⟨b2, ver2, cap2, ws2, h1, h2, h3, h4, h5, h6⟩ := h.row i hi
    by_cases hb2 : b' = b2
    · subst hb2
      rw [hg] at h5
      cases h5
      exact ⟨b', ver', cap2, ws', h1, h2, h3, h4, get_set hg, by rw [hw]; exact h6⟩
    · exact ⟨b2, ver2, cap2, ws2, h1, h2, h3, h4, by rw [List.getElem?_set_ne hb2]; exact h5, h6⟩
def mkS (m : Nat → Nat) (i : Nat) : Nat := itN (fun i v => v + 4 + m i * 2) 0 i
theorem Own.agree {G G' : Heap} {r : Value} {β : Option Nat} {n0 esz n : Nat} {vs : List Value} (h : Own G r β n0 esz n vs) (hne : ∀ b, β = some b → G'[b]? = G[b]?) : Own G' r β n0 esz n vs := by
  obtain ⟨hl, h⟩ := h
  refine ⟨hl, ?_⟩
  cases β with
  | none => exact h
  | some b =>
    obtain ⟨hb, ver, cap, rest, rfl, hc, hg⟩ := h
    exact ⟨hb, ver, cap, rest, rfl, hc, by rw [hne b rfl]; exact hg⟩
def depV (s : Sted) (v : List Int) : Int := if s.a == 0 then 0 else nth v s.b.toNat + 1
/-- A row from its bits. -/
def rowN (q : Nat → Bool) (m : Nat) : Nat := itN (fun i v => v ||| if q i = true then 2 ^ i else 0) 0 m
theorem rowN_succ {q : Nat → Bool} {m : Nat} : rowN q (m + 1) = rowN q m ||| if q m = true then 2 ^ m else 0 := itN_succ
theorem rowN_bit {q : Nat → Bool} {m x : Nat} : (rowN q m).testBit x = (decide (x < m) && q x) := by
  induction m with
  | zero => simp [rowN, itN_zero]
  | succ m ih =>
    rw [rowN_succ, Nat.testBit_or, ih]
    by_cases h : x = m
    · subst h
      cases hq : q x <;> simp
    · have h2 : decide (x < m + 1) = decide (x < m) := by apply decide_eq_decide.2; omega
      rw [h2]
      cases hq : q m
      · simp
      · simp [Nat.testBit_two_pow]; omega
theorem rowN_lt {q : Nat → Bool} {m : Nat} : rowN q m < 2 ^ m := by
  apply Nat.lt_pow_two_of_testBit
  intro i hi
  rw [rowN_bit]
  simp; omega
theorem rowN_eq {q : Nat → Bool} {n m : Nat} (hn : n < 2 ^ m) (h : ∀ x, x < m → n.testBit x = q x) : n = rowN q m := by
  apply Nat.eq_of_testBit_eq
  intro x
  rw [rowN_bit]
  by_cases hx : x < m
  · rw [h x hx]; simp [hx]
  · simp [hx]
    exact Nat.testBit_lt_two_pow (Nat.lt_of_lt_of_le hn (Nat.pow_le_pow_right (by omega) (by omega)))
/-- A frame from its dots. -/
def dotsF (p : Nat → Nat → Bool) : List Int := tabN 12 fun y => ((rowN (fun x => p x y) 12 : Nat) : Int)
theorem dotsF_length {p : Nat → Nat → Bool} : (dotsF p).length = 12 := by simp [dotsF, tabN]
theorem dotsF_nth {p : Nat → Nat → Bool} {y : Nat} (hy : y < 12) : nth (dotsF p) y = ((rowN (fun x => p x y) 12 : Nat) : Int) := nth_tabN hy
theorem list12 {f g : List Int} (hf : f.length = 12) (hg : g.length = 12) (h : ∀ y, y < 12 → nth f y = nth g y) : f = g := by
  apply List.ext_getElem (by omega)
  intro i h1 h2
  have := h i (by omega)
  rw [nth_of (List.getElem?_eq_getElem h1), nth_of (List.getElem?_eq_getElem h2)] at this
  exact this
theorem dotsF_congr {p q : Nat → Nat → Bool} (h : ∀ x y, x < 12 → y < 12 → p x y = q x y) : dotsF p = dotsF q := by
  refine list12 dotsF_length dotsF_length fun y hy => ?_
  rw [dotsF_nth hy, dotsF_nth hy]
  congr 1
  apply rowN_eq rowN_lt
  intro x hx
  rw [rowN_bit]; simp [hx, h x y hx hy]
theorem dotsF_none : dotsF (fun _ _ => false) = zr 12 0 := by
  refine list12 dotsF_length (by simp) fun y hy => ?_
  rw [dotsF_nth hy, nth_zr]
  have : rowN (fun _ => false) 12 = 0 := (rowN_eq (by decide) fun x hx => by simp).symm
  simp [this]
/-- The dots of a frame that has been moved. -/
def mvP (f : List Int) (dx dy : Int) (x y : Nat) : Bool := decide (0 ≤ (x : Int) - dx ∧ (x : Int) - dx < 12 ∧ 0 ≤ (y : Int) - dy ∧ (y : Int) - dy < 12) && hasF f ((x : Int) - dx).toNat ((y : Int) - dy).toNat
def shF (f : List Int) (dx dy : Int) : List Int := dotsF (mvP f dx dy)
def chgL (f g : List Int) (k : Nat) : List (Int × Int) := itN (fun y v => if (nth f y != nth g y) = true then v ++ [((y : Int), xorI (nth f y) (nth g y))] else v) [] k
/-- A list that has grown, or is none yet. -/
def GrN (H G : Heap) (x : Value) (esz n : Nat) (vs : List Value) : Prop := Gr H G x esz n vs ∨ (x = .slice none 0 0 ∧ n = 0 ∧ vs = [] ∧ Pre H G)
theorem GrN.pre {H G : Heap} {x : Value} {esz n : Nat} {vs : List Value} (g : GrN H G x esz n vs) : Pre H G := by
  rcases g with g | ⟨_, _, _, p⟩
  · exact g.pre
  · exact p
/-- The better of a step and a slide. -/
def stepB (f g : List Int) (base : Int) (s : Sted) (dx dy : Int) : Sted :=
  if (dx == 0 && dy == 0) = true then s else if 4 + 3 * ((chgL (shF f dx dy) g 12).length : Int) < stCost s then ⟨2, base, dx, dy, chgL (shF f dx dy) g 12⟩ else s
def inB (f g : List Int) (base dx : Int) (s : Sted) (k : Nat) : Sted := itN (fun j s => stepB f g base s dx ((j : Int) - 12)) s k
def outB (f g : List Int) (base : Int) (k : Nat) : Sted := itN (fun i s => inB f g base ((i : Int) - 12) s 25) ⟨1, base, 0, 0, chgL f g 12⟩ k
/-- A step in a block of its own. -/
structure StO (H G : Heap) (P : Nat) (s : Sted) (y : Value) : Prop where
  pre : Pre H G
  ge : H.length ≤ P
  blk : G[P]? = some ⟨stC s y, 1, 0, false⟩
  row : ∃ b, y = slc b 0 0 s.rows.length s.rows.length ∧ H.length ≤ b ∧ b ≠ P ∧ G[b]? = some ⟨chsC s.rows, 2, 0, false⟩
theorem StO.rw {H G : Heap} {P : Nat} {s : Sted} {y : Value} (h : StO H G P s y) : Rw G y s := by
  obtain ⟨b, rfl, _, _, hg⟩ := h.row
  exact ⟨chsC_length, .inr ⟨b, 0, 0, _, rfl, Nat.le_refl _, by rw [rd_at hg rfl (by simp only []; rw [chsC_length]; omega)]; simp only [List.drop_zero]; rw [List.take_of_length_le (by rw [chsC_length]; exact Nat.le_refl _)], _, hg, rfl, rfl⟩⟩
theorem StO.rd {H G : Heap} {P : Nat} {s : Sted} {y : Value} (h : StO H G P s y) : rd G P 0 0 5 = some (stC s y) := by
  rw [rd_at h.blk rfl (by simp [stC])]; rfl
/-- The better of a step and the cheapest step from a page. -/
def pickB (b : List (List Int)) (k : Nat) (p : Nat → Bool) (j : Nat) (s : Sted) : Sted :=
  if p j = true then if stCost (outB (fr b j) (fr b k) j 25) < stCost s then outB (fr b j) (fr b k) j 25 else s else s
def bestS (b : List (List Int)) (k : Nat) (p : Nat → Bool) (i : Nat) : Sted := itN (fun j s => pickB b k p j s) ⟨0, 0, 0, 0, chgL (zr 12 0) (fr b k) 12⟩ i
structure StP (H G : Heap) (P : Nat) (s : Sted) (y : Value) : Prop where
  ge : H.length ≤ P
  blk : G[P]? = some ⟨stC s y, 1, 0, false⟩
  row : GrN H G y 2 s.rows.length (chsC s.rows)
theorem StP.rd {H G : Heap} {P : Nat} {s : Sted} {y : Value} (h : StP H G P s y) : rd G P 0 0 5 = some (stC s y) := by
  rw [rd_at h.blk rfl (by simp [stC])]; rfl
theorem GrN.set {H G : Heap} {y : Value} {n P : Nat} {vs : List Value} {k k' : Blk} (g : GrN H G y 2 n vs) (ge : H.length ≤ P) (hP : G[P]? = some k) (hk : k.esz = 1) : GrN H (G.set P k') y 2 n vs := by
  rcases g with ⟨b, ver, e1, e2, e3, e4, q⟩ | ⟨e1, e2, e3, q⟩
  · have hne : P ≠ b := by
      rintro rfl
      rw [hP] at e2
      cases e2
      cases hk
    exact .inl ⟨b, ver, e1, by rw [List.getElem?_set_ne hne]; exact e2, e3, e4, q.set ge⟩
  · exact .inr ⟨e1, e2, e3, q.set ge⟩
/-- A list of steps that grows: the rows stand in blocks of their own. -/
def GrS (H G : Heap) (x : Value) (l : List Sted) : Prop := ∃ b ver vs, x = slc b 0 ver l.length l.length ∧ G[b]? = some ⟨vs, 5, ver, false⟩ ∧ H.length ≤ b ∧ vs.length = l.length * 5 ∧ Pre H G ∧
  ∀ i, i < l.length → ∃ y, elem vs 5 i = stC (at0 l i) y ∧ GrN H G y 2 (at0 l i).rows.length (chsC (at0 l i).rows)
theorem GrS.pre {H G : Heap} {x : Value} {l : List Sted} (g : GrS H G x l) : Pre H G := by obtain ⟨_, _, _, _, _, _, _, p, _⟩ := g; exact p
/-- The steps and the depths, page by page. -/
def encP (b : List (List Int)) (lim : Int) (i : Nat) : List Sted × List Int :=
  itN (fun i q => let s := bestS b i (fun j => !decide (lim ≤ nth q.2 j)) i; (q.1 ++ [s], q.2 ++ [depV s q.2])) ([], []) i
/-- Only blocks of one kind have changed. -/
def KeepE (e : Nat) (G G' : Heap) : Prop := ∀ (b : Nat) (k : Blk), G[b]? = some k → k.esz ≠ e → G'[b]? = some k
theorem KeepE.pre {e : Nat} {G G' : Heap} (p : Pre G G') : KeepE e G G' := fun b k h _ => by rw [p.get (List.getElem?_eq_some_iff.1 h).1]; exact h
theorem KeepE.trans {e : Nat} {A B C : Heap} (h : KeepE e A B) (h' : KeepE e B C) : KeepE e A C := fun b k q n => h' b k (h b k q n) n
theorem GrN.keep {e : Nat} {H G G' : Heap} {y : Value} {n : Nat} {vs : List Value} (g : GrN H G y 2 n vs) (k : KeepE e G G') (he : e ≠ 2) (p : Pre H G') : GrN H G' y 2 n vs := by
  rcases g with ⟨b, ver, e1, e2, e3, e4, _⟩ | ⟨e1, e2, e3, _⟩
  · exact .inl ⟨b, ver, e1, k _ _ e2 (by simp only []; omega), e3, e4, p⟩
  · exact .inr ⟨e1, e2, e3, p⟩
theorem GrS.keep {e : Nat} {H G G' : Heap} {x : Value} {l : List Sted} (g : GrS H G x l) (k : KeepE e G G') (he : e ≠ 2) (he5 : e ≠ 5) (p : Pre H G') : GrS H G' x l := by
  obtain ⟨b, ver, vs, e1, h1, h2, h3, _, h5⟩ := g
  refine ⟨b, ver, vs, e1, k _ _ h1 (by simp only []; omega), h2, h3, p, fun i hi => ?_⟩
  obtain ⟨y, e2, e3⟩ := h5 i hi
  exact ⟨y, e2, e3.keep k he p⟩
theorem Gr.keep {e esz : Nat} {H G G' : Heap} {x : Value} {n : Nat} {vs : List Value} (g : Gr H G x esz n vs) (k : KeepE e G G') (he : e ≠ esz) (p : Pre H G') : Gr H G' x esz n vs := by
  obtain ⟨b, ver, e1, h1, h2, h3, _⟩ := g
  exact ⟨b, ver, e1, k _ _ h1 (by simp only []; omega), h2, h3, p⟩
@[simp] theorem blkOf_adr {b o v : Nat} : blkOf (adr b o v) = some b := rfl
@[simp] theorem blkOf_slc {b o v n c : Nat} : blkOf (slc b o v n c) = some b := rfl
@[simp] theorem blkOf_nil {n c : Nat} : blkOf (.slice none n c) = none := rfl
/-- Cells of records of five, the last of which leads to rows of its own. -/
structure RawD (n0 : Nat) (G : Heap) (b ver n : Nat) (ys : Nat → Value) (β : Nat → Option Nat) (hd : Nat → List Value) (m : Nat → Nat) (rc : Nat → List Value) : Prop where
  lo : n0 ≤ b
  out : ∃ vs, G[b]? = some ⟨vs, 5, ver, false⟩ ∧ vs.length = n * 5 ∧ ∀ i, i < n → elem vs 5 i = hd i ++ [ys i]
  hl : ∀ i, i < n → (hd i).length = 4
  row : ∀ i, i < n → Own G (ys i) (β i) n0 2 (m i) (rc i)
  dis : ∀ i j q, i < n → j < n → β i = some q → β j = some q → i = j
theorem RawD.lt {n0 b ver n : Nat} {G : Heap} {ys : Nat → Value} {β : Nat → Option Nat} {hd rc : Nat → List Value} {m : Nat → Nat} (h : RawD n0 G b ver n ys β hd m rc) : b < G.length := by
  obtain ⟨vs, hg, _⟩ := h.out
  exact (List.getElem?_eq_some_iff.1 hg).1
theorem RawD.ne {n0 b ver n : Nat} {G : Heap} {ys : Nat → Value} {β : Nat → Option Nat} {hd rc : Nat → List Value} {m : Nat → Nat} (h : RawD n0 G b ver n ys β hd m rc) {i q : Nat} (hi : i < n) (hq : β i = some q) : q ≠ b := by
  rintro rfl
  obtain ⟨vs, hg, _⟩ := h.out
  obtain ⟨_, h2⟩ := h.row i hi
  rw [hq] at h2
  obtain ⟨_, ver', cap, rest, _, _, hg'⟩ := h2
  rw [hg] at hg'
  cases hg'
/-- What keeps the blocks keeps the list. -/
theorem RawD.keep {n0 b ver n : Nat} {G G' : Heap} {ys : Nat → Value} {β : Nat → Option Nat} {hd rc : Nat → List Value} {m : Nat → Nat} (h : RawD n0 G b ver n ys β hd m rc)
    (k : ∀ (b' : Nat) (k : Blk), G[b']? = some k → k.esz ≠ 1 → G'[b']? = some k) : RawD n0 G' b ver n ys β hd m rc := by
  refine ⟨h.lo, ?_, h.hl, fun i hi => ?_, h.dis⟩
  · obtain ⟨vs, hg, h2⟩ := h.out
    exact ⟨vs, k _ _ hg (by simp), h2⟩
  · obtain ⟨h1, h2⟩ := h.row i hi
    refine ⟨h1, ?_⟩
    cases hb : β i with
    | none => rw [hb] at h2; exact h2
    | some q =>
      rw [hb] at h2
      obtain ⟨hb, ver', cap, rest, e1, hc, hg⟩ := h2
      exact ⟨hb, ver', cap, rest, e1, hc, k _ _ hg (by simp)⟩
theorem RawD.pre {n0 b ver n : Nat} {G G' : Heap} {ys : Nat → Value} {β : Nat → Option Nat} {hd rc : Nat → List Value} {m : Nat → Nat} (p : Pre G G') (h : RawD n0 G b ver n ys β hd m rc) : RawD n0 G' b ver n ys β hd m rc :=
  h.keep fun b' k hk _ => by rw [p.get (List.getElem?_eq_some_iff.1 hk).1]; exact hk
theorem RawD.rows {n0 b ver n : Nat} {G G' : Heap} {ys : Nat → Value} {β : Nat → Option Nat} {hd rc : Nat → List Value} {m : Nat → Nat} (h : RawD n0 G b ver n ys β hd m rc) {i : Nat} {c : List Value} (hi : i < n) (s : SameB G G' (β i)) (ho : Own G' (ys i) (β i) n0 2 (m i) c) :
    RawD n0 G' b ver n ys β hd m (fun j => if j = i then c else rc j) := by
  refine ⟨h.lo, ?_, h.hl, fun j hj => ?_, h.dis⟩
  · obtain ⟨vs, hg, h2⟩ := h.out
    refine ⟨vs, ?_, h2⟩
    rw [s.get]
    · exact hg
    · intro hq; exact h.ne hi hq rfl
  · by_cases hji : j = i
    · subst hji; simp only [if_pos rfl]; exact ho
    · simp only [if_neg hji]
      exact (h.row j hj).agree fun q hq => s.get q fun he => hji (h.dis j i q hj hi hq he)
/- Marks. -/
def msH (c : Int) : List Value := [.int .i8 (IntKind.wrap .i8 c), .int .i8 (IntKind.wrap .i8 (c + 1)), .int .i8 (IntKind.wrap .i8 (c + 2)), .int .i8 (IntKind.wrap .i8 (c + 3))]
def mkP (m : Nat → Nat) (i : Nat) : Int := 101 + (mkS m i : Nat)
/-- A list of steps, with rows of its own. -/
def StD (n0 : Nat) (G : Heap) (b ver : Nat) (l : List Sted) : Prop := ∃ ys β, RawD n0 G b ver l.length ys β (fun i => [.int .i8 (at0 l i).a, .int .i8 (at0 l i).b, .int .i8 (at0 l i).c, .int .i8 (at0 l i).d]) (fun i => (at0 l i).rows.length) (fun i => chsC (at0 l i).rows)
theorem StD.pre {n0 b ver : Nat} {G G' : Heap} {l : List Sted} (p : Pre G G') (h : StD n0 G b ver l) : StD n0 G' b ver l := by
  obtain ⟨ys, β, h⟩ := h; exact ⟨ys, β, h.pre p⟩
theorem StD.lt {n0 b ver : Nat} {G : Heap} {l : List Sted} (h : StD n0 G b ver l) : b < G.length := by
  obtain ⟨ys, β, h⟩ := h; exact h.lt
/-- Steps with rows of their own, or nothing. -/
def StX (n0 : Nat) (G : Heap) (x : Value) (l : List Sted) : Prop := (x = .slice none 0 0 ∧ l = []) ∨ ∃ b ver, x = slc b 0 ver l.length l.length ∧ StD n0 G b ver l
theorem StX.pre {n0 : Nat} {G G' : Heap} {x : Value} {l : List Sted} (p : Pre G G') (h : StX n0 G x l) : StX n0 G' x l := by
  rcases h with h | ⟨b, ver, rfl, h⟩
  · exact .inl h
  · exact .inr ⟨b, ver, rfl, h.pre p⟩
/-- Marks over steps. -/
def MkX (n0 : Nat) (G : Heap) (x : Value) (l : List Sted) : Prop := (x = .slice none 0 0 ∧ l = []) ∨ ∃ b ver ys β, x = slc b 0 ver l.length l.length ∧
  RawD n0 G b ver l.length ys β (fun i => msH (mkP (fun i => (at0 l i).rows.length) i)) (fun i => (at0 l i).rows.length) (fun i => mkL (ms2 (mkP (fun i => (at0 l i).rows.length) i + 4)) ((at0 l i).rows.length * 2))
theorem MkX.pre {n0 : Nat} {G G' : Heap} {x : Value} {l : List Sted} (p : Pre G G') (h : MkX n0 G x l) : MkX n0 G' x l := by
  rcases h with h | ⟨b, ver, ys, β, rfl, h⟩
  · exact .inl h
  · exact .inr ⟨b, ver, ys, β, rfl, h.pre p⟩
/- Moves, compared by how far they go. -/
def szI (a : Int) : Int := if a < -a then -a else a
def mkey (a : Int × Int) : Int := szI a.1 + szI a.2
abbrev ML := List (Int × Int)
/-- Halves. -/
def hf (i j : Int) : Int := (i + j) / 2
/- The moves up to a size, as both sides order them. -/
def rgI (m : Int) : List Int := (List.range (2 * m + 1).toNat).map fun (i : Nat) => (i : Int) - m
def gridM (m : Int) : ML := (rgI m).flatMap fun a => (rgI m).map fun b => (a, b)
def farM (m : Int) : ML := (List.range (2 * m + 1).toNat).flatMap fun (d : Nat) => (gridM m).filter fun a => decide (mkey a = d)
/-- The list that is being sorted, in its block. -/
def hp (G0 : Heap) (bq ver : Nat) (l : ML) : Heap := G0.set bq ⟨mvsC l, 2, ver, false⟩
theorem own_nil {H : Heap} {esz : Nat} : Own H (.slice none 0 0) none H.length esz 0 [] := ⟨by simp, rfl, rfl⟩
def cpP (b c : List (List Int)) (a : Int × Int) (p : Nat) : Bool := allN (fun i => decide (fr b (p + i) = shF (fr c i) a.1 a.2)) c.length
/-- Which move is the first one that makes a copy at p. -/
def mcJ (b c : List (List Int)) (m p : Nat) : Int := findN (fun j => cpP b c (mv (farM m) j) p) (farM m).length
def mcS (b c : List (List Int)) (m p : Nat) (s : List Int × ML) : List Int × ML := if 0 ≤ mcJ b c m p then (s.1 ++ [(p : Int)], s.2 ++ [mv (farM m) (mcJ b c m p).toNat]) else s
def mcK (b c : List (List Int)) (m k : Nat) : List Int × ML := itN (mcS b c m) ([], []) k
theorem mcK_zero {b c : List (List Int)} {m : Nat} : mcK b c m 0 = ([], []) := itN_zero
theorem mcK_succ {b c : List (List Int)} {m k : Nat} : mcK b c m (k + 1) = mcS b c m k (mcK b c m k) := itN_succ
theorem mcK_len {b c : List (List Int)} {m k : Nat} : (mcK b c m k).1.length ≤ k ∧ (mcK b c m k).2.length = (mcK b c m k).1.length := by
  induction k with
  | zero => rw [mcK_zero]; simp
  | succ k ih =>
    rw [mcK_succ, mcS]
    split
    · simp [ih.2]; omega
    · exact ⟨by omega, ih.2⟩
def mcC (b c : List (List Int)) (m : Int) : Int := if (okB b && okB c) = true then if (in1 m 0 4 && !((c.length : Int) == 0)) = true then 0 else 2 else 1
/-- How many places there are. -/
def mcN (b c : List (List Int)) : Nat := b.length + 1 - c.length
def mcR (b c : List (List Int)) (m : Int) : List Int × ML := if mcC b c m = 0 then mcK b c m.toNat (mcN b c) else ([], [])
/-- What 352 hands back. -/
def RsM (H : Heap) (r : Value × Heap) (q : List Int × ML) (c : Int) : Prop :=
  (c ≠ 0 ∧ r = (tup [.slice none 0 0, .slice none 0 0, .int .i64 c], H)) ∨
  (c = 0 ∧ r = (tup [slc H.length 0 0 q.1.length q.1.length, slc (H.length + 1) 0 0 q.1.length q.1.length, .int .i64 c], H ++ [⟨cs .i64 q.1, 1, 0, false⟩, ⟨mvsC q.2, 2, 0, false⟩]))
theorem rowsC_drop {α : Type} {f : α → List Value} {esz : Nat} {l : List α} (hf : ∀ a ∈ l, (f a).length = esz) {k : Nat} : (rowsC f l).drop (k * esz) = rowsC f (l.drop k) := by
  induction l generalizing k with
  | nil => simp [rowsC]
  | cons a r ih =>
    cases k with
    | zero => simp
    | succ k =>
      have h1 := hf a (by simp)
      have := ih (k := k) (fun b hb => hf b (by simp [hb]))
      show (f a ++ rowsC f r).drop ((k + 1) * esz) = rowsC f (r.drop k)
      rw [← this, show (k + 1) * esz = (f a).length + k * esz by rw [h1, Nat.succ_mul]; omega, List.drop_length_add_append]
theorem rowsC_take {α : Type} {f : α → List Value} {esz : Nat} {l : List α} (hf : ∀ a ∈ l, (f a).length = esz) {k : Nat} : (rowsC f l).take (k * esz) = rowsC f (l.take k) := by
  induction l generalizing k with
  | nil => simp [rowsC]
  | cons a r ih =>
    cases k with
    | zero => simp [rowsC]
    | succ k =>
      have h1 := hf a (by simp)
      have := ih (k := k) (fun b hb => hf b (by simp [hb]))
      show (f a ++ rowsC f r).take ((k + 1) * esz) = f a ++ rowsC f (r.take k)
      rw [← this, show (k + 1) * esz = (f a).length + k * esz by rw [h1, Nat.succ_mul]; omega, List.take_length_add_append]
theorem frC_len {b : List (List Int)} (hw : BkW b) : ∀ a ∈ b, (frC a).length = 12 := fun a ha => by simp [frC, (hw a ha).len]
/-- A part of a book in memory. -/
theorem Bk.sub {H : Heap} {x : Value} {b : List (List Int)} (h : Bk H x b) (hw : BkW b) {lo n : Nat} (hn : lo + n ≤ b.length) {k k' : IntKind} :
    ∃ y, slcAV H 12 x (some (.int k (lo : Int))) (some (.int k' ((lo + n : Nat) : Int))) none = some y ∧ Bk H y ((b.drop lo).take n) ∧ BkW ((b.drop lo).take n) := by
  obtain ⟨y, h1, h2⟩ := SlR.sub h (lo := lo) (hi := lo + n) (by omega) hn (k := k) (k' := k')
  have hW : BkW ((b.drop lo).take n) := fun f hf => hw f (List.mem_of_mem_drop (List.mem_of_mem_take hf))
  refine ⟨y, h1, ?_, hW⟩
  have e1 : lo + n - lo = n := by omega
  rw [e1] at h2
  have e2 : (bkC b).drop (lo * 12) = bkC (b.drop lo) := rowsC_drop (frC_len hw)
  have e3 : (bkC (b.drop lo)).take (n * 12) = bkC ((b.drop lo).take n) := rowsC_take (frC_len fun f hf => hw f (List.mem_of_mem_drop hf))
  rw [e2, e3] at h2
  have e4 : ((b.drop lo).take n).length = n := by simp; omega
  show SlR H y 12 ((b.drop lo).take n).length (bkC ((b.drop lo).take n))
  rw [e4]; exact h2
/-- Two lists of its own, and a code. -/
def RsD (H : Heap) (r : Value × Heap) (q : List Int × ML) (c : Int) : Prop := ∃ r1 r2 G β1 β2, r = (tup [r1, r2, .int .i64 c], G) ∧ Pre H G ∧ Own G r1 β1 H.length 1 q.1.length (cs .i64 q.1) ∧ Own G r2 β2 H.length 2 q.1.length (mvsC q.2) ∧ ∀ b, β1 = some b → β2 ≠ some b
theorem mcR_len {b c : List (List Int)} {m : Int} : (mcR b c m).2.length = (mcR b c m).1.length := by
  by_cases h : mcC b c m = 0
  · rw [mcR, if_pos h]; exact mcK_len.2
  · rw [mcR, if_neg h]; rfl
theorem two_own {H : Heap} {vs ws : List Value} {e1 e2 n1 n2 : Nat} (h1 : vs.length = n1 * e1) (h2 : ws.length = n2 * e2) :
    Own (H ++ [⟨vs, e1, 0, false⟩, ⟨ws, e2, 0, false⟩]) (slc H.length 0 0 n1 n1) (some H.length) H.length e1 n1 vs ∧ Own (H ++ [⟨vs, e1, 0, false⟩, ⟨ws, e2, 0, false⟩]) (slc (H.length + 1) 0 0 n2 n2) (some (H.length + 1)) H.length e2 n2 ws :=
  ⟨⟨h1, Nat.le_refl _, 0, n1, [], rfl, Nat.le_refl _, by simp⟩, ⟨h2, by omega, 0, n2, [], rfl, Nat.le_refl _, by simp⟩⟩
theorem RsM.d {b c : List (List Int)} {m : Int} {H : Heap} {r : Value × Heap} (h : RsM H r (mcR b c m) (mcC b c m)) : RsD H r (mcR b c m) (mcC b c m) := by
  rcases h with ⟨hc, rfl⟩ | ⟨hc, rfl⟩
  · refine ⟨_, _, H, none, none, rfl, .refl, ?_, ?_, by intro b h; cases h⟩
    · rw [mcR, if_neg hc]; exact own_nil
    · rw [mcR, if_neg hc]; exact own_nil
  · obtain ⟨o1, o2⟩ := two_own (H := H) (vs := cs .i64 (mcR b c m).1) (ws := mvsC (mcR b c m).2) (e1 := 1) (e2 := 2) (n1 := (mcR b c m).1.length) (n2 := (mcR b c m).1.length) (by simp) (by rw [mvsC_length, mcR_len])
    exact ⟨_, _, _, _, _, rfl, ⟨_, rfl⟩, o1, o2, by intro b h; cases h; simp⟩
structure Ly where
  f : List Int
  x : Int
  y : Int
  d : Int
instance : Inhabited Ly := ⟨⟨[], 0, 0, 0⟩⟩
structure LyW (s : Ly) : Prop where
  len : s.f.length = 24
  ok : ∀ n ∈ s.f, u16' n
  x : i8 s.x
  y : i8 s.y
  d : i8 s.d
def lyT (f : List Int) (a b c : Value) : List Value := cs .u16 f ++ [a, b, c]
def lyC (s : Ly) : List Value := lyT s.f (.int .i8 s.x) (.int .i8 s.y) (.int .i8 s.d)
def scC (l : List Ly) : List Value := rowsC lyC l
abbrev ScW (l : List Ly) : Prop := ∀ s ∈ l, LyW s
theorem lyT_len {f : List Int} {a b c : Value} (h : f.length = 24) : (lyT f a b c).length = 27 := by simp [lyT, h]
theorem lyC_len {s : Ly} (h : LyW s) : (lyC s).length = 27 := lyT_len h.len
theorem scC_elem {l : List Ly} (h : ScW l) {i : Nat} (hi : i < l.length) : elem (scC l) 27 i = lyC (at0 l i) := rows_elem (f := lyC) (esz := 27) (fun s hs => lyC_len (h s hs)) hi
theorem lyT_at {f : List Int} {a b c : Value} (h : f.length = 24) {k : Nat} : (lyT f a b c).drop (24 + k) = [a, b, c].drop k := by
  unfold lyT
  rw [show 24 + k = (cs .u16 f).length + k by simp [h], List.drop_length_add_append]
abbrev Sc (H : Heap) (x : Value) (l : List Ly) : Prop := SlR H x 27 l.length (scC l)
def inkL (s : Ly) : List Int := sub s.f 0 12
def mskL (s : Ly) : List Int := sub s.f 12 12
theorem LyW.ink {s : Ly} (h : LyW s) : FrW (inkL s) := ⟨sub_length (by rw [h.len]; omega), fun n hn => h.ok n (sub_mem hn)⟩
theorem LyW.msk {s : Ly} (h : LyW s) : FrW (mskL s) := ⟨sub_length (by rw [h.len]; omega), fun n hn => h.ok n (sub_mem hn)⟩
def okCel (s : Ly) : Bool := (okF (inkL s) && okF (mskL s)) && decide (mixF lessI (inkL s) (mskL s) = zr 12 0)
def okLy (s : Ly) : Bool := ((okCel s && in1 s.x (-12) 12) && in1 s.y (-12) 12) && in1 s.d 0 8
/- The spec's side, in memory. -/
theorem lyC_parts {s : Ly} (h : s.f.length = 24) : ((lyC s).drop 0).take 12 = cs .u16 (inkL s) ∧ ((lyC s).drop 12).take 12 = cs .u16 (mskL s) ∧ ((lyC s).drop 24).take 1 = [.int .i8 s.x] ∧ ((lyC s).drop 25).take 1 = [.int .i8 s.y] ∧ ((lyC s).drop 26).take 1 = [.int .i8 s.d] := by
  refine ⟨?_, ?_, ?_, ?_, ?_⟩
  · unfold lyC lyT inkL
    rw [List.drop_zero, List.take_append_of_le_length (by simp [h]), show (cs .u16 s.f).take 12 = ((cs .u16 s.f).drop 0).take 12 by simp, cs_sub]
  · unfold lyC lyT mskL
    rw [List.drop_append_of_le_length (by simp [h]), List.take_append_of_le_length (by simp [h]), cs_sub]
  · unfold lyC
    rw [show 24 = 24 + 0 from rfl, lyT_at h]; rfl
  · unfold lyC
    rw [show 25 = 24 + 1 from rfl, lyT_at h]; rfl
  · unfold lyC
    rw [show 26 = 24 + 2 from rfl, lyT_at h]; rfl
/-- A layer in memory. -/
structure LyR (H : Heap) (q off ver : Nat) (s : Ly) : Prop where
  ink : rd H q off ver 12 = some (cs .u16 (inkL s))
  msk : rd H q (off + 12) ver 12 = some (cs .u16 (mskL s))
  x : rd H q (off + 24) ver 1 = some [.int .i8 s.x]
  y : rd H q (off + 25) ver 1 = some [.int .i8 s.y]
  d : rd H q (off + 26) ver 1 = some [.int .i8 s.d]
theorem LyR.of {H : Heap} {q off ver : Nat} {s : Ly} (h : rd H q off ver 27 = some (lyC s)) (hf : s.f.length = 24) : LyR H q off ver s := by
  obtain ⟨h1, h2, h3, h4, h5⟩ := lyC_parts hf
  have g1 := rd_part h (o := 0) (m := 12) (by omega)
  rw [h1, Nat.add_zero] at g1
  exact ⟨g1, by rw [rd_part h (by omega), h2], by rw [rd_part h (by omega), h3], by rw [rd_part h (by omega), h4], by rw [rd_part h (by omega), h5]⟩
theorem LyR.pre {H G : Heap} {q off ver : Nat} {s : Ly} (p : Pre H G) (h : LyR H q off ver s) : LyR G q off ver s := ⟨p.rd h.ink, p.rd h.msk, p.rd h.x, p.rd h.y, p.rd h.d⟩
theorem Sc.get {H : Heap} {x : Value} {l : List Ly} (hs : Sc H x l) (hw : ScW l) {i : Nat} (hi : i < l.length) : ∃ q off ver, idxAV 27 x (.int .i64 (i : Int)) = some (adr q off ver) ∧ rd H q off ver 27 = some (lyC (at0 l i)) ∧ LyR H q off ver (at0 l i) := by
  obtain ⟨q, off, ver, h1, h2⟩ := SlR.get1 hs hi
  rw [scC_elem hw hi] at h2
  exact ⟨q, off, ver, h1, h2, LyR.of h2 (hw _ (at0_mem hi)).len⟩
theorem lessI_row {a b : Int} (ha : u16' a) (h1 : okRow a = true) : okRow (lessI a b) = true := by
  obtain ⟨n, rfl⟩ := Int.eq_ofNat_of_zero_le ha.1
  simp [okRow] at h1 ⊢
  have e0 : IntKind.bits .u16 = 16 := rfl
  unfold lessI bitsOf
  simp only []
  have e1 : (BitVec.ofInt (IntKind.bits .u16) (n : Int) &&& ~~~BitVec.ofInt (IntKind.bits .u16) b).toNat ≤ n := by
    rw [BitVec.toNat_and]
    refine Nat.le_trans Nat.and_le_left ?_
    rw [e0, BitVec.ofInt_natCast, BitVec.toNat_ofNat]
    exact Nat.mod_le _ _
  rw [wrapu16 (by omega)]; omega
theorem lessI_ok {a b : Int} : u16' (lessI a b) := by
  have e0 : IntKind.bits .u16 = 16 := rfl
  unfold lessI bitsOf
  simp only []
  have := (BitVec.ofInt (IntKind.bits .u16) a &&& ~~~BitVec.ofInt (IntKind.bits .u16) b).isLt
  rw [e0] at this ⊢
  rw [wrapu16 (by omega)]; omega
theorem join_sub {a b : List Int} (ha : a.length = 12) (hb : b.length = 12) : sub (a ++ b) 0 12 = a ∧ sub (a ++ b) 12 12 = b := by
  constructor
  · unfold sub
    rw [List.drop_zero, List.take_append_of_le_length (by omega), List.take_of_length_le (by omega)]
  · unfold sub
    rw [List.drop_append_of_le_length (by omega), List.drop_eq_nil_of_le (by omega), List.nil_append, List.take_of_length_le (by omega)]
/- Keys. -/
abbrev Ky := Int × Int × Int
def kyC (k : Ky) : List Value := [.int .i16 k.1, .int .i8 k.2.1, .int .i8 k.2.2]
def kysC (l : List Ky) : List Value := rowsC kyC l
theorem kysC_elem {l : List Ky} {i : Nat} (hi : i < l.length) : elem (kysC l) 3 i = kyC (at0 l i) := rows_elem (f := kyC) (esz := 3) (fun _ _ => rfl) hi
def kyF : List Value := [.int .i16 (-30101), .int .i8 (-101), .int .i8 (-101)]
/- Parts. -/
structure Pt where
  f : List Int
  e : Int
  ks : List Ky
  len : f.length = 12
instance : Inhabited Pt := ⟨⟨zr 12 0, 0, [], rfl⟩⟩
structure PtW (s : Pt) : Prop where
  ok : ∀ n ∈ s.f, u16' n
  e : i8 s.e
  ks : ∀ k ∈ s.ks, (-32768 ≤ k.1 ∧ k.1 ≤ 32767) ∧ i8 k.2.1 ∧ i8 k.2.2
def ptT (f : List Int) (a b : Value) : List Value := cs .u16 f ++ [a, b]
def ptC (s : Pt) (y : Value) : List Value := ptT s.f (.int .i8 s.e) y
theorem ptT_at {f : List Int} {a b : Value} (h : f.length = 12) {k : Nat} : (ptT f a b).drop (12 + k) = [a, b].drop k := by
  unfold ptT
  rw [show 12 + k = (cs .u16 f).length + k by simp [h], List.drop_length_add_append]
/-- Keys of a part in memory. -/
abbrev Kr (G : Heap) (y : Value) (s : Pt) : Prop := SlR G y 3 s.ks.length (kysC s.ks)
abbrev KrC (G : Heap) (y : Value) (s : Pt) : Prop := IsCp G y 3 s.ks.length (kysC s.ks) kyF
/-- Parts in memory. -/
def PtS (G : Heap) (x : Value) (l : List Pt) : Prop := ∃ vs, SlR G x 14 l.length vs ∧ ∀ i, i < l.length → ∃ y, elem vs 14 i = ptC (at0 l i) y ∧ Kr G y (at0 l i)
theorem PtS.pre {H G : Heap} {x : Value} {l : List Pt} (p : Pre H G) (h : PtS H x l) : PtS G x l := by
  obtain ⟨vs, h1, h2⟩ := h
  exact ⟨vs, h1.pre p, fun i hi => by obtain ⟨y, h3, h4⟩ := h2 i hi; exact ⟨y, h3, h4.pre p⟩⟩
theorem PtS.lenV {G : Heap} {x : Value} {l : List Pt} (h : PtS G x l) : lenV x = some (.int .i64 l.length) := by
  obtain ⟨vs, h1, _⟩ := h; exact h1.lenV
theorem PtS.get {G : Heap} {x : Value} {l : List Pt} (h : PtS G x l) {i : Nat} (hi : i < l.length) : ∃ q off ver y, idxAV 14 x (.int .i64 (i : Int)) = some (adr q off ver) ∧ rd G q off ver 14 = some (ptC (at0 l i) y) ∧ Kr G y (at0 l i) := by
  obtain ⟨vs, h1, h2⟩ := h
  obtain ⟨q, off, ver, h3, h4⟩ := h1.get1 hi
  obtain ⟨y, h5, h6⟩ := h2 i hi
  rw [h5] at h4
  exact ⟨q, off, ver, y, h3, h4, h6⟩
/-- A copy of a part: what stands in the block, whatever stands in that block itself. -/
structure CqI (H G : Heap) (b : Nat) (flag : Bool) (s : Pt) (y : Value) : Prop where
  r : ∀ k, Kr (G.set b k) y s
  n : y = .slice none 0 0 ∨ old0 H.length y = false
  c : flag = false → (∀ k, KrC (G.set b k) y s) ∧ old0 H.length y = false
theorem CqI.set {H G : Heap} {b : Nat} {flag : Bool} {s : Pt} {y : Value} {k : Blk} (h : CqI H G b flag s y) : CqI H (G.set b k) b flag s y := ⟨fun k' => by rw [set_set]; exact h.r k', h.n, fun hf => ⟨fun k' => by rw [set_set]; exact (h.c hf).1 k', (h.c hf).2⟩⟩
theorem CqI.pre {H G G' : Heap} {b : Nat} {flag : Bool} {s : Pt} {y : Value} (h : CqI H G b flag s y) (p : Pre G G') (hb : b < G.length) : CqI H G' b flag s y :=
  ⟨fun k => (h.r k).pre (set_pre p hb), h.n, fun hf => ⟨fun k => ((h.c hf).1 k).pre (set_pre p hb), (h.c hf).2⟩⟩
def ptF : Pt := ⟨bkF, -101, [(-30101, -101, -101)], rfl⟩
/-- Steps copied, with room behind. -/
def CqS (G : Heap) (x : Value) (l : List Pt) : Prop := ∃ b ver vs, x = slc b 0 ver l.length (l.length + roomN l.length) ∧ G[b]? = some ⟨vs, 14, ver, false⟩ ∧ vs.length = (l.length + roomN l.length) * 14 ∧
  (∀ i, i < l.length → ∃ y, elem vs 14 i = ptC (at0 l i) y ∧ KrC G y (at0 l i)) ∧ ∀ i, l.length ≤ i → i < l.length + roomN l.length → ∃ y, elem vs 14 i = ptC ptF y ∧ Kr G y ptF
theorem CqS.pre {H G : Heap} {x : Value} {l : List Pt} (p : Pre H G) (h : CqS H x l) : CqS G x l := by
  obtain ⟨b, ver, vs, rfl, hg, hl, h1, h2⟩ := h
  refine ⟨b, ver, vs, rfl, by rw [p.get (List.getElem?_eq_some_iff.1 hg).1]; exact hg, hl, fun i hi => ?_, fun i hi hi2 => ?_⟩
  · obtain ⟨y, h3, h4⟩ := h1 i hi; exact ⟨y, h3, h4.pre p⟩
  · obtain ⟨y, h3, h4⟩ := h2 i hi hi2; exact ⟨y, h3, h4.pre p⟩
def ky (ks : List Ky) (i : Nat) : Ky := at0 ks i
def kyB (ks : List Ky) (j : Nat) : Bool := ((in1 (ky ks j).1 0 200 && in1 (ky ks j).2.1 (-24) 24) && in1 (ky ks j).2.2 (-24) 24) && (decide (j = 0) || decide ((ky ks (j - 1)).1 < (ky ks j).1))
def okTk (ks : List Ky) : Bool := allN (kyB ks) ks.length && in1 ks.length 1 20
def okPt (s : Pt) : Bool := (okF s.f && okTk s.ks) && in1 s.e 0 3
abbrev KyW (ks : List Ky) : Prop := ∀ k ∈ ks, (-32768 ≤ k.1 ∧ k.1 ≤ 32767) ∧ i8 k.2.1 ∧ i8 k.2.2
theorem KyW.at {ks : List Ky} (h : KyW ks) {i : Nat} (hi : i < ks.length) : (-32768 ≤ (ky ks i).1 ∧ (ky ks i).1 ≤ 32767) ∧ i8 (ky ks i).2.1 ∧ i8 (ky ks i).2.2 := h _ (at0_mem hi)
theorem Kr.at {H : Heap} {y : Value} {ks : List Ky} (h : SlR H y 3 ks.length (kysC ks)) {j : Nat} (hj : j < ks.length) : ∃ q off ver, idxAV 3 y (.int .i64 (j : Int)) = some (adr q off ver) ∧ rd H q off ver 3 = some (kyC (ky ks j)) ∧
    rd H q off ver 1 = some [.int .i16 (ky ks j).1] ∧ rd H q (off + 1) ver 1 = some [.int .i8 (ky ks j).2.1] ∧ rd H q (off + 2) ver 1 = some [.int .i8 (ky ks j).2.2] := by
  obtain ⟨q, off, ver, h1, h2⟩ := SlR.get1 h hj
  rw [kysC_elem hj] at h2
  have r0 := rd_part h2 (o := 0) (m := 1) (by omega)
  have r1 := rd_part h2 (o := 1) (m := 1) (by omega)
  have r2 := rd_part h2 (o := 2) (m := 1) (by omega)
  rw [Nat.add_zero] at r0
  exact ⟨q, off, ver, h1, h2, r0, r1, r2⟩
/-- A part in memory. -/
structure PtR (H : Heap) (q off ver : Nat) (s : Pt) (y : Value) : Prop where
  rf : rd H q off ver 12 = some (cs .u16 s.f)
  re : rd H q (off + 12) ver 1 = some [.int .i8 s.e]
  ry : rd H q (off + 13) ver 1 = some [y]
  rk : Kr H y s
theorem PtR.of {H : Heap} {q off ver : Nat} {s : Pt} {y : Value} (h : rd H q off ver 14 = some (ptC s y)) (hk : Kr H y s) : PtR H q off ver s y := by
  have hl := s.len
  have g1 := rd_part h (o := 0) (m := 12) (by omega)
  have g2 := rd_part h (o := 12) (m := 1) (by omega)
  have g3 := rd_part h (o := 13) (m := 1) (by omega)
  unfold ptC at g1 g2 g3
  rw [show 12 = 12 + 0 from rfl, ptT_at hl] at g2
  rw [show 13 = 12 + 1 from rfl, ptT_at hl] at g3
  rw [Nat.add_zero, List.drop_zero] at g1
  unfold ptT at g1
  rw [List.take_left' (by simp [hl])] at g1
  exact ⟨g1, g2, g3, hk⟩
theorem PtR.pre {H G : Heap} {q off ver : Nat} {s : Pt} {y : Value} (p : Pre H G) (h : PtR H q off ver s y) : PtR G q off ver s y := ⟨p.rd h.rf, p.rd h.re, p.rd h.ry, SlR.pre p h.rk⟩
structure TkV (ks : List Ky) : Prop where
  n1 : 1 ≤ ks.length
  n20 : ks.length ≤ 20
  r : ∀ i, i < ks.length → (0 ≤ (ky ks i).1 ∧ (ky ks i).1 ≤ 200) ∧ (-24 ≤ (ky ks i).2.1 ∧ (ky ks i).2.1 ≤ 24) ∧ -24 ≤ (ky ks i).2.2 ∧ (ky ks i).2.2 ≤ 24
  s : ∀ i, i + 1 < ks.length → (ky ks i).1 < (ky ks (i + 1)).1
theorem okTk_V {ks : List Ky} (h : okTk ks = true) : TkV ks := by
  simp only [okTk, Bool.and_eq_true] at h
  obtain ⟨h1, h2⟩ := h
  have hl : 1 ≤ ks.length ∧ ks.length ≤ 20 := by simp [in1] at h2; omega
  refine ⟨hl.1, hl.2, fun i hi => ?_, fun i hi => ?_⟩
  · have := allN_get (p := kyB ks) h1 hi
    simp only [kyB, Bool.and_eq_true, in1, decide_eq_true_eq] at this
    exact ⟨this.1.1.1, this.1.1.2, this.1.2⟩
  · have := allN_get (p := kyB ks) h1 hi
    simp only [kyB, Bool.and_eq_true, in1, decide_eq_true_eq, Bool.or_eq_true] at this
    rcases this.2 with h | h
    · omega
    · exact h
theorem PtW.fr {s : Pt} (h : PtW s) : FrW s.f := ⟨s.len, h.ok⟩
/-- A copy of parts while marks are being written over it. -/
structure MkP (G G' : Heap) (b ver lo hi n : Nat) (y : Nat → Value) (m : Nat → Nat) : Prop where
  len : G'.length = G.length
  fr : ∀ j, j < lo ∨ hi ≤ j → G'[j]? = G[j]?
  inb : lo ≤ b ∧ b < hi
  out : ∃ vs, G'[b]? = some ⟨vs, 14, ver, false⟩ ∧ n * 14 ≤ vs.length ∧ ∀ i, i < n → vs[i * 14 + 13]? = some (y i)
  row : ∀ i, i < n → ∃ b' ver' cap' ws, y i = slc b' 0 ver' (m i) cap' ∧ lo ≤ b' ∧ b' < hi ∧ b' ≠ b ∧ G'[b']? = some ⟨ws, 3, ver', false⟩ ∧ m i * 3 ≤ ws.length
theorem MkP.rows {G G' : Heap} {b ver lo hi n : Nat} {y : Nat → Value} {m : Nat → Nat} (h : MkP G G' b ver lo hi n y m) {b' ver' : Nat} {ws ws' : List Value} (hb : lo ≤ b' ∧ b' < hi) (hne : b' ≠ b) (hg : G'[b']? = some ⟨ws, 3, ver', false⟩) (hw : ws'.length = ws.length) :
    MkP G (G'.set b' ⟨ws', 3, ver', false⟩) b ver lo hi n y m := by
  refine ⟨by simp [h.len], fun j hj => ?_, h.inb, ?_, fun i hi => ?_⟩
  · rw [List.getElem?_set_ne (by omega)]
    exact h.fr j hj
  · obtain ⟨vs, h1, h2⟩ := h.out
    exact ⟨vs, by rw [List.getElem?_set_ne hne]; exact h1, h2⟩
  · obtain ⟨b2, ver2, cap2, ws2, h1, h2, h3, h4, h5, h6⟩ := h.row i hi
    by_cases hb2 : b' = b2
    · subst hb2
      rw [hg] at h5
      cases h5
      exact ⟨b', ver', cap2, ws', h1, h2, h3, h4, get_set hg, by rw [hw]; exact h6⟩
    · exact ⟨b2, ver2, cap2, ws2, h1, h2, h3, h4, by rw [List.getElem?_set_ne hb2]; exact h5, h6⟩
/-- A source: a block of three cells; its bytes are elder. At most k bytes were taken. -/
def srB (x : Value) (i sd : Int) : Blk := ⟨[x, .int .i64 i, .int .u64 sd], 1, 0, false⟩
def Src (G : Heap) (P k : Nat) : Prop := ∃ x bs i sd, G[P]? = some (srB x i sd) ∧ SlR (G.take P) x 1 bs.length (cs .u8 bs) ∧ (∀ b ∈ bs, 0 ≤ b ∧ b ≤ 255) ∧ bs.length ≤ 1000000 ∧ 0 ≤ i ∧ i ≤ k
theorem pre_take {G G' : Heap} {n : Nat} (p : Pre G G') (hn : n ≤ G.length) : G'.take n = G.take n := by
  obtain ⟨L, rfl⟩ := p
  rw [List.take_append_of_le_length hn]
theorem Src.lt {G : Heap} {P k : Nat} (h : Src G P k) : P < G.length := by
  obtain ⟨x, bs, i, sd, h1, _⟩ := h
  exact (List.getElem?_eq_some_iff.1 h1).1
theorem Src.le {G : Heap} {P k k' : Nat} (h : Src G P k) (hk : k ≤ k') : Src G P k' := by
  obtain ⟨x, bs, i, sd, h1, h2, h3, h4, h5, h6⟩ := h
  exact ⟨x, bs, i, sd, h1, h2, h3, h4, h5, by omega⟩
theorem Src.pre {G G' : Heap} {P k : Nat} (p : Pre G G') (h : Src G P k) : Src G' P k := by
  have hl := h.lt
  obtain ⟨x, bs, i, sd, h1, h2, h3⟩ := h
  exact ⟨x, bs, i, sd, by rw [p.get hl]; exact h1, by rw [pre_take p (Nat.le_of_lt hl)]; exact h2, h3⟩
/-- Nothing but the source's block has changed. -/
structure Mv (P : Nat) (G G' : Heap) : Prop where
  len : G'.length = G.length
  get : ∀ j, j ≠ P → G'[j]? = G[j]?
theorem Mv.trans {P : Nat} {G G' G'' : Heap} (h : Mv P G G') (h' : Mv P G' G'') : Mv P G G'' := ⟨h'.len.trans h.len, fun j hj => (h'.get j hj).trans (h.get j hj)⟩
theorem Mv.take {P : Nat} {G G' : Heap} (h : Mv P G G') {n0 : Nat} (hn : n0 ≤ P) : G'.take n0 = G.take n0 := by
  apply List.ext_getElem?
  intro i
  rw [List.getElem?_take, List.getElem?_take]
  split
  · rw [h.get i (by omega)]
  · rfl
theorem Mv.rd {P : Nat} {G G' : Heap} (h : Mv P G G') {b off ver n : Nat} (hb : b ≠ P) : rd G' b off ver n = rd G b off ver n := by
  unfold Fb.rd
  rw [h.get b hb]
theorem Src.mv {P k : Nat} {G G' : Heap} (h : Src G P k) (hP : G'[P]? = G[P]?) (hj : ∀ j, j < P → G'[j]? = G[j]?) : Src G' P k := by
  obtain ⟨x, bs, i, sd, h1, h2, h3⟩ := h
  refine ⟨x, bs, i, sd, by rw [hP]; exact h1, ?_, h3⟩
  have : G'.take P = G.take P := by
    apply List.ext_getElem?
    intro j
    rw [List.getElem?_take, List.getElem?_take]
    split
    · exact hj j ‹_›
    · rfl
  rw [this]; exact h2
theorem Src.take {P k n : Nat} {G : Heap} (h : Src G P k) (hn : P < n) : Src (G.take n) P k :=
  h.mv (by rw [List.getElem?_take, if_pos hn]) fun j hj => by rw [List.getElem?_take, if_pos (by omega)]
theorem orI_ok {a b : Int} : u16' (orI a b) := by
  have e0 : IntKind.bits .u16 = 16 := rfl
  unfold orI bitsOf
  simp only []
  have : (BitVec.ofInt (IntKind.bits .u16) a ||| BitVec.ofInt (IntKind.bits .u16) b).toNat < 2 ^ 16 := by rw [e0]; exact BitVec.isLt _
  rw [wrapu16 (by omega)]; omega
theorem orI_row {a b : Int} (ha : u16' a) (hb : u16' b) (h1 : okRow a = true) (h2 : okRow b = true) : okRow (orI a b) = true := by
  obtain ⟨n, rfl⟩ := Int.eq_ofNat_of_zero_le ha.1
  obtain ⟨m, rfl⟩ := Int.eq_ofNat_of_zero_le hb.1
  simp [okRow] at h1 h2 ⊢
  have e0 : IntKind.bits .u16 = 16 := rfl
  unfold orI bitsOf
  simp only []
  have e1 : (BitVec.ofInt (IntKind.bits .u16) (n : Int) ||| BitVec.ofInt (IntKind.bits .u16) (m : Int)).toNat = n ||| m := by
    rw [BitVec.toNat_or, e0, BitVec.ofInt_natCast, BitVec.ofInt_natCast, BitVec.toNat_ofNat, BitVec.toNat_ofNat, Nat.mod_eq_of_lt (show n < 2 ^ 16 by omega), Nat.mod_eq_of_lt (show m < 2 ^ 16 by omega)]
  have e2 : n ||| m < 2 ^ 12 := Nat.or_lt_two_pow (show n < 2 ^ 12 by omega) (show m < 2 ^ 12 by omega)
  rw [e1, wrapu16 (by omega)]; omega
/-- A valid frame. -/
structure VF (f : List Int) : Prop where
  W : FrW f
  ok : okF f = true
theorem VF.row {f : List Int} (h : VF f) {i : Nat} (hi : i < 12) : u16' (nth f i) ∧ okRow (nth f i) = true := ⟨h.W.nth hi, List.all_eq_true.1 (show f.all okRow = true from h.ok) _ (nth_mem (by rw [h.W.len]; exact hi))⟩
theorem VF.zero : VF (zr 12 0) := ⟨⟨by simp, fun n hn => by simp [zr] at hn; subst hn; exact ⟨by omega, by omega⟩⟩, by decide⟩
/-- In a function that draws: the source and a frame of its own. -/
structure Loc (G G' : Heap) (P k : Nat) (f : List Int) : Prop where
  src : Src G' P k
  fr : G'[G.length]? = some ⟨cs .u16 f, 1, 0, false⟩
  V : VF f
  len : G'.length = G.length + 1
  get : ∀ j, j < G.length → j ≠ P → G'[j]? = G[j]?
  lt : P < G.length
theorem Loc.le {G G' : Heap} {P k k' : Nat} {f : List Int} (h : Loc G G' P k f) (hk : k ≤ k') : Loc G G' P k' f := ⟨h.src.le hk, h.fr, h.V, h.len, h.get, h.lt⟩
structure Lo2 (G G' : Heap) (P k : Nat) (x : Value) (L : List (List Int)) (f : List Int) : Prop where
  src : Src G' P k
  ls : ∃ ver, x = slc G.length 0 ver L.length L.length ∧ G'[G.length]? = some ⟨bkC L, 12, ver, false⟩
  VL : ∀ g ∈ L, VF g
  fr : G'[G.length + 1]? = some ⟨cs .u16 f, 1, 0, false⟩
  V : VF f
  len : G.length + 2 ≤ G'.length
  get : ∀ j, j < G.length → j ≠ P → G'[j]? = G[j]?
  lt : P < G.length
theorem Lo2.le {G G' : Heap} {P k k' : Nat} {x : Value} {L : List (List Int)} {f : List Int} (h : Lo2 G G' P k x L f) (hk : k ≤ k') : Lo2 G G' P k' x L f := ⟨h.src.le hk, h.ls, h.VL, h.fr, h.V, h.len, h.get, h.lt⟩
theorem vl_size {L : List (List Int)} (h : ∀ g ∈ L, VF g) : (bkC L).length = L.length * 12 := bkC_length fun f hf => (h f hf).W
theorem Lo2.bk {G G' : Heap} {P k : Nat} {x : Value} {L : List (List Int)} {f : List Int} (h : Lo2 G G' P k x L f) : Bk G' x L := by
  obtain ⟨ver, rfl, g⟩ := h.ls
  have hs := vl_size h.VL
  exact ⟨hs, .inr ⟨_, 0, ver, L.length, rfl, Nat.le_refl _, by rw [rd_at g rfl (by simp [hs])]; simp [take_all, hs], _, g, rfl, rfl⟩⟩
/-- In a function that draws: the source, and blocks of the call's own behind. -/
structure Lo0 (G G' : Heap) (P k : Nat) : Prop where
  src : Src G' P k
  len : G.length ≤ G'.length
  get : ∀ j, j < G.length → j ≠ P → G'[j]? = G[j]?
  lt : P < G.length
theorem Lo0.pre {G G' G'' : Heap} {P k : Nat} (h : Lo0 G G' P k) (p : Pre G' G'') : Lo0 G G'' P k := by
  have h1 := h.len
  exact ⟨h.src.pre p, Nat.le_trans h1 p.len, fun j hj hp => by rw [p.get (by omega)]; exact h.get j hj hp, h.lt⟩
theorem Lo0.le {G G' : Heap} {P k k' : Nat} (h : Lo0 G G' P k) (hk : k ≤ k') : Lo0 G G' P k' := ⟨h.src.le hk, h.len, h.get, h.lt⟩
/-- Valid light. -/
structure VL (l : List Int) : Prop where
  len : l.length = 144
  ok : okAll l = true
theorem VL.at {l : List Int} (h : VL l) {i : Nat} (hi : i < 144) : 0 ≤ nth l i ∧ nth l i ≤ 1000 := by
  have := List.all_eq_true.1 (show l.all okL = true from h.ok) _ (nth_mem (i := i) (by rw [h.len]; exact hi))
  simpa [okL] using this
theorem VL.zero : VL (zr 144 0) := ⟨by simp, by decide⟩
theorem bit_get {n : Nat} {i : Nat} (h : i < 16) : (BitVec.ofInt 16 (n : Int)).getLsbD i = n.testBit i := by
  rw [BitVec.ofInt_natCast, BitVec.getLsbD_ofNat]
  simp [h]
theorem dotB_vec {v : BitVec 16} {i : Nat} : dotB (IntKind.wrap .u16 (v.toNat : Int)) i = v.getLsbD i := by
  have := v.isLt
  rw [wrapu16 (by omega), dotB_bit]
  exact BitVec.testBit_toNat v
theorem or_dot {a b : Int} (ha : u16' a) (hb : u16' b) {i : Nat} (hi : i < 16) : dotB (orI a b) i = (dotB a i || dotB b i) := by
  obtain ⟨n, rfl⟩ := Int.eq_ofNat_of_zero_le ha.1
  obtain ⟨m, rfl⟩ := Int.eq_ofNat_of_zero_le hb.1
  rw [dotB_bit, dotB_bit, ← bit_get hi, ← bit_get hi, ← BitVec.getLsbD_or]
  exact dotB_vec
theorem less_dot {a b : Int} (ha : u16' a) (hb : u16' b) {i : Nat} (hi : i < 16) : dotB (lessI a b) i = (dotB a i && !dotB b i) := by
  obtain ⟨n, rfl⟩ := Int.eq_ofNat_of_zero_le ha.1
  obtain ⟨m, rfl⟩ := Int.eq_ofNat_of_zero_le hb.1
  have e1 : (BitVec.ofInt 16 (n : Int) &&& ~~~BitVec.ofInt 16 (m : Int)).getLsbD i = ((BitVec.ofInt 16 (n : Int)).getLsbD i && !(BitVec.ofInt 16 (m : Int)).getLsbD i) := by
    rw [BitVec.getLsbD_and, BitVec.getLsbD_not]; simp [hi]
  rw [dotB_bit, dotB_bit, ← bit_get hi, ← bit_get hi, ← e1]
  exact dotB_vec
theorem hasF_dots {p : Nat → Nat → Bool} {x y : Nat} (hx : x < 12) (hy : y < 12) : hasF (dotsF p) x y = p x y := by
  rw [hasF, dotsF_nth hy, dotB_bit, rowN_bit]; simp [hx]
theorem VF.dots {f : List Int} (h : VF f) : dotsF (hasF f) = f := by
  refine (ext_nth (by rw [dotsF_length, h.W.len]) fun y hy => ?_)
  rw [dotsF_length] at hy
  obtain ⟨n, hn, hlt⟩ := okF_row h.ok h.W hy
  rw [dotsF_nth hy, hn]
  have := rowN_eq (q := fun x => hasF f x y) (n := n) (m := 12) hlt fun x hx => by rw [hasF, hn, dotB_bit]
  rw [← this]
theorem VF.ext {f g : List Int} (hf : VF f) (hg : VF g) (h : ∀ x y, x < 12 → y < 12 → hasF f x y = hasF g x y) : f = g := by
  rw [← hf.dots, ← hg.dots]
  exact dotsF_congr h
theorem mix_or {f g : List Int} (hf : VF f) (hg : VF g) {x y : Nat} (hx : x < 12) (hy : y < 12) : hasF (mixF orI f g) x y = (hasF f x y || hasF g x y) := by
  rw [hasF, mixF, nth_tabN hy]; exact or_dot (hf.row hy).1 (hg.row hy).1 (by omega)
theorem mix_less {f g : List Int} (hf : VF f) (hg : VF g) {x y : Nat} (hx : x < 12) (hy : y < 12) : hasF (mixF lessI f g) x y = (hasF f x y && !hasF g x y) := by
  rw [hasF, mixF, nth_tabN hy]; exact less_dot (hf.row hy).1 (hg.row hy).1 (by omega)
theorem mixV {op : Int → Int → Int} {f g : List Int} (hf : VF f) (hg : VF g) (h : ∀ a b, u16' a → u16' b → okRow a = true → okRow b = true → u16' (op a b) ∧ okRow (op a b) = true) : VF (mixF op f g) := by
  have key : ∀ i, i < 12 → u16' (nth (mixF op f g) i) ∧ okRow (nth (mixF op f g) i) = true := fun i hi => by
    rw [mixF, nth_tabN hi]
    exact h _ _ (hf.row hi).1 (hg.row hi).1 (hf.row hi).2 (hg.row hi).2
  exact ⟨⟨mixF_length, fun n hn => by obtain ⟨i, hi, rfl⟩ := mem_nth hn; rw [mixF_length] at hi; exact (key i hi).1⟩, okF_true mixF_length fun i hi => (key i hi).2⟩
theorem or_V {f g : List Int} (hf : VF f) (hg : VF g) : VF (mixF orI f g) := mixV hf hg fun _ _ h1 h2 h3 h4 => ⟨orI_ok, orI_row h1 h2 h3 h4⟩
theorem less_V {f g : List Int} (hf : VF f) (hg : VF g) : VF (mixF lessI f g) := mixV hf hg fun _ _ h1 h2 h3 _ => ⟨lessI_ok, lessI_row h1 h3⟩
theorem hasF_zero {x y : Nat} (hx : x < 12) (hy : y < 12) : hasF (zr 12 0) x y = false := by rw [← dotsF_none, hasF_dots hx hy]
theorem less_none {f g : List Int} (hf : VF f) (hg : VF g) (h : ∀ x y, x < 12 → y < 12 → hasF f x y = true → hasF g x y = true) : mixF lessI f g = zr 12 0 :=
  (less_V hf hg).ext .zero fun x y hx hy => by
    rw [mix_less hf hg hx hy, hasF_zero hx hy]
    cases h1 : hasF f x y with
    | false => rfl
    | true => rw [h x y hx hy h1]; rfl
/-- A list of bytes in memory. -/
structure By (H : Heap) (x : Value) (bs : List Int) : Prop where
  s : SlR H x 1 bs.length (cs .u8 bs)
  b : ∀ v ∈ bs, 0 ≤ v ∧ v ≤ 255
theorem By.pre {H G : Heap} {x : Value} {bs : List Int} (p : Pre H G) (h : By H x bs) : By G x bs := ⟨h.s.pre p, h.b⟩
/-- In a function that draws: the source, and a list of the call's own in the first new block. -/
structure LoG (G G' : Heap) (P k : Nat) (x : Value) (esz n : Nat) (vs : List Value) : Prop where
  src : Src G' P k
  ls : ∃ ver, x = slc G.length 0 ver n n ∧ G'[G.length]? = some ⟨vs, esz, ver, false⟩
  size : vs.length = n * esz
  len : G.length + 1 ≤ G'.length
  get : ∀ j, j < G.length → j ≠ P → G'[j]? = G[j]?
  lt : P < G.length
theorem LoG.le {G G' : Heap} {P k k' esz n : Nat} {x : Value} {vs : List Value} (h : LoG G G' P k x esz n vs) (hk : k ≤ k') : LoG G G' P k' x esz n vs := ⟨h.src.le hk, h.ls, h.size, h.len, h.get, h.lt⟩
theorem LoG.rd {G G' : Heap} {P k esz n o m : Nat} {x : Value} {vs : List Value} (h : LoG G G' P k x esz n vs) {ver : Nat} (hx : x = slc G.length 0 ver n n) (ho : o + m ≤ n * esz) : Fb.rd G' G.length o ver m = some ((vs.drop o).take m) := by
  obtain ⟨ver', e, g⟩ := h.ls
  rw [hx] at e
  have hve : ver = ver' := by
    have := e
    simp [slc] at this
    exact this
  subst hve
  exact rd_at (ver := ver) g rfl (by rw [h.size]; exact ho)
/-- A drawn track. -/
structure DT (ks : List Ky) : Prop where
  n1 : 1 ≤ ks.length
  n5 : ks.length ≤ 5
  ok : okTk ks = true
/-- A drawn part. -/
structure DP (s : Pt) : Prop where
  f : VF s.f
  e : 0 ≤ s.e ∧ s.e ≤ 3
  ks : DT s.ks
theorem DT.W {ks : List Ky} (h : DT ks) : KyW ks := fun k hk => by
  have V := okTk_V h.ok
  obtain ⟨i, hi, rfl⟩ := List.getElem_of_mem hk
  have := V.r i hi
  have e : ky ks i = ks[i] := Option.some.inj ((at0_get hi).symm.trans (List.getElem?_eq_getElem hi))
  rw [e] at this
  exact ⟨by omega, ⟨by omega, by omega⟩, ⟨by omega, by omega⟩⟩
theorem DP.ok {s : Pt} (h : DP s) : okPt s = true := by
  have := h.e
  simp [okPt, h.f.ok, h.ks.ok, in1, this]
theorem DP.W {s : Pt} (h : DP s) : PtW s := ⟨h.f.W.ok, ⟨by have := h.e; omega, by have := h.e; omega⟩, h.ks.W⟩
def lpD (b : List (List Int)) (n i : Nat) : Int := difF (fr b (i + n - 1)) (fr b i)
/-- The best of what was visited. -/
def LpI (b : List (List Int)) (o : Lp) (S : Nat → Nat → Prop) : Prop := match o with
  | none => ∀ n i, ¬ S n i
  | some (f, c, j) => S c f ∧ j = lpD b c f ∧ ∀ n i, S n i → j ≤ lpD b n i ∧ (lpD b n i = j → n < c ∨ (n = c ∧ f ≤ i))
theorem LpI.step {b : List (List Int)} {o : Lp} {S S' : Nat → Nat → Prop} {n i : Nat} (h : LpI b o S) (hS : ∀ n' i', S' n' i' ↔ S n' i' ∨ (n' = n ∧ i' = i)) (ho : ∀ n' i', S n' i' → n < n' ∨ (n = n' ∧ i' < i)) : LpI b (stepL b n i o) S' := by
  cases o with
  | none =>
    refine ⟨(hS n i).2 (.inr ⟨rfl, rfl⟩), rfl, fun n' i' hs => ?_⟩
    rcases (hS n' i').1 hs with h1 | ⟨rfl, rfl⟩
    · exact absurd h1 (h n' i')
    · exact ⟨Int.le_refl _, fun _ => .inr ⟨rfl, Nat.le_refl _⟩⟩
  | some q =>
    obtain ⟨f, c, j⟩ := q
    obtain ⟨h1, h2, h3⟩ := h
    show LpI b (if lpD b n i < j then some (i, n, lpD b n i) else some (f, c, j)) S'
    split
    · rename_i hlt
      refine ⟨(hS n i).2 (.inr ⟨rfl, rfl⟩), rfl, fun n' i' hs => ?_⟩
      rcases (hS n' i').1 hs with h4 | ⟨rfl, rfl⟩
      · have := (h3 n' i' h4).1
        exact ⟨by omega, fun he => by omega⟩
      · exact ⟨Int.le_refl _, fun _ => .inr ⟨rfl, Nat.le_refl _⟩⟩
    · rename_i hge
      refine ⟨(hS c f).2 (.inl h1), h2, fun n' i' hs => ?_⟩
      rcases (hS n' i').1 hs with h4 | ⟨rfl, rfl⟩
      · exact h3 n' i' h4
      · refine ⟨by omega, fun _ => ?_⟩
        rcases ho c f h1 with h5 | h5
        · exact .inl h5
        · exact .inr ⟨h5.1, by omega⟩
/-- What is left of a text behind some of its parts. -/
def tailC : Nat → Cd → Cd
  | 0, c => c
  | n + 1, .seq _ b => tailC n b
  | _, c => c
structure C1 (G : Heap) (x cx l1 l2 l3 : Value) (b c : List (List Int)) (frm : Nat) : Prop where
  bk : Bk G x b
  ck : Bk G cx c
  Vb : ∀ f ∈ b, VF f
  nb : b.length ≤ 1000
  c1 : 1 ≤ c.length
  cb : frm + c.length ≤ b.length
  sub : ∀ i, i < c.length → fr c i = fr b (frm + i)
  s1 : SlR G l1 1 (mcK b c 0 (mcN b c)).1.length (cs .i64 (mcK b c 0 (mcN b c)).1)
  s2 : SlR G l2 1 (mcK b c 1 (mcN b c)).1.length (cs .i64 (mcK b c 1 (mcN b c)).1)
  s3 : SlR G l3 2 (mcK b c 1 (mcN b c)).1.length (mvsC (mcK b c 1 (mcN b c)).2)
theorem C1.V {G : Heap} {x cx l1 l2 l3 : Value} {b c : List (List Int)} {frm : Nat} (h : C1 G x cx l1 l2 l3 b c frm) {i : Nat} (hi : i < c.length) : VF (fr c i) := by
  rw [h.sub i hi]
  have := h.cb
  exact h.Vb _ (at0_mem (by omega))
/-- What the walk knows all along. -/
structure K17 (H G : Heap) (x y : Value) (b : List (List Int)) (bs : List Int) (tw : Bool) (pv : Int) : Prop where
  P : Pre H G
  by' : By G y bs
  bk : Bk G x b
  V : ∀ f ∈ b, VF f
  nb : b.length ≤ 40
  tw' : tw = true → ∃ L, b = L ++ L
  pv' : 1 ≤ b.length → pv = findN (perP b) (b.length + 1)
theorem K17.pre {H G G' : Heap} {x y : Value} {b : List (List Int)} {bs : List Int} {tw : Bool} {pv : Int} (h : K17 H G x y b bs tw pv) (p : Pre G G') : K17 H G' x y b bs tw pv := ⟨h.P.trans p, h.by'.pre p, h.bk.pre p, h.V, h.nb, h.tw', h.pv'⟩
/-- A text with another one behind some of its parts. -/
def headC : Nat → Cd → Cd → Cd
  | 0, _, t => t
  | n + 1, .seq a b, t => .seq a (headC n b t)
  | _, c, _ => c
/-- A drawn layer. -/
structure DLy (s : Ly) : Prop where
  W : LyW s
  ok : okLy s = true
  bx : -3 ≤ s.x ∧ s.x ≤ 3
  bz : -3 ≤ s.y ∧ s.y ≤ 3
  bd : 0 ≤ s.d ∧ s.d ≤ 8
theorem DLy.of {f g : List Int} {x y d : Int} (hf : VF f) (hg : VF g) (hx : -3 ≤ x ∧ x ≤ 3) (hy : -3 ≤ y ∧ y ≤ 3) (hd : 0 ≤ d ∧ d ≤ 8) : DLy ⟨f ++ mixF orI f g, x, y, d⟩ := by
  have V := or_V hf hg
  have e1 : inkL ⟨f ++ mixF orI f g, x, y, d⟩ = f := (join_sub hf.W.len V.W.len).1
  have e2 : mskL ⟨f ++ mixF orI f g, x, y, d⟩ = mixF orI f g := (join_sub hf.W.len V.W.len).2
  refine ⟨⟨by simp [hf.W.len, V.W.len], fun n hn => ?_, ⟨by simp only []; omega, by simp only []; omega⟩, ⟨by simp only []; omega, by simp only []; omega⟩, ⟨by simp only []; omega, by simp only []; omega⟩⟩, ?_, hx, hy, hd⟩
  · rcases List.mem_append.1 hn with h | h
    · exact hf.W.ok n h
    · exact V.W.ok n h
  · unfold okLy okCel
    rw [e1, e2, hf.ok, V.ok, less_none hf V fun u v hu hv h => by rw [mix_or hf hg hu hv, h]; rfl]
    simp [in1]; omega
/-- Side by side. -/
def Adj (u v u' v' : Nat) : Prop := (v = v' ∧ (u = u' + 1 ∨ u' = u + 1)) ∨ (u = u' ∧ (v = v' + 1 ∨ v' = v + 1))
def Dot (f : List Int) (u v : Nat) : Prop := u < 12 ∧ v < 12 ∧ hasF f u v = true
/-- What hangs together. -/
inductive Conn (f : List Int) (x y : Nat) : Nat → Nat → Prop
  | base (h : Dot f x y) : Conn f x y x y
  | step {u v u' v' : Nat} (h : Conn f x y u v) (ha : Adj u' v' u v) (hd : Dot f u' v') : Conn f x y u' v'
theorem Conn.trans {f : List Int} {x y u v a b : Nat} (h : Conn f x y u v) (h2 : Conn f u v a b) : Conn f x y a b := by
  induction h2 with
  | base _ => exact h
  | step _ ha hd ih => exact .step ih ha hd
theorem dec_small {n : Nat} (h : n < 10) : Lib.decDigits n = [UInt8.ofNat (48 + n)] := by rw [Lib.decDigits, dif_pos h]
theorem dec_big {n : Nat} (h : ¬ n < 10) : Lib.decDigits n = Lib.decDigits (n / 10) ++ [UInt8.ofNat (48 + n % 10)] := by rw [Lib.decDigits, dif_neg h]
@[simp] theorem str_size {l : List UInt8} : (⟨l.toArray⟩ : ByteArray).size = l.length := by rw [Lib.size_eq]
@[simp] theorem lensV_s {l : List UInt8} : lensV (str l) = some (.int .i64 l.length) := by unfold str; simp
theorem eqV_s {a b : List UInt8} : eqV .s (str a) (str b) = some (decide (a = b)) := by
  show some ((⟨a.toArray⟩ : ByteArray).toList == (⟨b.toArray⟩ : ByteArray).toList) = _
  rw [Lib.toList_data, Lib.toList_data]
  show some (a == b) = _
  by_cases h : a = b
  · simp [h]
  · simp [h]
@[simp] theorem eqV_s0 {a : List UInt8} : eqV .s (str a) (.string ⟨#[]⟩) = some (decide (a = [])) := eqV_s (b := [])
theorem add_s {a b : List UInt8} (h : a.length + b.length ≤ 9223372036854775807) : binop .add (str a) (str b) = some (str (a ++ b)) := by
  show (if (((⟨a.toArray⟩ : ByteArray).size + (⟨b.toArray⟩ : ByteArray).size : Nat) : Int) > IntKind.i64.max then none else some (Value.string (⟨a.toArray⟩ ++ ⟨b.toArray⟩))) = _
  rw [str_size, str_size, if_neg (by have : IntKind.i64.max = 9223372036854775807 := by decide
                                     omega)]
  unfold str
  congr 2
@[simp] theorem old0_s {n0 : Nat} {l : List UInt8} : old0 n0 (str l) = true := rfl
@[simp] theorem old1_s {n0 : Nat} {l : List UInt8} : old1 n0 (str l) = true := rfl
@[simp] theorem finish_s {n0 : Nat} {H' : Heap} {l : List UInt8} : finish n0 H' [str l] = (str l, H'.take n0) := finish_1 rfl
@[simp] theorem cellsOf_s {l : List UInt8} : cellsOf (str l) = [str l] := rfl
@[simp] theorem eqV_in : eqV .i .nilIface .nilIface = some true := rfl
@[simp] theorem eqV_is {t : TypeId} {v : Value} : eqV .i (.iface t v) .nilIface = some false := rfl
theorem call522 {pu : Bool} {n : Int} {H : Heap} (h1 : -9223372036854775808 ≤ n) (h2 : n ≤ 9223372036854775807) : Call tab pu 522 [.int .i64 n, .int .i64 10] H = some (str (Lib.itoa n), H) := by
  rw [Call_ext t522 (.inr rfl)]
  show (if -9223372036854775808 ≤ n ∧ n ≤ 9223372036854775807 then some (str (Lib.itoa n), H) else none) = _
  rw [if_pos ⟨h1, h2⟩]
theorem call379 {pu : Bool} {n : Int} {H : Heap} (h1 : -9223372036854775808 ≤ n) (h2 : n ≤ 9223372036854775807) : Call tab pu 379 [.int .i64 n] H = some (str (Lib.itoa n), H) := by
  refine Call_wp t379 (.inr rfl) rfl ?_
  simp [c379, k379, call522 h1 h2]
/-- A source whose bytes and state are known. -/
def SrD (G : Heap) (P : Nat) (bs : List Int) (s : Int × Int) : Prop := ∃ x, G[P]? = some (srB x s.1 s.2) ∧ SlR (G.take P) x 1 bs.length (cs .u8 bs)
theorem SrD.lt {G : Heap} {P : Nat} {bs : List Int} {s : Int × Int} (h : SrD G P bs s) : P < G.length := by
  obtain ⟨x, h1, _⟩ := h
  exact (List.getElem?_eq_some_iff.1 h1).1
structure K24 (H G : Heap) (x : Value) (b : List (List Int)) (f : List Int) (m : Nat) : Prop where
  P : Pre H G
  bk : Bk G x b
  V : ∀ f ∈ b, VF f
  nb : b.length ≤ 4
  hf : VF f
  hm : m ≤ 4
theorem K24.pre {H G G' : Heap} {x : Value} {b : List (List Int)} {f : List Int} {m : Nat} (h : K24 H G x b f m) (p : Pre G G') : K24 H G' x b f m := ⟨h.P.trans p, SlR.pre p h.bk, h.V, h.nb, h.hf, h.hm⟩
def b2sV (H : Heap) : Value → Option Value
  | .slice none 0 0 => some (.string .empty)
  | .slice (some ⟨b, off, some ver⟩) n _ => (rd H b off ver n).bind fun cs => (bytesOf cs).map fun l => .string ⟨l.toArray⟩
  | _ => none
theorem ev1_b2s {cl : Cl} {n0 : Nat} {wb : Bool} {e : Env} {H : Heap} {x : Opd} : ev1 cl n0 wb e H (.b2s x) = (b2sV H (x.ev e)).map (·, H) := by
  show (match x.ev e with
    | .slice none 0 0 => some ((Value.string ByteArray.empty, H) : Value × Heap)
    | .slice (some ⟨b, off, some ver⟩) n _ => (rd H b off ver n).bind fun cs => (bytesOf cs).map fun (l : List UInt8) => (Value.string ⟨l.toArray⟩, H)
    | _ => none) = _
  generalize x.ev e = v
  unfold b2sV
  split
  · rfl
  · rename_i b off ver n c
    cases hr : rd H b off ver n with
    | none => rfl
    | some cs => cases hb : bytesOf cs <;> simp [hb]
  · rfl
theorem b2sV_one {H : Heap} {d : Nat} (hd : d < 256) : b2sV (H ++ [⟨[.int .u8 (d : Int)], 1, 0, false⟩]) (slc H.length 0 0 1 1) = some (str [UInt8.ofNat d]) := by
  show (rd (H ++ [⟨[.int .u8 (d : Int)], 1, 0, false⟩]) H.length 0 0 1).bind _ = _
  rw [rd_at get_last rfl (by simp)]
  rfl
theorem nDig_le : ∀ k n, n < 10 ^ (k + 1) → Lib.nDigits n ≤ k + 1 := by
  intro k
  induction k with
  | zero => intro n hn; rw [Lib.nDigits_small (by simpa using hn)]; exact Nat.le_refl _
  | succ k ih =>
    intro n hn
    by_cases h : n < 10
    · rw [Lib.nDigits_small h]; omega
    · rw [Lib.nDigits_big h]
      have := ih (n / 10) (by rw [Nat.pow_succ] at hn; omega)
      omega
theorem dec_len20 {n : Nat} (hn : n ≤ 9223372036854775807) : (Lib.decDigits n).length ≤ 20 := by
  rw [Lib.decDigits_length]
  exact nDig_le 19 n (by have : (10 : Nat) ^ (19 + 1) = 100000000000000000000 := rfl
                         omega)
theorem call552 {pu : Bool} (n : Nat) (hn : n ≤ 9223372036854775807) : ∀ H : Heap, Call tab pu 552 [.int .i64 (n : Int)] H = some (str (Lib.decDigits n), H) := by
  induction n using Nat.strongRecOn generalizing pu with
  | _ n ih =>
    intro H
    refine Call_wp t552 (.inr rfl) rfl ?_
    have e1 : (n : Int).tmod 10 = ((n % 10 : Nat) : Int) := by rw [Int.tmod_eq_emod_of_nonneg (by omega)]; omega
    have e2 : (n : Int).tdiv 10 = ((n / 10 : Nat) : Int) := by rw [Int.tdiv_eq_ediv_of_nonneg (by omega)]; omega
    have w1 : IntKind.wrap .i64 (48 + ((n % 10 : Nat) : Int)) = ((48 + n % 10 : Nat) : Int) := by rw [wrap64 (by omega)]; omega
    have w2 : IntKind.wrap .u8 ((48 + n % 10 : Nat) : Int) = ((48 + n % 10 : Nat) : Int) := wrapu8 (by omega)
    have w3 : IntKind.wrap .i64 ((n / 10 : Nat) : Int) = ((n / 10 : Nat) : Int) := wrap64 (by omega)
    have hb := b2sV_one (H := H) (d := 48 + n % 10) (by omega)
    have hf := fill_one (z := [.int .u8 0]) (v := .int .u8 ((48 + n % 10 : Nat) : Int)) (esz := 1) rfl rfl
    obtain ⟨d, hd⟩ : ∃ d, d = UInt8.ofNat (48 + n % 10) := ⟨_, rfl⟩
    rw [← hd] at hb
    have hcl : cellsOf (.int .u8 ((48 + n % 10 : Nat) : Int)) = [.int .u8 ((48 + n % 10 : Nat) : Int)] := rfl
    rw [hcl] at hf
    by_cases h : n < 10
    · have h' : (n : Int) < 10 := by omega
      have hm : n % 10 = n := Nat.mod_eq_of_lt h
      rw [dec_small h]
      have hd' : [UInt8.ofNat (48 + n)] = [d] := by rw [hd, hm]
      rw [hd']
      simp [c552, k552, h', e1, w1, w2, hf, ev1_b2s, hb, -Int.natCast_add, -Int.natCast_emod]
    · have h' : ¬ (n : Int) < 10 := by omega
      have c := ih (n / 10) (by omega) (by omega) (pu := true) (H ++ [⟨[.int .u8 ((48 + n % 10 : Nat) : Int)], 1, 0, false⟩])
      have ha : binop .add (str (Lib.decDigits (n / 10))) (str [d]) = some (str (Lib.decDigits n)) := by
        rw [dec_big h, ← hd]
        refine add_s ?_
        have := dec_len20 (n := n / 10) (by omega)
        simp; omega
      simp [c552, k552, h', e1, e2, w1, w2, w3, hf, ev1_b2s, hb, c, ha, -Int.natCast_add, -Int.natCast_emod, -Int.natCast_ediv]
def encB (b : List (List Int)) (lim : Int) : List Sted := (encP b lim b.length).1
/-- In the function that draws steps: the source, the steps drawn, and the step that is being drawn. -/
structure Dr (n0 P : Nat) (G0 G : Heap) (k κ b ver : Nat) (l : List Sted) (rs : List (Int × Int)) (y : Value) : Prop where
  src : Src G P k
  get : ∀ j, j < n0 → j ≠ P → G[j]? = G0[j]?
  lt : P < n0
  k0 : n0 ≤ κ
  k1 : κ ≤ G.length
  ls : StD n0 (G.take κ) b ver l
  rw : GrN (G.take κ) G y 2 rs.length (chsC rs)
theorem Dr.le {n0 P : Nat} {G0 G : Heap} {k k' κ b ver : Nat} {l : List Sted} {rs : List (Int × Int)} {y : Value} (h : Dr n0 P G0 G k κ b ver l rs y) (hk : k ≤ k') : Dr n0 P G0 G k' κ b ver l rs y :=
  ⟨h.src.le hk, h.get, h.lt, h.k0, h.k1, h.ls, h.rw⟩
structure L56 (G : Heap) (x8 x15 x28 x33 : Value) (D : List (List Int)) (v : Int) : Prop where
  bk : Bk G x8 D
  vs15 : StS G x15 (encB D 40)
  vs28 : StS G x28 (encB D v)
  vs33 : SlR G x33 1 D.length (cs .i64 (encP D v D.length).2)
theorem L56.pre {G G' : Heap} {x8 x15 x28 x33 : Value} {D : List (List Int)} {v : Int} (p : Pre G G') (h : L56 G x8 x15 x28 x33 D v) : L56 G' x8 x15 x28 x33 D v :=
  ⟨SlR.pre p h.bk, h.vs15.pre p, h.vs28.pre p, h.vs33.pre p⟩
/-- The words of the kinds of steps, in a package-level variable (block 0). -/
def wrdL : List (List UInt8) := [[119, 104, 111, 108, 101], [99, 111, 112, 121], [109, 111, 118, 101]]
def Wd (H : Heap) : Prop := H[0]? = some ⟨wrdL.map str, 1, 0, true⟩
theorem Wd.lt {H : Heap} (h : Wd H) : 0 < H.length := (List.getElem?_eq_some_iff.1 h).1
theorem Wd.pre {H G : Heap} (h : Wd H) (p : Pre H G) : Wd G := by unfold Wd; rw [p.get h.lt]; exact h
theorem ptr0 : Value.pointer (some ⟨0, 0, some 0⟩) = adr 0 0 0 := rfl
def wrd (a : Nat) : List UInt8 := wrdL.getD a []
theorem Wd.rd {H : Heap} (h : Wd H) {a : Nat} (ha : a < 3) : rd H 0 a 0 1 = some [str (wrd a)] := by
  rw [rd_at h rfl (by simp [wrdL]; omega)]
  match a, ha with
  | 0, _ => rfl
  | 1, _ => rfl
  | 2, _ => rfl
theorem itoa_len20 {v : Int} (h1 : -9223372036854775808 < v) (h2 : v ≤ 9223372036854775807) : (Lib.itoa v).length ≤ 21 := by
  unfold Lib.itoa
  split
  · have := dec_len20 (n := v.natAbs) (by omega)
    simp; omega
  · have := dec_len20 (n := v.toNat) (by omega)
    omega
def rowTx (s : Sted) : Nat → List UInt8
  | 0 => []
  | j + 1 => rowTx s j ++ ([32] ++ Lib.itoa (rw' s j).1 ++ [58] ++ Lib.itoa (rw' s j).2)
def headTx (s : Sted) : List UInt8 :=
  if s.a = 0 then wrd 0 else if s.a = 1 then wrd 1 ++ ([32] ++ Lib.itoa s.b) else wrd 2 ++ ([32] ++ Lib.itoa s.b) ++ ([32] ++ Lib.itoa s.c ++ [32] ++ Lib.itoa s.d)
def stepTx (s : Sted) : List UInt8 := headTx s ++ rowTx s s.rows.length
theorem okSt_rows2 {s : Sted} {i : Nat} (h : okSt s i = true) : s.rows.length ≤ 12 ∧ ∀ j, j < s.rows.length → 0 ≤ (rw' s j).1 ∧ (rw' s j).1 ≤ 11 ∧ 1 ≤ (rw' s j).2 ∧ (rw' s j).2 ≤ 4095 := by
  simp only [okSt, rowsB, Bool.and_eq_true] at h
  have key : ∀ j, j < s.rows.length → in1 (rw' s j).1 0 11 = true ∧ in1 (rw' s j).2 1 4095 = true ∧ (j = 0 ∨ (rw' s (j - 1)).1 < (rw' s j).1) := fun j hj => by
    have := allN_get (p := rowB s) h.1 hj
    simpa [rowB, and_assoc] using this
  have hr : ∀ j, j < s.rows.length → 0 ≤ (rw' s j).1 ∧ (rw' s j).1 ≤ 11 ∧ 1 ≤ (rw' s j).2 ∧ (rw' s j).2 ≤ 4095 := fun j hj => by
    obtain ⟨h1, h2, _⟩ := key j hj
    simp [in1] at h1 h2
    omega
  have hm : ∀ j : Nat, j < s.rows.length → (j : Int) ≤ (rw' s j).1 := fun j => by
    induction j with
    | zero => intro hj; exact (hr 0 hj).1
    | succ j ih =>
      intro hj
      have h1 := ih (by omega)
      have h2 := (key (j + 1) hj).2.2
      simp at h2
      omega
  refine ⟨?_, hr⟩
  rcases Nat.lt_or_ge 12 s.rows.length with h1 | h1
  · have h2 := hm 12 h1
    have h3 := (hr 12 h1).2.1
    omega
  · exact h1
theorem rowTx_len {s : Sted} (hw : StW s) {j : Nat} (hj : j ≤ s.rows.length) : (rowTx s j).length ≤ 44 * j := by
  induction j with
  | zero => simp [rowTx]
  | succ j ih =>
    have h1 := hw.rows _ (at0_mem (i := j) (by omega))
    have h2 := itoa_len20 (v := (rw' s j).1) (by have := h1.1.1; unfold rw'; omega) (by have := h1.1.2; unfold rw'; omega)
    have h3 := itoa_len20 (v := (rw' s j).2) (by have := h1.2.1; unfold rw'; omega) (by have := h1.2.2; unfold rw'; omega)
    have := ih (by omega)
    simp [rowTx]; omega
theorem wrd_len {a : Nat} : (wrd a).length ≤ 5 := by
  unfold wrd
  match a with
  | 0 => decide
  | 1 => decide
  | 2 => decide
  | a + 3 => simp [wrdL]
theorem headTx_len {s : Sted} (hw : StW s) : (headTx s).length ≤ 80 := by
  have h1 := itoa_len20 (v := s.b) (by have := hw.b.1; omega) (by have := hw.b.2; omega)
  have h2 := itoa_len20 (v := s.c) (by have := hw.c.1; omega) (by have := hw.c.2; omega)
  have h3 := itoa_len20 (v := s.d) (by have := hw.d.1; omega) (by have := hw.d.2; omega)
  have w0 := wrd_len (a := 0)
  have w1 := wrd_len (a := 1)
  have w2 := wrd_len (a := 2)
  unfold headTx
  split
  · omega
  · split <;> simp <;> omega
theorem stepTx_len {s : Sted} (hw : StW s) (hn : s.rows.length ≤ 1000) : (stepTx s).length ≤ 100000 := by
  have h1 := headTx_len hw
  have h2 := rowTx_len hw (Nat.le_refl _)
  unfold stepTx
  simp; omega
theorem add_t {a b : List UInt8} (ha : a.length ≤ 1000000000) (hb : b.length ≤ 1000000000) : binop .add (str a) (str b) = some (str (a ++ b)) := add_s (by omega)
def QS (n0 : Nat) (t : List UInt8) (H : Heap) : Ex → Env → Heap → Prop := fun x e' H' => (∀ i, x ≠ .exit i) ∧ (resVs e' H' [.t 2]).map (finish n0 H') = some (str t, H)
/-- The text of a step, in the program's stepText. -/
theorem call465 {pu : Bool} {H : Heap} {y : Value} {s : Sted} (hd : Wd H) (h : Rw H y s) (hw : StW s) (ha : 0 ≤ s.a ∧ s.a ≤ 2) (hn : s.rows.length ≤ 1000) : Call tab pu 465 [agg (stC s y)] H = some (str (stepTx s), H) := by
  refine Call_wp t465 (.inr rfl) rfl ?_
  have lb := itoa_len20 (v := s.b) (by have := hw.b.1; omega) (by have := hw.b.2; omega)
  have lc := itoa_len20 (v := s.c) (by have := hw.c.1; omega) (by have := hw.c.2; omega)
  have ld := itoa_len20 (v := s.d) (by have := hw.d.1; omega) (by have := hw.d.2; omega)
  have wb : IntKind.wrap .i64 s.b = s.b := wrap64 (by have := hw.b; unfold i8 at this; omega)
  have wc : IntKind.wrap .i64 s.c = s.c := wrap64 (by have := hw.c; unfold i8 at this; omega)
  have wd : IntKind.wrap .i64 s.d = s.d := wrap64 (by have := hw.d; unfold i8 at this; omega)
  have cb := call379 (pu := true) (n := s.b) (H := H) (by have := hw.b.1; omega) (by have := hw.b.2; omega)
  have cc := call379 (pu := true) (n := s.c) (H := H) (by have := hw.c.1; omega) (by have := hw.c.2; omega)
  have cd := call379 (pu := true) (n := s.d) (H := H) (by have := hw.d.1; omega) (by have := hw.d.2; omega)
  have loop : ∀ e : Env, e 1 = agg (stC s y) → e 3 = str (headTx s) → WK tab H.length false (tailC 4 k465) [] e H (QS H.length (stepTx s) H) := by
    intro e h1 h3
    have hlv := SlR.lenV h
    simp only [stC] at h1
    simp [tailC, k465, h1, ldc5e, hlv]
    refine WP_forH 39 s.rows.length _ rfl (by omega) (fun j e => e 37 = y ∧ e 38 = .int .i64 (s.rows.length : Int) ∧ e 3 = str (headTx s ++ rowTx s j)) ?_ ?_ (by simp) (by simp [h3, rowTx])
    · rintro j e hj hjj e4 h39 ⟨h37, h38, h3⟩
      obtain ⟨q, off, ver, hx, hr, _, _⟩ := Rw.at h hj
      have hb := hw.rows _ (at0_mem (i := j) hj)
      obtain ⟨u, hu⟩ : ∃ u, u = (rw' s j).1 := ⟨_, rfl⟩
      obtain ⟨v, hv⟩ : ∃ v, v = (rw' s j).2 := ⟨_, rfl⟩
      have hub : i8 u := by rw [hu]; exact hb.1
      have hvb : u16' v := by rw [hv]; exact hb.2
      have lu := itoa_len20 (v := u) (by have := hub.1; omega) (by have := hub.2; omega)
      have lv := itoa_len20 (v := v) (by have := hvb.1; omega) (by have := hvb.2; omega)
      have wu : IntKind.wrap .i64 u = u := wrap64 (by unfold i8 at hub; omega)
      have wv : IntKind.wrap .i64 v = v := wrap64 (by unfold u16' at hvb; omega)
      have cu := call379 (pu := true) (n := u) (H := H) (by have := hub.1; omega) (by have := hub.2; omega)
      have cv := call379 (pu := true) (n := v) (H := H) (by have := hvb.1; omega) (by have := hvb.2; omega)
      have l1 := headTx_len hw
      have l2 := rowTx_len hw (j := j) (by omega)
      rw [← hu, ← hv] at hr
      have a1 : binop .add (.string ⟨#[32]⟩) (str (Lib.itoa u)) = some (str ([32] ++ Lib.itoa u)) := add_t (a := [32]) (by simp) (by omega)
      have a2 : binop .add (str ([32] ++ Lib.itoa u)) (.string ⟨#[58]⟩) = some (str ([32] ++ Lib.itoa u ++ [58])) := add_t (b := [58]) (by simp; omega) (by simp)
      have a3 : binop .add (str ([32] ++ Lib.itoa u ++ [58])) (str (Lib.itoa v)) = some (str ([32] ++ Lib.itoa u ++ [58] ++ Lib.itoa v)) := add_t (by simp; omega) (by omega)
      have a4 : binop .add (str (headTx s ++ rowTx s j)) (str ([32] ++ Lib.itoa u ++ [58] ++ Lib.itoa v)) = some (str (headTx s ++ rowTx s (j + 1))) := by
        rw [add_t (by simp; omega) (by simp; omega), rowTx, ← hu, ← hv, List.append_assoc]
      have q0 : stc (agg [.int .i8 0, .int .u16 0]) 0 [.int .i8 u, .int .u16 v] = some (agg [.int .i8 u, .int .u16 v]) := rfl
      have q1 : ldc 1 false (agg [.int .i8 u, .int .u16 v]) 0 = some (.int .i8 u) := rfl
      have q2 : ldc 1 false (agg [.int .i8 u, .int .u16 v]) 1 = some (.int .u16 v) := rfl
      simp only [List.cons_append, List.nil_append, List.append_assoc] at a1 a2 a3 a4
      simp [b465_1, h39, h37, h38, h3, hjj, hx, hr, q0, q1, q2, wu, wv, cu, cv, a1, a2, a3, a4, e4]
    · rintro e h39 ⟨h37, h38, h3⟩
      simp [b465_1, h39, h38, h3, stepTx, QS]
  have hT : k465 = headC 4 k465 (tailC 4 k465) := rfl
  show WK tab H.length false k465 [] (ini [agg (stC s y)]) H (QS H.length (stepTx s) H)
  rw [hT]
  generalize tailC 4 k465 = T at loop
  have w0 := wrd_len (a := 0)
  have w1 := wrd_len (a := 1)
  have w2 := wrd_len (a := 2)
  by_cases h0 : s.a = 0
  · have hr := hd.rd (a := 0) (by omega)
    have hh : headTx s = wrd 0 := by unfold headTx; rw [if_pos h0]
    have hat : at' 3 (.int .i8 (0 : Int)) = some 0 := rfl
    simp [headC, k465, stC, ldc5a, ldc5b, ldc5c, ldc5d, ldc5e, h0, hat, ptr0, hr]
    exact loop _ (by simp [stC, h0]) (by simp [hh])
  by_cases h1 : s.a = 1
  · have hr := hd.rd (a := 1) (by omega)
    have hh : headTx s = wrd 1 ++ ([32] ++ Lib.itoa s.b) := by unfold headTx; rw [if_neg h0, if_pos h1]
    have a1 : binop .add (.string ⟨#[32]⟩) (str (Lib.itoa s.b)) = some (str ([32] ++ Lib.itoa s.b)) := add_t (a := [32]) (by simp) (by omega)
    have a2 : binop .add (str (wrd 1)) (str ([32] ++ Lib.itoa s.b)) = some (str (headTx s)) := by rw [hh]; exact add_t (by omega) (by simp; omega)
    simp only [List.cons_append, List.nil_append, List.append_assoc] at a1 a2
    have hat : at' 3 (.int .i8 (1 : Int)) = some 1 := rfl
    simp [headC, k465, stC, ldc5a, ldc5b, ldc5c, ldc5d, ldc5e, h1, hat, ptr0, hr, wb, cb, a1, a2]
    exact loop _ (by simp [stC, h1]) (by simp)
  · have h2 : s.a = 2 := by omega
    have hr := hd.rd (a := 2) (by omega)
    have hh : headTx s = wrd 2 ++ ([32] ++ Lib.itoa s.b) ++ ([32] ++ Lib.itoa s.c ++ [32] ++ Lib.itoa s.d) := by unfold headTx; rw [if_neg h0, if_neg h1]
    have a1 : binop .add (.string ⟨#[32]⟩) (str (Lib.itoa s.b)) = some (str ([32] ++ Lib.itoa s.b)) := add_t (a := [32]) (by simp) (by omega)
    have a2 : binop .add (str (wrd 2)) (str ([32] ++ Lib.itoa s.b)) = some (str (wrd 2 ++ ([32] ++ Lib.itoa s.b))) := add_t (by omega) (by simp; omega)
    have a3 : binop .add (.string ⟨#[32]⟩) (str (Lib.itoa s.c)) = some (str ([32] ++ Lib.itoa s.c)) := add_t (a := [32]) (by simp) (by omega)
    have a4 : binop .add (str ([32] ++ Lib.itoa s.c)) (.string ⟨#[32]⟩) = some (str ([32] ++ Lib.itoa s.c ++ [32])) := add_t (b := [32]) (by simp; omega) (by simp)
    have a5 : binop .add (str ([32] ++ Lib.itoa s.c ++ [32])) (str (Lib.itoa s.d)) = some (str ([32] ++ Lib.itoa s.c ++ [32] ++ Lib.itoa s.d)) := add_t (by simp; omega) (by omega)
    have a6 : binop .add (str (wrd 2 ++ ([32] ++ Lib.itoa s.b))) (str ([32] ++ Lib.itoa s.c ++ [32] ++ Lib.itoa s.d)) = some (str (headTx s)) := by rw [hh]; exact add_t (by simp; omega) (by simp; omega)
    simp only [List.cons_append, List.nil_append, List.append_assoc] at a1 a2 a3 a4 a5 a6
    have hat : at' 3 (.int .i8 (2 : Int)) = some 2 := rfl
    simp [headC, k465, stC, ldc5a, ldc5b, ldc5c, ldc5d, ldc5e, h2, hat, ptr0, hr, wb, wc, wd, cb, cc, cd, a1, a2, a3, a4, a5, a6]
    exact loop _ (by simp [stC, h2]) (by simp)
theorem call553 {pu : Bool} {H : Heap} {v : Int} (h : -1000 ≤ v ∧ v ≤ 1000) : Call tab pu 553 [.int .i64 v] H = some (str (Lib.itoa v), H) := by
  refine Call_wp t553 (.inr rfl) rfl ?_
  by_cases h0 : v < 0
  · have w2 : IntKind.wrap .i64 (-v) = ((v.natAbs : Nat) : Int) := by rw [wrap64 (by omega)]; omega
    have c := call552 (pu := true) v.natAbs (by omega) H
    have hl := dec_len20 (n := v.natAbs) (by omega)
    have ha : binop .add (.string ⟨#[45]⟩) (str (Lib.decDigits v.natAbs)) = some (str (Lib.itoa v)) := by
      have e : Lib.itoa v = [45] ++ Lib.decDigits v.natAbs := by unfold Lib.itoa; rw [if_pos h0]; rfl
      rw [e]
      exact add_s (a := [45]) (by simp; omega)
    simp [c553, k553, h0, w2, c, ha]
  · obtain ⟨n, rfl⟩ := Int.eq_ofNat_of_zero_le (show 0 ≤ v by omega)
    have c := call552 (pu := true) n (by omega) H
    have e : Lib.itoa (n : Int) = Lib.decDigits n := by unfold Lib.itoa; rw [if_neg h0, Int.toNat_natCast]
    simp [c553, k553, h0, c, e]
theorem itoa_nat {n : Nat} : Lib.itoa (n : Int) = Lib.decDigits n := by unfold Lib.itoa; rw [if_neg (by omega), Int.toNat_natCast]
theorem call552i {pu : Bool} {H : Heap} {v : Int} (h0 : 0 ≤ v) (h1 : v ≤ 100000) : Call tab pu 552 [.int .i64 v] H = some (str (Lib.itoa v), H) := by
  obtain ⟨n, rfl⟩ := Int.eq_ofNat_of_zero_le h0
  rw [itoa_nat]
  exact call552 n (by omega) H
/-- A step that a text tells: not less than 0 where the spec writes no sign. -/
structure TxS (s : Sted) : Prop where
  w : StW s
  a : 0 ≤ s.a ∧ s.a ≤ 2
  b : 0 ≤ s.b
  n : s.rows.length ≤ 12
  r : ∀ j, j < s.rows.length → 0 ≤ (rw' s j).1 ∧ (rw' s j).1 ≤ 11 ∧ 1 ≤ (rw' s j).2 ∧ (rw' s j).2 ≤ 4095
theorem okSt_tx {s : Sted} {i : Nat} (h : okSt s i = true) (hw : StW s) : TxS s := by
  obtain ⟨h1, h2⟩ := okSt_rows2 h
  refine ⟨hw, okSt_a h, ?_, h1, h2⟩
  by_cases h0 : s.a = 0
  · simp only [okSt, kindB, Bool.and_eq_true] at h
    obtain ⟨_, h⟩ := h
    rw [if_pos (by simp [h0])] at h
    simp at h
    omega
  · exact (okSt_b h h0).1
theorem inner463 {n0 : Nat} {G : Heap} {s : Sted} {y x : Value} {A : List UInt8} {i : Int} (hrw : Rw G y s) (t : TxS s) (hA : A.length ≤ 100000000) {fs : List Fr} {Q : Ex → Env → Heap → Prop} {e : Env}
    (h0 : e 0 = x) (h3 : e 3 = str (A ++ headTx s)) (h4 : e 4 = .int .i64 i) (h5 : e 5 = agg (stC s y)) (h6 : e 6 = .int .i64 0)
    (hq : ∀ e', e' 0 = x → e' 3 = str (A ++ stepTx s) → e' 4 = .int .i64 i → KK tab n0 false (.exit 3) fs e' G Q) : WK tab n0 false (.loop b463_1) fs e G Q := by
  have l1 := headTx_len t.w
  refine WP_forH 6 s.rows.length _ rfl (by have := t.n; omega) (fun k e => e 0 = x ∧ e 3 = str (A ++ headTx s ++ rowTx s k) ∧ e 4 = .int .i64 i ∧ e 5 = agg (stC s y)) ?_ ?_ h6 ⟨h0, by rw [h3]; simp [rowTx], h4, h5⟩
  · rintro j e hj hjj e4 h6 ⟨h0, h3, h4, h5⟩
    obtain ⟨q, off, ver, hx, hr, hr1, hr2⟩ := Rw.at hrw hj
    obtain ⟨g1, g2, g3, g4⟩ := t.r j hj
    obtain ⟨u, hu⟩ : ∃ u, u = (rw' s j).1 := ⟨_, rfl⟩
    obtain ⟨v, hv⟩ : ∃ v, v = (rw' s j).2 := ⟨_, rfl⟩
    rw [← hu] at g1 g2 hr1
    rw [← hv] at g3 g4 hr2
    have lu := itoa_len20 (v := u) (by omega) (by omega)
    have lv := itoa_len20 (v := v) (by omega) (by omega)
    have wu : IntKind.wrap .i64 u = u := wrap64 (by omega)
    have wv : IntKind.wrap .i64 v = v := wrap64 (by omega)
    have cu := call552i (pu := true) (v := u) (H := G) (by omega) (by omega)
    have cv := call552i (pu := true) (v := v) (H := G) (by omega) (by omega)
    have l2 := rowTx_len t.w (j := j) (by omega)
    have hn12 := t.n
    have a1 : binop .add (.string ⟨#[32]⟩) (str (Lib.itoa u)) = some (str ([32] ++ Lib.itoa u)) := add_t (a := [32]) (by simp) (by omega)
    have a2 : binop .add (str ([32] ++ Lib.itoa u)) (.string ⟨#[58]⟩) = some (str ([32] ++ Lib.itoa u ++ [58])) := add_t (b := [58]) (by simp; omega) (by simp)
    have a3 : binop .add (str ([32] ++ Lib.itoa u ++ [58])) (str (Lib.itoa v)) = some (str ([32] ++ Lib.itoa u ++ [58] ++ Lib.itoa v)) := add_t (by simp; omega) (by omega)
    have a4 : binop .add (str (A ++ headTx s ++ rowTx s j)) (str ([32] ++ Lib.itoa u ++ [58] ++ Lib.itoa v)) = some (str (A ++ headTx s ++ rowTx s (j + 1))) := by
      rw [add_t (by simp; omega) (by simp; omega), rowTx, ← hu, ← hv]; simp
    simp only [List.cons_append, List.nil_append, List.append_assoc] at a1 a2 a3 a4
    have hlv := SlR.lenV hrw
    simp only [stC] at h5
    simp [b463_1, h6, h0, h3, h4, h5, ldc5e, hlv, hjj, hx, hr1, hr2, wu, wv, cu, cv, a1, a2, a3, a4, e4, stC]
  · rintro e h6 ⟨h0, h3, h4, h5⟩
    simp only [stC] at h5
    simp [b463_1, h5, h6, ldc5e, SlR.lenV hrw]
    exact hq _ (by simp [h0]) (by simp [h3, stepTx]) (by simp [h4])
/-- The text of steps. -/
def stepsTx (l : List Sted) : List UInt8 := catT (fun i => stepTx (at0 l i)) l.length
end Fb
