/- What each function computes. -/
import Derived.Test.YtmdnahopljfakaaUse2
set_option linter.unusedVariables false
set_option linter.unusedSimpArgs false
namespace Fb
open Go
theorem lessI_row {a b : Int} (ha : u16' a) (h1 : okRow a = true) : okRow (lessI a b) = true := by
  obtain ⟨n, rfl⟩ := Int.eq_ofNat_of_zero_le ha.1
  simp [okRow] at h1 ⊢
  have e0 : IntKind.bits .u16 = 16 := rfl
  unfold lessI bitsOf
  simp only []
  have e1 : (BitVec.ofInt (IntKind.bits .u16) (n : Int) &&& ~~~BitVec.ofInt (IntKind.bits .u16) b).toNat ≤ n := by
    rw [BitVec.toNat_and]
    refine Nat.le_trans Nat.and_le_left ?_
    rw [e0, BitVec.ofInt_natCast, BitVec.toNat_ofNat]
    exact Nat.mod_le _ _
  rw [wrapu16 (by omega)]; omega
theorem lessI_ok {a b : Int} : u16' (lessI a b) := by
  have e0 : IntKind.bits .u16 = 16 := rfl
  unfold lessI bitsOf
  simp only []
  have := (BitVec.ofInt (IntKind.bits .u16) a &&& ~~~BitVec.ofInt (IntKind.bits .u16) b).isLt
  rw [e0] at this ⊢
  rw [wrapu16 (by omega)]; omega
theorem join_sub {a b : List Int} (ha : a.length = 12) (hb : b.length = 12) : sub (a ++ b) 0 12 = a ∧ sub (a ++ b) 12 12 = b := by
  constructor
  · unfold sub
    rw [List.drop_zero, List.take_append_of_le_length (by omega), List.take_of_length_le (by omega)]
  · unfold sub
    rw [List.drop_append_of_le_length (by omega), List.drop_eq_nil_of_le (by omega), List.nil_append, List.take_of_length_le (by omega)]
/- Keys. -/
abbrev Ky := Int × Int × Int
def kyC (k : Ky) : List Value := [.int .i16 k.1, .int .i8 k.2.1, .int .i8 k.2.2]
def kysC (l : List Ky) : List Value := rowsC kyC l
theorem kysC_length {l : List Ky} : (kysC l).length = l.length * 3 := rows_length (f := kyC) (esz := 3) fun _ _ => rfl
def kyF : List Value := [.int .i16 (-30101), .int .i8 (-101), .int .i8 (-101)]
/- Parts. -/
structure Pt where
  f : List Int
  e : Int
  ks : List Ky
  len : f.length = 12
instance : Inhabited Pt := ⟨⟨zr 12 0, 0, [], rfl⟩⟩
structure PtW (s : Pt) : Prop where
  ok : ∀ n ∈ s.f, u16' n
  e : i8 s.e
  ks : ∀ k ∈ s.ks, (-32768 ≤ k.1 ∧ k.1 ≤ 32767) ∧ i8 k.2.1 ∧ i8 k.2.2
def ptT (f : List Int) (a b : Value) : List Value := cs .u16 f ++ [a, b]
def ptC (s : Pt) (y : Value) : List Value := ptT s.f (.int .i8 s.e) y
theorem ptT_len {f : List Int} {a b : Value} (h : f.length = 12) : (ptT f a b).length = 14 := by simp [ptT, h]
theorem ptC_len {s : Pt} {y : Value} : (ptC s y).length = 14 := ptT_len s.len
theorem ptT_at {f : List Int} {a b : Value} (h : f.length = 12) {k : Nat} : (ptT f a b).drop (12 + k) = [a, b].drop k := by
  unfold ptT
  rw [show 12 + k = (cs .u16 f).length + k by simp [h], List.drop_length_add_append]
/-- Keys of a part in memory. -/
abbrev Kr (G : Heap) (y : Value) (s : Pt) : Prop := SlR G y 3 s.ks.length (kysC s.ks)
abbrev KrC (G : Heap) (y : Value) (s : Pt) : Prop := IsCp G y 3 s.ks.length (kysC s.ks) kyF
/-- Parts in memory. -/
def PtS (G : Heap) (x : Value) (l : List Pt) : Prop := ∃ vs, SlR G x 14 l.length vs ∧ ∀ i, i < l.length → ∃ y, elem vs 14 i = ptC (at0 l i) y ∧ Kr G y (at0 l i)
theorem PtS.pre {H G : Heap} {x : Value} {l : List Pt} (p : Pre H G) (h : PtS H x l) : PtS G x l := by
  obtain ⟨vs, h1, h2⟩ := h
  exact ⟨vs, h1.pre p, fun i hi => by obtain ⟨y, h3, h4⟩ := h2 i hi; exact ⟨y, h3, h4.pre p⟩⟩
theorem PtS.lenV {G : Heap} {x : Value} {l : List Pt} (h : PtS G x l) : lenV x = some (.int .i64 l.length) := by
  obtain ⟨vs, h1, _⟩ := h; exact h1.lenV
theorem PtS.get {G : Heap} {x : Value} {l : List Pt} (h : PtS G x l) {i : Nat} (hi : i < l.length) : ∃ q off ver y, idxAV 14 x (.int .i64 (i : Int)) = some (adr q off ver) ∧ rd G q off ver 14 = some (ptC (at0 l i) y) ∧ Kr G y (at0 l i) := by
  obtain ⟨vs, h1, h2⟩ := h
  obtain ⟨q, off, ver, h3, h4⟩ := h1.get1 hi
  obtain ⟨y, h5, h6⟩ := h2 i hi
  rw [h5] at h4
  exact ⟨q, off, ver, y, h3, h4, h6⟩
/-- A copy of a part: what stands in the block, whatever stands in that block itself. -/
structure CqI (H G : Heap) (b : Nat) (flag : Bool) (s : Pt) (y : Value) : Prop where
  r : ∀ k, Kr (G.set b k) y s
  n : y = .slice none 0 0 ∨ old0 H.length y = false
  c : flag = false → (∀ k, KrC (G.set b k) y s) ∧ old0 H.length y = false
theorem CqI.set {H G : Heap} {b : Nat} {flag : Bool} {s : Pt} {y : Value} {k : Blk} (h : CqI H G b flag s y) : CqI H (G.set b k) b flag s y := ⟨fun k' => by rw [set_set]; exact h.r k', h.n, fun hf => ⟨fun k' => by rw [set_set]; exact (h.c hf).1 k', (h.c hf).2⟩⟩
theorem CqI.pre {H G G' : Heap} {b : Nat} {flag : Bool} {s : Pt} {y : Value} (h : CqI H G b flag s y) (p : Pre G G') (hb : b < G.length) : CqI H G' b flag s y :=
  ⟨fun k => (h.r k).pre (set_pre p hb), h.n, fun hf => ⟨fun k => ((h.c hf).1 k).pre (set_pre p hb), (h.c hf).2⟩⟩
def ptF : Pt := ⟨bkF, -101, [(-30101, -101, -101)], rfl⟩
/-- Steps copied, with room behind. -/
def CqS (G : Heap) (x : Value) (l : List Pt) : Prop := ∃ b ver vs, x = slc b 0 ver l.length (l.length + roomN l.length) ∧ G[b]? = some ⟨vs, 14, ver, false⟩ ∧ vs.length = (l.length + roomN l.length) * 14 ∧
  (∀ i, i < l.length → ∃ y, elem vs 14 i = ptC (at0 l i) y ∧ KrC G y (at0 l i)) ∧ ∀ i, l.length ≤ i → i < l.length + roomN l.length → ∃ y, elem vs 14 i = ptC ptF y ∧ Kr G y ptF
theorem CqS.sl {G : Heap} {x : Value} {l : List Pt} (h : CqS G x l) : PtS G x l := by
  obtain ⟨b, ver, vs, rfl, hg, hl, h1, h2⟩ := h
  have e1 : l.length * 14 ≤ vs.length := by omega
  refine ⟨vs.take (l.length * 14), ⟨by simp; omega, .inr ⟨b, 0, ver, _, rfl, by omega, by rw [rd_at hg rfl (by simp; omega)]; simp, _, hg, rfl, rfl⟩⟩, fun i hi => ?_⟩
  obtain ⟨y, h3, h4⟩ := h1 i hi
  exact ⟨y, by rw [elem_take hi, h3], h4.sl kysC_length rfl⟩
theorem CqS.pre {H G : Heap} {x : Value} {l : List Pt} (p : Pre H G) (h : CqS H x l) : CqS G x l := by
  obtain ⟨b, ver, vs, rfl, hg, hl, h1, h2⟩ := h
  refine ⟨b, ver, vs, rfl, by rw [p.get (List.getElem?_eq_some_iff.1 hg).1]; exact hg, hl, fun i hi => ?_, fun i hi hi2 => ?_⟩
  · obtain ⟨y, h3, h4⟩ := h1 i hi; exact ⟨y, h3, h4.pre p⟩
  · obtain ⟨y, h3, h4⟩ := h2 i hi hi2; exact ⟨y, h3, h4.pre p⟩
def ky (ks : List Ky) (i : Nat) : Ky := at0 ks i
def kyB (ks : List Ky) (j : Nat) : Bool := ((in1 (ky ks j).1 0 200 && in1 (ky ks j).2.1 (-24) 24) && in1 (ky ks j).2.2 (-24) 24) && (decide (j = 0) || decide ((ky ks (j - 1)).1 < (ky ks j).1))
def okTk (ks : List Ky) : Bool := allN (kyB ks) ks.length && in1 ks.length 1 20
def okPt (s : Pt) : Bool := (okF s.f && okTk s.ks) && in1 s.e 0 3
abbrev KyW (ks : List Ky) : Prop := ∀ k ∈ ks, (-32768 ≤ k.1 ∧ k.1 ≤ 32767) ∧ i8 k.2.1 ∧ i8 k.2.2
/-- A part in memory. -/
structure PtR (H : Heap) (q off ver : Nat) (s : Pt) (y : Value) : Prop where
  rf : rd H q off ver 12 = some (cs .u16 s.f)
  re : rd H q (off + 12) ver 1 = some [.int .i8 s.e]
  ry : rd H q (off + 13) ver 1 = some [y]
  rk : Kr H y s
theorem PtR.of {H : Heap} {q off ver : Nat} {s : Pt} {y : Value} (h : rd H q off ver 14 = some (ptC s y)) (hk : Kr H y s) : PtR H q off ver s y := by
  have hl := s.len
  have g1 := rd_part h (o := 0) (m := 12) (by omega)
  have g2 := rd_part h (o := 12) (m := 1) (by omega)
  have g3 := rd_part h (o := 13) (m := 1) (by omega)
  unfold ptC at g1 g2 g3
  rw [show 12 = 12 + 0 from rfl, ptT_at hl] at g2
  rw [show 13 = 12 + 1 from rfl, ptT_at hl] at g3
  rw [Nat.add_zero, List.drop_zero] at g1
  unfold ptT at g1
  rw [List.take_left' (by simp [hl])] at g1
  exact ⟨g1, g2, g3, hk⟩
theorem PtR.pre {H G : Heap} {q off ver : Nat} {s : Pt} {y : Value} (p : Pre H G) (h : PtR H q off ver s y) : PtR G q off ver s y := ⟨p.rd h.rf, p.rd h.re, p.rd h.ry, SlR.pre p h.rk⟩
structure TkV (ks : List Ky) : Prop where
  n1 : 1 ≤ ks.length
  n20 : ks.length ≤ 20
  r : ∀ i, i < ks.length → (0 ≤ (ky ks i).1 ∧ (ky ks i).1 ≤ 200) ∧ (-24 ≤ (ky ks i).2.1 ∧ (ky ks i).2.1 ≤ 24) ∧ -24 ≤ (ky ks i).2.2 ∧ (ky ks i).2.2 ≤ 24
  s : ∀ i, i + 1 < ks.length → (ky ks i).1 < (ky ks (i + 1)).1
theorem okTk_V {ks : List Ky} (h : okTk ks = true) : TkV ks := by
  simp only [okTk, Bool.and_eq_true] at h
  obtain ⟨h1, h2⟩ := h
  have hl : 1 ≤ ks.length ∧ ks.length ≤ 20 := by simp [in1] at h2; omega
  refine ⟨hl.1, hl.2, fun i hi => ?_, fun i hi => ?_⟩
  · have := allN_get (p := kyB ks) h1 hi
    simp only [kyB, Bool.and_eq_true, in1, decide_eq_true_eq] at this
    exact ⟨this.1.1.1, this.1.1.2, this.1.2⟩
  · have := allN_get (p := kyB ks) h1 hi
    simp only [kyB, Bool.and_eq_true, in1, decide_eq_true_eq, Bool.or_eq_true] at this
    rcases this.2 with h | h
    · omega
    · exact h
theorem PtW.fr {s : Pt} (h : PtW s) : FrW s.f := ⟨s.len, h.ok⟩
/-- A copy of parts while marks are being written over it. -/
structure MkP (G G' : Heap) (b ver lo hi n : Nat) (y : Nat → Value) (m : Nat → Nat) : Prop where
  len : G'.length = G.length
  fr : ∀ j, j < lo ∨ hi ≤ j → G'[j]? = G[j]?
  inb : lo ≤ b ∧ b < hi
  out : ∃ vs, G'[b]? = some ⟨vs, 14, ver, false⟩ ∧ n * 14 ≤ vs.length ∧ ∀ i, i < n → vs[i * 14 + 13]? = some (y i)
  row : ∀ i, i < n → ∃ b' ver' cap' ws, y i = slc b' 0 ver' (m i) cap' ∧ lo ≤ b' ∧ b' < hi ∧ b' ≠ b ∧ G'[b']? = some ⟨ws, 3, ver', false⟩ ∧ m i * 3 ≤ ws.length
theorem MkP.rows {G G' : Heap} {b ver lo hi n : Nat} {y : Nat → Value} {m : Nat → Nat} (h : MkP G G' b ver lo hi n y m) {b' ver' : Nat} {ws ws' : List Value} (hb : lo ≤ b' ∧ b' < hi) (hne : b' ≠ b) (hg : G'[b']? = some ⟨ws, 3, ver', false⟩) (hw : ws'.length = ws.length) :
    MkP G (G'.set b' ⟨ws', 3, ver', false⟩) b ver lo hi n y m := by
  refine ⟨by simp [h.len], fun j hj => ?_, h.inb, ?_, fun i hi => ?_⟩
  · rw [List.getElem?_set_ne (by omega)]
    exact h.fr j hj
  · obtain ⟨vs, h1, h2⟩ := h.out
    exact ⟨vs, by rw [List.getElem?_set_ne hne]; exact h1, h2⟩
  · obtain ⟨b2, ver2, cap2, ws2, h1, h2, h3, h4, h5, h6⟩ := h.row i hi
    by_cases hb2 : b' = b2
    · subst hb2
      rw [hg] at h5
      cases h5
      exact ⟨b', ver', cap2, ws', h1, h2, h3, h4, get_set hg, by rw [hw]; exact h6⟩
    · exact ⟨b2, ver2, cap2, ws2, h1, h2, h3, h4, by rw [List.getElem?_set_ne hb2]; exact h5, h6⟩
theorem bkC_push {l : List (List Int)} {f : List Int} : bkC l ++ cs .u16 f = bkC (l ++ [f]) := by rw [bkC, bkC, rowsC_app]; simp [rowsC, frC]
theorem Gr.base {H H' G : Heap} {x : Value} {esz n : Nat} {vs : List Value} (g : Gr H' G x esz n vs) (p : Pre H H') : Gr H G x esz n vs := by
  obtain ⟨b, ver, rfl, h1, h2, h3, h4⟩ := g
  exact ⟨b, ver, rfl, h1, Nat.le_trans p.len h2, h3, p.trans h4⟩
theorem PtR.new {H G : Heap} {s : Pt} {y : Value} (h : Kr H y s) (p : Pre (H ++ [⟨ptC s y, 1, 0, false⟩]) G) : PtR G H.length 0 0 s y := by
  have hr : rd (H ++ [(⟨ptC s y, 1, 0, false⟩ : Blk)]) H.length 0 0 14 = some (ptC s y) := rd_last rfl ptC_len
  exact PtR.of (p.rd hr) ((h.pre Pre.one).pre p)
/-- A source: a block of three cells; its bytes are elder. At most k bytes were taken. -/
def srB (x : Value) (i sd : Int) : Blk := ⟨[x, .int .i64 i, .int .u64 sd], 1, 0, false⟩
def Src (G : Heap) (P k : Nat) : Prop := ∃ x bs i sd, G[P]? = some (srB x i sd) ∧ SlR (G.take P) x 1 bs.length (cs .u8 bs) ∧ (∀ b ∈ bs, 0 ≤ b ∧ b ≤ 255) ∧ bs.length ≤ 1000000 ∧ 0 ≤ i ∧ i ≤ k
theorem pre_take {G G' : Heap} {n : Nat} (p : Pre G G') (hn : n ≤ G.length) : G'.take n = G.take n := by
  obtain ⟨L, rfl⟩ := p
  rw [List.take_append_of_le_length hn]
theorem Pre.takes {G : Heap} {n : Nat} : Pre (G.take n) G := ⟨G.drop n, (List.take_append_drop n G).symm⟩
theorem Src.lt {G : Heap} {P k : Nat} (h : Src G P k) : P < G.length := by
  obtain ⟨x, bs, i, sd, h1, _⟩ := h
  exact (List.getElem?_eq_some_iff.1 h1).1
theorem Src.le {G : Heap} {P k k' : Nat} (h : Src G P k) (hk : k ≤ k') : Src G P k' := by
  obtain ⟨x, bs, i, sd, h1, h2, h3, h4, h5, h6⟩ := h
  exact ⟨x, bs, i, sd, h1, h2, h3, h4, h5, by omega⟩
theorem Src.pre {G G' : Heap} {P k : Nat} (p : Pre G G') (h : Src G P k) : Src G' P k := by
  have hl := h.lt
  obtain ⟨x, bs, i, sd, h1, h2, h3⟩ := h
  exact ⟨x, bs, i, sd, by rw [p.get hl]; exact h1, by rw [pre_take p (Nat.le_of_lt hl)]; exact h2, h3⟩
/-- Nothing but the source's block has changed. -/
structure Mv (P : Nat) (G G' : Heap) : Prop where
  len : G'.length = G.length
  get : ∀ j, j ≠ P → G'[j]? = G[j]?
theorem Mv.refl {P : Nat} {G : Heap} : Mv P G G := ⟨rfl, fun _ _ => rfl⟩
theorem Mv.trans {P : Nat} {G G' G'' : Heap} (h : Mv P G G') (h' : Mv P G' G'') : Mv P G G'' := ⟨h'.len.trans h.len, fun j hj => (h'.get j hj).trans (h.get j hj)⟩
theorem Mv.set {P : Nat} {G : Heap} {k : Blk} : Mv P G (G.set P k) := ⟨by simp, fun j hj => List.getElem?_set_ne (Ne.symm hj)⟩
theorem Mv.take {P : Nat} {G G' : Heap} (h : Mv P G G') {n0 : Nat} (hn : n0 ≤ P) : G'.take n0 = G.take n0 := by
  apply List.ext_getElem?
  intro i
  rw [List.getElem?_take, List.getElem?_take]
  split
  · rw [h.get i (by omega)]
  · rfl
theorem Mv.rd {P : Nat} {G G' : Heap} (h : Mv P G G') {b off ver n : Nat} (hb : b ≠ P) : rd G' b off ver n = rd G b off ver n := by
  unfold Fb.rd
  rw [h.get b hb]
theorem Src.mv {P k : Nat} {G G' : Heap} (h : Src G P k) (hP : G'[P]? = G[P]?) (hj : ∀ j, j < P → G'[j]? = G[j]?) : Src G' P k := by
  obtain ⟨x, bs, i, sd, h1, h2, h3⟩ := h
  refine ⟨x, bs, i, sd, by rw [hP]; exact h1, ?_, h3⟩
  have : G'.take P = G.take P := by
    apply List.ext_getElem?
    intro j
    rw [List.getElem?_take, List.getElem?_take]
    split
    · exact hj j ‹_›
    · rfl
  rw [this]; exact h2
theorem Src.take {P k n : Nat} {G : Heap} (h : Src G P k) (hn : P < n) : Src (G.take n) P k :=
  h.mv (by rw [List.getElem?_take, if_pos hn]) fun j hj => by rw [List.getElem?_take, if_pos (by omega)]
theorem nthI_ok {bs : List Int} (h : ∀ b ∈ bs, 0 ≤ b ∧ b ≤ 255) {i : Nat} (hi : i < bs.length) : 0 ≤ nth bs i ∧ nth bs i ≤ 255 := h _ (nth_mem hi)
theorem and255 {x : Int} : 0 ≤ bitsOf .and .u64 x 255 ∧ bitsOf .and .u64 x 255 ≤ 255 := by
  have e0 : IntKind.bits .u64 = 64 := rfl
  unfold bitsOf
  simp only []
  have : (BitVec.ofInt (IntKind.bits .u64) x &&& BitVec.ofInt (IntKind.bits .u64) 255).toNat ≤ 255 := by
    rw [BitVec.toNat_and]
    exact Nat.and_le_right
  rw [wrapu64 (by omega)]; omega
theorem call550 {G : Heap} {P k : Nat} (h : Src G P k) (hk : k ≤ 1000000000000) : ∃ v G', Call tab false 550 [adr P 0 0] G = some (.int .i64 v, G') ∧ 0 ≤ v ∧ v ≤ 255 ∧ Mv P G G' ∧ Src G' P (k + 1) := by
  have key : ∃ r, Call tab false 550 [adr P 0 0] G = some r ∧ ∃ v G', r = (.int .i64 v, G') ∧ 0 ≤ v ∧ v ≤ 255 ∧ Mv P G G' ∧ Src G' P (k + 1) := by
    have hl := h.lt
    obtain ⟨x, bs, i, sd, h1, h2, h3, h4, h5, h6⟩ := h
    have hx : SlR G x 1 bs.length (cs .u8 bs) := h2.pre Pre.takes
    refine Call_ex t550 (.inl rfl) rfl ?_
    have r0 : ∀ i sd, rd (G.set P (srB x i sd)) P 0 0 1 = some [x] := fun i sd => rd_at (ver := 0) (get_set (k' := srB x i sd) h1) rfl (by simp [srB])
    have r1 : ∀ i sd, rd (G.set P (srB x i sd)) P 1 0 1 = some [.int .i64 i] := fun i sd => rd_at (ver := 0) (get_set (k' := srB x i sd) h1) rfl (by simp [srB])
    have r2 : ∀ i sd, rd (G.set P (srB x i sd)) P 2 0 1 = some [.int .u64 sd] := fun i sd => rd_at (ver := 0) (get_set (k' := srB x i sd) h1) rfl (by simp [srB])
    have w1 : ∀ i sd i', wr G.length true (G.set P (srB x i sd)) P 1 0 [.int .i64 i'] = some (G.set P (srB x i' sd)) := fun i sd i' => by
      have := wr_at (n0 := G.length) (wb := true) (off := 1) (vs := [.int .i64 i']) (ver := 0) (get_set (k' := srB x i sd) h1) rfl rfl (by simp [may]) (by simp [srB])
      rw [set_set] at this; exact this
    have w2 : ∀ i sd sd', wr G.length true (G.set P (srB x i sd)) P 2 0 [.int .u64 sd'] = some (G.set P (srB x i sd')) := fun i sd sd' => by
      have := wr_at (n0 := G.length) (wb := true) (off := 2) (vs := [.int .u64 sd']) (ver := 0) (get_set (k' := srB x i sd) h1) rfl rfl (by simp [may]) (by simp [srB])
      rw [set_set] at this; exact this
    have e9 : IntKind.wrap .i64 (i + 1) = i + 1 := wrap64 (by omega)
    have r0' := r0 i sd; have r1' := r1 i sd; have w1' := w1 i sd
    rw [set_self h1] at r0' r1' w1'
    have hS : ∀ sd', Src (G.set P (srB x (i + 1) sd')) P (k + 1) := fun sd' => ⟨x, bs, i + 1, sd', get_set h1, by rw [Mv.set.take (Nat.le_refl P)]; exact h2, h3, h4, by omega, by omega⟩
    obtain ⟨m, rfl⟩ := Int.eq_ofNat_of_zero_le h5
    by_cases hlt : m < bs.length
    · obtain ⟨q, off, ver, ha, hr⟩ := hx.get1 hlt
      rw [elem_i hlt] at hr
      have hb := nthI_ok h3 hlt
      have u1 : IntKind.wrap .i64 (nth bs m) = nth bs m := wrap64 (by omega)
      have hle : (m : Int) + 1 ≤ bs.length := by omega
      simp [c550, k550, r0', r1', hx.lenV, hlt, ha, hr, w1', e9, r0, r1, r2, w2, u1, hle, wbOf]
      exact ⟨_, _, ⟨rfl, rfl⟩, hb.1, hb.2, .set, hS _⟩
    · have hle : ¬ (m : Int) + 1 ≤ bs.length := by omega
      have hlt' : ¬ (m : Int) < bs.length := by omega
      have u2 : ∀ y, IntKind.wrap .i64 (bitsOf .and .u64 y 255) = bitsOf .and .u64 y 255 := fun y => wrap64 (by have := and255 (x := y); omega)
      have u3 : ∀ y, shiftOf .shr .u64 y 40 = some (.int .u64 (y.fdiv (2 ^ 40))) := fun y => rfl
      simp [c550, k550, r0', r1', hx.lenV, hlt, hlt', w1', e9, r0, r1, r2, w2, hle, wbOf, u2, u3]
      exact ⟨_, _, ⟨rfl, rfl⟩, and255.1, and255.2, .set, hS _⟩
  obtain ⟨r, hc, v, G', rfl, h⟩ := key
  exact ⟨v, G', hc, h⟩
theorem call459 {G : Heap} {P k : Nat} {n : Int} (h : Src G P k) (hk : k ≤ 100000000000) (hn : 1 ≤ n ∧ n ≤ 1000000) : ∃ v G', Call tab false 459 [adr P 0 0, .int .i64 n] G = some (.int .i64 v, G') ∧ (0 ≤ v ∧ v < n) ∧ Mv P G G' ∧ Src G' P (k + 2) := by
  have key : ∃ r, Call tab false 459 [adr P 0 0, .int .i64 n] G = some r ∧ ∃ v G', r = (.int .i64 v, G') ∧ (0 ≤ v ∧ v < n) ∧ Mv P G G' ∧ Src G' P (k + 2) := by
    refine Call_ex t459 (.inl rfl) rfl ?_
    by_cases h1 : n ≤ 1
    · simp [c459, k459, h1]
      exact ⟨_, _, ⟨rfl, rfl⟩, ⟨by omega, by omega⟩, .refl, h.le (by omega)⟩
    have hn0 : n ≠ 0 := by omega
    obtain ⟨v, G1, c1, v0, v1, m1, s1⟩ := call550 h (by omega)
    have hmod : ∀ a : Int, 0 ≤ a → a.tmod n = a % n ∧ 0 ≤ a % n ∧ a % n < n := fun a ha => ⟨Int.tmod_eq_emod_of_nonneg ha, Int.emod_nonneg _ hn0, Int.emod_lt_of_pos _ (by omega)⟩
    by_cases h2 : n > 200
    · obtain ⟨w, G2, c2, w0, w1, m2, s2⟩ := call550 s1 (by omega)
      have e1 : IntKind.wrap .i64 (v * 256) = v * 256 := wrap64 (by omega)
      have e2 : IntKind.wrap .i64 (v * 256 + w) = v * 256 + w := wrap64 (by omega)
      obtain ⟨g1, g2, g3⟩ := hmod (v * 256 + w) (by omega)
      have e3 : IntKind.wrap .i64 ((v * 256 + w) % n) = (v * 256 + w) % n := wrap64 (by omega)
      have m := m1.trans m2
      simp [c459, k459, h1, h2, c1, c2, wbOf, e1, e2, hn0, g1, e3]
      exact ⟨_, _, ⟨rfl, rfl⟩, ⟨g2, g3⟩, by rw [List.take_of_length_le (by rw [m.len]; exact Nat.le_refl _)]; exact ⟨m, s2⟩⟩
    · obtain ⟨g1, g2, g3⟩ := hmod v v0
      have e3 : IntKind.wrap .i64 (v % n) = v % n := wrap64 (by omega)
      have h2' : ¬ 200 < n := h2
      simp [c459, k459, h1, h2', c1, wbOf, hn0, g1, e3]
      exact ⟨_, _, ⟨rfl, rfl⟩, ⟨g2, g3⟩, by rw [List.take_of_length_le (by rw [m1.len]; exact Nat.le_refl _)]; exact ⟨m1, s1.le (by omega)⟩⟩
  obtain ⟨r, hc, v, G', rfl, h⟩ := key
  exact ⟨v, G', hc, h⟩
theorem call513 {G : Heap} {P k : Nat} {n : Int} (h : Src G P k) (hk : k ≤ 100000000000) (hn : 1 ≤ n ∧ n ≤ 1000000) : ∃ b G', Call tab false 513 [adr P 0 0, .int .i64 n] G = some (.bool b, G') ∧ Mv P G G' ∧ Src G' P (k + 2) := by
  obtain ⟨v, G', c, _, m, s⟩ := call459 h hk hn
  refine ⟨v == 0, G', Call_wp t513 (.inl rfl) rfl ?_, m, s⟩
  simp [c513, k513, c, wbOf]
  exact List.take_of_length_le (by rw [m.len]; exact Nat.le_refl _)
theorem SlR.old {H : Heap} {x : Value} {esz n : Nat} {vs : List Value} (h : SlR H x esz n vs) : old0 H.length x = true := by
  rcases h.is with ⟨rfl, _⟩ | ⟨b, off, ver, cap, rfl, _, _, k, hk, _⟩
  · rfl
  · rw [old0_slc]
    simpa using (List.getElem?_eq_some_iff.1 hk).1
theorem finish_adr {H G : Heap} {b ver : Nat} {k : Blk} (hp : Pre H G) (hb : H.length ≤ b) (hk : G[b]? = some k) (hv : ver = k.ver) (hr : k.ro = false) (ho : k.cells.all (old0 H.length) = true) :
    finish H.length G [adr b 0 ver] = (adr H.length 0 0, H ++ [{ k with ver := 0 }]) := by
  have h1 : old1 H.length (adr b 0 ver) = false := by
    show (decide (b < H.length)) = false
    simpa using hb
  have : pack H.length G [adr b 0 ver] [] [] = some ([adr H.length 0 0], [{ k with ver := 0 }]) := by
    rw [pack, if_neg (by rw [h1]; decide)]
    show (match G[b]? with
      | some k => if ([] : List Nat).contains b = false ∧ ver = k.ver ∧ k.ro = false ∧ k.cells.all (old0 H.length) = true then _ else none
      | none => none) = _
    rw [hk]
    simp only []
    rw [if_pos ⟨by simp, hv, hr, ho⟩]
    rfl
  rw [finish_some this, hp.take]; rfl
/-- A source anew. -/
theorem call315 {pu : Bool} {H : Heap} {x : Value} {bs : List Int} (hx : SlR H x 1 bs.length (cs .u8 bs)) (hb : ∀ b ∈ bs, 0 ≤ b ∧ b ≤ 255) (hn : bs.length ≤ 1000000) :
    Call tab pu 315 [x] H = some (adr H.length 0 0, H ++ [srB x 0 0]) ∧ Src (H ++ [srB x 0 0]) H.length 0 := by
  constructor
  · refine Call_wp t315 (.inr rfl) rfl ?_
    have hc : cellsOf x = [x] := by
      rcases hx.is with ⟨rfl, _⟩ | ⟨b, off, ver, cap, rfl, _⟩ <;> rfl
    have hf : fill [.slice none 0 0, .int .i64 0, .int .u64 0] [(0, 1, x)] = some [x, .int .i64 0, .int .u64 0] := by
      show (if (cellsOf x).length = 1 ∧ 0 + 1 ≤ 3 then fill (splice [.slice none 0 0, .int .i64 0, .int .u64 0] 0 (cellsOf x)) [] else none) = _
      rw [hc]; rfl
    have hfin := finish_adr (H := H) (G := H ++ [srB x 0 0]) (b := H.length) (ver := 0) Pre.one (Nat.le_refl _) get_last rfl rfl (by simp [srB, hx.old])
    have e1 : ({ srB x 0 0 with ver := 0 } : Blk) = srB x 0 0 := rfl
    rw [e1] at hfin
    simp only [srB] at hfin ⊢
    simp [c315, k315, hf, hfin]
  · refine ⟨x, bs, 0, 0, get_last, ?_, hb, hn, by omega, by omega⟩
    rw [List.take_left' rfl]
    exact hx
theorem orI_ok {a b : Int} : u16' (orI a b) := by
  have e0 : IntKind.bits .u16 = 16 := rfl
  unfold orI bitsOf
  simp only []
  have : (BitVec.ofInt (IntKind.bits .u16) a ||| BitVec.ofInt (IntKind.bits .u16) b).toNat < 2 ^ 16 := by rw [e0]; exact BitVec.isLt _
  rw [wrapu16 (by omega)]; omega
theorem orI_row {a b : Int} (ha : u16' a) (hb : u16' b) (h1 : okRow a = true) (h2 : okRow b = true) : okRow (orI a b) = true := by
  obtain ⟨n, rfl⟩ := Int.eq_ofNat_of_zero_le ha.1
  obtain ⟨m, rfl⟩ := Int.eq_ofNat_of_zero_le hb.1
  simp [okRow] at h1 h2 ⊢
  have e0 : IntKind.bits .u16 = 16 := rfl
  unfold orI bitsOf
  simp only []
  have e1 : (BitVec.ofInt (IntKind.bits .u16) (n : Int) ||| BitVec.ofInt (IntKind.bits .u16) (m : Int)).toNat = n ||| m := by
    rw [BitVec.toNat_or, e0, BitVec.ofInt_natCast, BitVec.ofInt_natCast, BitVec.toNat_ofNat, BitVec.toNat_ofNat, Nat.mod_eq_of_lt (show n < 2 ^ 16 by omega), Nat.mod_eq_of_lt (show m < 2 ^ 16 by omega)]
  have e2 : n ||| m < 2 ^ 12 := Nat.or_lt_two_pow (show n < 2 ^ 12 by omega) (show m < 2 ^ 12 by omega)
  rw [e1, wrapu16 (by omega)]; omega
/-- A valid frame. -/
structure VF (f : List Int) : Prop where
  W : FrW f
  ok : okF f = true
theorem VF.row {f : List Int} (h : VF f) {i : Nat} (hi : i < 12) : u16' (nth f i) ∧ okRow (nth f i) = true := ⟨h.W.nth hi, List.all_eq_true.1 (show f.all okRow = true from h.ok) _ (nth_mem (by rw [h.W.len]; exact hi))⟩
theorem VF.set {f : List Int} {i : Nat} {r : Int} (h : VF f) (hr : u16' r) (ho : okRow r = true) : VF (f.set i r) :=
  ⟨⟨by simp [h.W.len], fun n hn => (List.mem_or_eq_of_mem_set hn).elim (h.W.ok n) (fun e => by rw [e]; exact hr)⟩,
    List.all_eq_true.2 fun n hn => (List.mem_or_eq_of_mem_set hn).elim (fun h1 => List.all_eq_true.1 (show f.all okRow = true from h.ok) n h1) (fun e => by rw [e]; exact ho)⟩
theorem VF.zero : VF (zr 12 0) := ⟨⟨by simp, fun n hn => by simp [zr] at hn; subst hn; exact ⟨by omega, by omega⟩⟩, by decide⟩
/-- In a function that draws: the source and a frame of its own. -/
structure Loc (G G' : Heap) (P k : Nat) (f : List Int) : Prop where
  src : Src G' P k
  fr : G'[G.length]? = some ⟨cs .u16 f, 1, 0, false⟩
  V : VF f
  len : G'.length = G.length + 1
  get : ∀ j, j < G.length → j ≠ P → G'[j]? = G[j]?
  lt : P < G.length
theorem Loc.mv {G G' G'' : Heap} {P k k' : Nat} {f : List Int} (h : Loc G G' P k f) (m : Mv P G' G'') (s : Src G'' P k') : Loc G G'' P k' f := by
  have := h.lt
  exact ⟨s, by rw [m.get _ (by omega)]; exact h.fr, h.V, by rw [m.len]; exact h.len, fun j hj hp => by rw [m.get j hp]; exact h.get j hj hp, h.lt⟩
theorem Loc.le {G G' : Heap} {P k k' : Nat} {f : List Int} (h : Loc G G' P k f) (hk : k ≤ k') : Loc G G' P k' f := ⟨h.src.le hk, h.fr, h.V, h.len, h.get, h.lt⟩
theorem Loc.set {G G' : Heap} {P k : Nat} {f g : List Int} (h : Loc G G' P k f) (hg : VF g) : Loc G (G'.set G.length ⟨cs .u16 g, 1, 0, false⟩) P k g := by
  have := h.lt
  exact ⟨h.src.mv (List.getElem?_set_ne (by omega)) fun j hj => List.getElem?_set_ne (by omega), get_set h.fr, hg, by simp [h.len], fun j hj hp => by rw [List.getElem?_set_ne (by omega)]; exact h.get j hj hp, h.lt⟩
theorem Loc.pick {G G' : Heap} {P k : Nat} {f : List Int} {n : Int} (h : Loc G G' P k f) (hk : k ≤ 100000000000) (hn : 1 ≤ n ∧ n ≤ 1000000) : ∃ v G'', Call tab false 459 [adr P 0 0, .int .i64 n] G' = some (.int .i64 v, G'') ∧ (0 ≤ v ∧ v < n) ∧ Loc G G'' P (k + 2) f ∧ G''[G.length]? = G'[G.length]? := by
  obtain ⟨v, G'', c, hv, m, s⟩ := call459 h.src hk hn
  exact ⟨v, G'', c, hv, h.mv m s, m.get _ (by have := h.lt; omega)⟩
structure Lo2 (G G' : Heap) (P k : Nat) (x : Value) (L : List (List Int)) (f : List Int) : Prop where
  src : Src G' P k
  ls : ∃ ver, x = slc G.length 0 ver L.length L.length ∧ G'[G.length]? = some ⟨bkC L, 12, ver, false⟩
  VL : ∀ g ∈ L, VF g
  fr : G'[G.length + 1]? = some ⟨cs .u16 f, 1, 0, false⟩
  V : VF f
  len : G.length + 2 ≤ G'.length
  get : ∀ j, j < G.length → j ≠ P → G'[j]? = G[j]?
  lt : P < G.length
theorem Lo2.mv {G G' G'' : Heap} {P k k' : Nat} {x : Value} {L : List (List Int)} {f : List Int} (h : Lo2 G G' P k x L f) (m : Mv P G' G'') (s : Src G'' P k') : Lo2 G G'' P k' x L f := by
  have := h.lt
  exact ⟨s, by obtain ⟨ver, e, g⟩ := h.ls; exact ⟨ver, e, by rw [m.get _ (by omega)]; exact g⟩, h.VL, by rw [m.get _ (by omega)]; exact h.fr, h.V, by rw [m.len]; exact h.len, fun j hj hp => by rw [m.get j hp]; exact h.get j hj hp, h.lt⟩
theorem Lo2.le {G G' : Heap} {P k k' : Nat} {x : Value} {L : List (List Int)} {f : List Int} (h : Lo2 G G' P k x L f) (hk : k ≤ k') : Lo2 G G' P k' x L f := ⟨h.src.le hk, h.ls, h.VL, h.fr, h.V, h.len, h.get, h.lt⟩
theorem Lo2.set {G G' : Heap} {P k : Nat} {x : Value} {L : List (List Int)} {f g : List Int} (h : Lo2 G G' P k x L f) (hg : VF g) : wr G.length true G' (G.length + 1) 0 0 (cs .u16 g) = some (G'.set (G.length + 1) ⟨cs .u16 g, 1, 0, false⟩) ∧ Lo2 G (G'.set (G.length + 1) ⟨cs .u16 g, 1, 0, false⟩) P k x L g := by
  have hl := h.lt
  have hlen := h.len
  have hw := wr_at (n0 := G.length) (wb := true) (off := 0) (vs := cs .u16 g) (ver := 0) h.fr rfl rfl (by simp [may]) (by simp [h.V.W.len, hg.W.len])
  have hsp : splice (cs .u16 f) 0 (cs .u16 g) = cs .u16 g := by
    unfold splice
    rw [List.take_zero, List.nil_append, Nat.zero_add, List.drop_eq_nil_of_le (by simp [h.V.W.len, hg.W.len]), List.append_nil]
  simp only [hsp] at hw
  exact ⟨hw, h.src.mv (List.getElem?_set_ne (by omega)) fun j hj => List.getElem?_set_ne (by omega), by obtain ⟨ver, e, g⟩ := h.ls; exact ⟨ver, e, by rw [List.getElem?_set_ne (by omega)]; exact g⟩, h.VL, get_set h.fr, hg, by simpa using hlen,
    fun j hj hp => by rw [List.getElem?_set_ne (by omega)]; exact h.get j hj hp, hl⟩
theorem Lo2.pick {G G' : Heap} {P k : Nat} {x : Value} {L : List (List Int)} {f : List Int} {n : Int} (h : Lo2 G G' P k x L f) (hk : k ≤ 100000000000) (hn : 1 ≤ n ∧ n ≤ 1000000) : ∃ v G'', Call tab false 459 [adr P 0 0, .int .i64 n] G' = some (.int .i64 v, G'') ∧ (0 ≤ v ∧ v < n) ∧ Lo2 G G'' P (k + 2) x L f := by
  obtain ⟨v, G'', c, hv, m, s⟩ := call459 h.src hk hn
  exact ⟨v, G'', c, hv, h.mv m s⟩
theorem vl_size {L : List (List Int)} (h : ∀ g ∈ L, VF g) : (bkC L).length = L.length * 12 := bkC_length fun f hf => (h f hf).W
theorem Lo2.bk {G G' : Heap} {P k : Nat} {x : Value} {L : List (List Int)} {f : List Int} (h : Lo2 G G' P k x L f) : Bk G' x L := by
  obtain ⟨ver, rfl, g⟩ := h.ls
  have hs := vl_size h.VL
  exact ⟨hs, .inr ⟨_, 0, ver, L.length, rfl, Nat.le_refl _, by rw [rd_at g rfl (by simp [hs])]; simp [take_all, hs], _, g, rfl, rfl⟩⟩
theorem Lo2.push {G G' : Heap} {P k : Nat} {x : Value} {L : List (List Int)} {f : List Int} (h : Lo2 G G' P k x L f) (hn : L.length ≤ 1000000) :
    ∃ x' G'', ((srcOf 12 (G' ++ [⟨cs .u16 f, 12, 0, false⟩]) (slc G'.length 0 0 1 1)).bind fun q => appendTo G.length true 12 24 (G' ++ [⟨cs .u16 f, 12, 0, false⟩]) x q.1 q.2) = some (x', G'') ∧ Lo2 G G'' P k x' (L ++ [f]) f := by
  have hl := h.lt
  have hlen := h.len
  have hf := h.V.W.len
  have hs := vl_size h.VL
  have hfr := h.fr
  have hsrc := h.src
  have hget := h.get
  obtain ⟨ver, rfl, g⟩ := h.ls
  have gA : ∀ j, j < G'.length → (G' ++ [(⟨cs .u16 f, 12, 0, false⟩ : Blk)])[j]? = G'[j]? := fun j hj => List.getElem?_append_left hj
  have g' : (G' ++ [(⟨cs .u16 f, 12, 0, false⟩ : Blk)])[G.length]? = some ⟨bkC L, 12, ver, false⟩ := by rw [gA _ (by omega)]; exact g
  have e1 : srcOf 12 (G' ++ [⟨cs .u16 f, 12, 0, false⟩]) (slc G'.length 0 0 1 1) = some (1, cs .u16 f) := by
    show (rd (G' ++ [⟨cs .u16 f, 12, 0, false⟩]) G'.length 0 0 (1 * 12)).map (fun cs => (1, cs)) = _
    rw [Nat.one_mul, rd_last rfl (by simpa using hf)]; rfl
  have e2 : (L ++ [f]).length = L.length + 1 := by simp
  refine ⟨slc G.length 0 (ver + 1) (L.length + 1) (L.length + 1), (G' ++ [(⟨cs .u16 f, 12, 0, false⟩ : Blk)]).set G.length ⟨bkC L ++ cs .u16 f, 12, ver + 1, false⟩, ?_, ?_⟩
  · rw [e1, Option.bind_some]
    exact appendTo_grow g' rfl rfl (by simp [may]) rfl hs.symm (by omega) (room24 (by omega))
  · refine ⟨hsrc.mv (by rw [List.getElem?_set_ne (by omega), gA _ (by omega)]) fun j hj => by rw [List.getElem?_set_ne (by omega), gA _ (by omega)], ⟨ver + 1, by rw [e2], by rw [get_set g', bkC_push]⟩, fun g hg => ?_, by rw [List.getElem?_set_ne (by omega), gA _ (by omega)]; exact hfr, h.V, by simp; omega, fun j hj hp => by rw [List.getElem?_set_ne (by omega), gA _ (by omega)]; exact hget j hj hp, hl⟩
    rcases List.mem_append.1 hg with h1 | h1
    · exact h.VL g h1
    · rw [List.mem_singleton.1 h1]; exact h.V
/-- In a function that draws: the source, and blocks of the call's own behind. -/
structure Lo0 (G G' : Heap) (P k : Nat) : Prop where
  src : Src G' P k
  len : G.length ≤ G'.length
  get : ∀ j, j < G.length → j ≠ P → G'[j]? = G[j]?
  lt : P < G.length
theorem Lo0.mv {G G' G'' : Heap} {P k k' : Nat} (h : Lo0 G G' P k) (m : Mv P G' G'') (s : Src G'' P k') : Lo0 G G'' P k' :=
  ⟨s, by rw [m.len]; exact h.len, fun j hj hp => by rw [m.get j hp]; exact h.get j hj hp, h.lt⟩
theorem Lo0.pre {G G' G'' : Heap} {P k : Nat} (h : Lo0 G G' P k) (p : Pre G' G'') : Lo0 G G'' P k := by
  have h1 := h.len
  exact ⟨h.src.pre p, Nat.le_trans h1 p.len, fun j hj hp => by rw [p.get (by omega)]; exact h.get j hj hp, h.lt⟩
theorem Lo0.le {G G' : Heap} {P k k' : Nat} (h : Lo0 G G' P k) (hk : k ≤ k') : Lo0 G G' P k' := ⟨h.src.le hk, h.len, h.get, h.lt⟩
/-- Valid light. -/
structure VL (l : List Int) : Prop where
  len : l.length = 144
  ok : okAll l = true
theorem VL.set {l : List Int} {i : Nat} {v : Int} (h : VL l) (hv : 0 ≤ v ∧ v ≤ 1000) : VL (l.set i v) :=
  ⟨by simp [h.len], List.all_eq_true.2 fun n hn => (List.mem_or_eq_of_mem_set hn).elim (fun h1 => List.all_eq_true.1 (show l.all okL = true from h.ok) n h1) (fun e => by rw [e]; simpa [okL] using hv)⟩
theorem VL.zero : VL (zr 144 0) := ⟨by simp, by decide⟩
theorem bit_get {n : Nat} {i : Nat} (h : i < 16) : (BitVec.ofInt 16 (n : Int)).getLsbD i = n.testBit i := by
  rw [BitVec.ofInt_natCast, BitVec.getLsbD_ofNat]
  simp [h]
theorem dotB_vec {v : BitVec 16} {i : Nat} : dotB (IntKind.wrap .u16 (v.toNat : Int)) i = v.getLsbD i := by
  have := v.isLt
  rw [wrapu16 (by omega), dotB_bit]
  exact BitVec.testBit_toNat v
theorem or_dot {a b : Int} (ha : u16' a) (hb : u16' b) {i : Nat} (hi : i < 16) : dotB (orI a b) i = (dotB a i || dotB b i) := by
  obtain ⟨n, rfl⟩ := Int.eq_ofNat_of_zero_le ha.1
  obtain ⟨m, rfl⟩ := Int.eq_ofNat_of_zero_le hb.1
  rw [dotB_bit, dotB_bit, ← bit_get hi, ← bit_get hi, ← BitVec.getLsbD_or]
  exact dotB_vec
theorem less_dot {a b : Int} (ha : u16' a) (hb : u16' b) {i : Nat} (hi : i < 16) : dotB (lessI a b) i = (dotB a i && !dotB b i) := by
  obtain ⟨n, rfl⟩ := Int.eq_ofNat_of_zero_le ha.1
  obtain ⟨m, rfl⟩ := Int.eq_ofNat_of_zero_le hb.1
  have e1 : (BitVec.ofInt 16 (n : Int) &&& ~~~BitVec.ofInt 16 (m : Int)).getLsbD i = ((BitVec.ofInt 16 (n : Int)).getLsbD i && !(BitVec.ofInt 16 (m : Int)).getLsbD i) := by
    rw [BitVec.getLsbD_and, BitVec.getLsbD_not]; simp [hi]
  rw [dotB_bit, dotB_bit, ← bit_get hi, ← bit_get hi, ← e1]
  exact dotB_vec
theorem hasF_dots {p : Nat → Nat → Bool} {x y : Nat} (hx : x < 12) (hy : y < 12) : hasF (dotsF p) x y = p x y := by
  rw [hasF, dotsF_nth hy, dotB_bit, rowN_bit]; simp [hx]
theorem VF.dots {f : List Int} (h : VF f) : dotsF (hasF f) = f := by
  refine (ext_nth (by rw [dotsF_length, h.W.len]) fun y hy => ?_)
  rw [dotsF_length] at hy
  obtain ⟨n, hn, hlt⟩ := okF_row h.ok h.W hy
  rw [dotsF_nth hy, hn]
  have := rowN_eq (q := fun x => hasF f x y) (n := n) (m := 12) hlt fun x hx => by rw [hasF, hn, dotB_bit]
  rw [← this]
theorem VF.ext {f g : List Int} (hf : VF f) (hg : VF g) (h : ∀ x y, x < 12 → y < 12 → hasF f x y = hasF g x y) : f = g := by
  rw [← hf.dots, ← hg.dots]
  exact dotsF_congr h
theorem mix_or {f g : List Int} (hf : VF f) (hg : VF g) {x y : Nat} (hx : x < 12) (hy : y < 12) : hasF (mixF orI f g) x y = (hasF f x y || hasF g x y) := by
  rw [hasF, mixF, nth_tabN hy]; exact or_dot (hf.row hy).1 (hg.row hy).1 (by omega)
theorem mix_less {f g : List Int} (hf : VF f) (hg : VF g) {x y : Nat} (hx : x < 12) (hy : y < 12) : hasF (mixF lessI f g) x y = (hasF f x y && !hasF g x y) := by
  rw [hasF, mixF, nth_tabN hy]; exact less_dot (hf.row hy).1 (hg.row hy).1 (by omega)
theorem mixV {op : Int → Int → Int} {f g : List Int} (hf : VF f) (hg : VF g) (h : ∀ a b, u16' a → u16' b → okRow a = true → okRow b = true → u16' (op a b) ∧ okRow (op a b) = true) : VF (mixF op f g) := by
  have key : ∀ i, i < 12 → u16' (nth (mixF op f g) i) ∧ okRow (nth (mixF op f g) i) = true := fun i hi => by
    rw [mixF, nth_tabN hi]
    exact h _ _ (hf.row hi).1 (hg.row hi).1 (hf.row hi).2 (hg.row hi).2
  exact ⟨⟨mixF_length, fun n hn => by obtain ⟨i, hi, rfl⟩ := mem_nth hn; rw [mixF_length] at hi; exact (key i hi).1⟩, okF_true mixF_length fun i hi => (key i hi).2⟩
theorem or_V {f g : List Int} (hf : VF f) (hg : VF g) : VF (mixF orI f g) := mixV hf hg fun _ _ h1 h2 h3 h4 => ⟨orI_ok, orI_row h1 h2 h3 h4⟩
theorem less_V {f g : List Int} (hf : VF f) (hg : VF g) : VF (mixF lessI f g) := mixV hf hg fun _ _ h1 h2 h3 _ => ⟨lessI_ok, lessI_row h1 h3⟩
theorem hasF_zero {x y : Nat} (hx : x < 12) (hy : y < 12) : hasF (zr 12 0) x y = false := by rw [← dotsF_none, hasF_dots hx hy]
theorem less_none {f g : List Int} (hf : VF f) (hg : VF g) (h : ∀ x y, x < 12 → y < 12 → hasF f x y = true → hasF g x y = true) : mixF lessI f g = zr 12 0 :=
  (less_V hf hg).ext .zero fun x y hx hy => by
    rw [mix_less hf hg hx hy, hasF_zero hx hy]
    cases h1 : hasF f x y with
    | false => rfl
    | true => rw [h x y hx hy h1]; rfl
/-- A list of bytes in memory. -/
structure By (H : Heap) (x : Value) (bs : List Int) : Prop where
  s : SlR H x 1 bs.length (cs .u8 bs)
  b : ∀ v ∈ bs, 0 ≤ v ∧ v ≤ 255
theorem By.pre {H G : Heap} {x : Value} {bs : List Int} (p : Pre H G) (h : By H x bs) : By G x bs := ⟨h.s.pre p, h.b⟩
theorem call169 {pu : Bool} {H : Heap} {x : Value} {bs : List Int} (hx : By H x bs) : Call tab pu 169 [x] H = some (.bool (decide (4096 < bs.length)), H) := by
  refine Call_wp t169 (.inr rfl) rfl ?_
  simp [c169, k169, hx.s.lenV]
  omega
/-- In a function that draws: the source, and a list of the call's own in the first new block. -/
structure LoG (G G' : Heap) (P k : Nat) (x : Value) (esz n : Nat) (vs : List Value) : Prop where
  src : Src G' P k
  ls : ∃ ver, x = slc G.length 0 ver n n ∧ G'[G.length]? = some ⟨vs, esz, ver, false⟩
  size : vs.length = n * esz
  len : G.length + 1 ≤ G'.length
  get : ∀ j, j < G.length → j ≠ P → G'[j]? = G[j]?
  lt : P < G.length
theorem LoG.mv {G G' G'' : Heap} {P k k' esz n : Nat} {x : Value} {vs : List Value} (h : LoG G G' P k x esz n vs) (m : Mv P G' G'') (s : Src G'' P k') : LoG G G'' P k' x esz n vs := by
  have := h.lt
  exact ⟨s, by obtain ⟨ver, e, g⟩ := h.ls; exact ⟨ver, e, by rw [m.get _ (by omega)]; exact g⟩, h.size, by rw [m.len]; exact h.len, fun j hj hp => by rw [m.get j hp]; exact h.get j hj hp, h.lt⟩
theorem LoG.le {G G' : Heap} {P k k' esz n : Nat} {x : Value} {vs : List Value} (h : LoG G G' P k x esz n vs) (hk : k ≤ k') : LoG G G' P k' x esz n vs := ⟨h.src.le hk, h.ls, h.size, h.len, h.get, h.lt⟩
theorem LoG.pick {G G' : Heap} {P k esz m : Nat} {x : Value} {vs : List Value} {n : Int} (h : LoG G G' P k x esz m vs) (hk : k ≤ 100000000000) (hn : 1 ≤ n ∧ n ≤ 1000000) : ∃ v G'', Call tab false 459 [adr P 0 0, .int .i64 n] G' = some (.int .i64 v, G'') ∧ (0 ≤ v ∧ v < n) ∧ LoG G G'' P (k + 2) x esz m vs := by
  obtain ⟨v, G'', c, hv, mv, s⟩ := call459 h.src hk hn
  exact ⟨v, G'', c, hv, h.mv mv s⟩
theorem LoG.new {G : Heap} {P k esz : Nat} (h : Src G P k) : LoG G (G ++ [⟨[], esz, 0, false⟩]) P k (slc G.length 0 0 0 0) esz 0 [] :=
  ⟨h.pre Pre.one, ⟨0, rfl, get_last⟩, by simp, by simp, fun j hj _ => Pre.one.get hj, h.lt⟩
theorem LoG.push {G G' : Heap} {P k esz n bytes : Nat} {x : Value} {vs c : List Value} (h : LoG G G' P k x esz n vs) (hc : c.length = esz) (hb : (n + 1) * bytes ≤ roomMax) :
    ∃ x' G'', ((srcOf esz (G' ++ [⟨c, esz, 0, false⟩]) (slc G'.length 0 0 1 1)).bind fun q => appendTo G.length true esz bytes (G' ++ [⟨c, esz, 0, false⟩]) x q.1 q.2) = some (x', G'') ∧ LoG G G'' P k x' esz (n + 1) (vs ++ c) := by
  have hl := h.lt
  have hlen := h.len
  have hsrc := h.src
  have hget := h.get
  have hs := h.size
  obtain ⟨ver, rfl, g⟩ := h.ls
  have gA : ∀ j, j < G'.length → (G' ++ [(⟨c, esz, 0, false⟩ : Blk)])[j]? = G'[j]? := fun j hj => List.getElem?_append_left hj
  have g' : (G' ++ [(⟨c, esz, 0, false⟩ : Blk)])[G.length]? = some ⟨vs, esz, ver, false⟩ := by rw [gA _ (by omega)]; exact g
  have e1 : srcOf esz (G' ++ [⟨c, esz, 0, false⟩]) (slc G'.length 0 0 1 1) = some (1, c) := by
    show (rd (G' ++ [⟨c, esz, 0, false⟩]) G'.length 0 0 (1 * esz)).map (fun cs => (1, cs)) = _
    rw [Nat.one_mul, rd_last rfl (by simpa using hc)]; rfl
  refine ⟨slc G.length 0 (ver + 1) (n + 1) (n + 1), (G' ++ [(⟨c, esz, 0, false⟩ : Blk)]).set G.length ⟨vs ++ c, esz, ver + 1, false⟩, ?_, ?_⟩
  · rw [e1, Option.bind_some]
    exact appendTo_grow g' rfl rfl (by simp [may]) rfl hs.symm (by omega) hb
  · exact ⟨hsrc.mv (by rw [List.getElem?_set_ne (by omega), gA _ (by omega)]) fun j hj => by rw [List.getElem?_set_ne (by omega), gA _ (by omega)], ⟨ver + 1, rfl, get_set g'⟩, by simp [hs, hc, Nat.succ_mul], by simp; omega,
      fun j hj hp => by rw [List.getElem?_set_ne (by omega), gA _ (by omega)]; exact hget j hj hp, hl⟩
theorem LoG.rd {G G' : Heap} {P k esz n o m : Nat} {x : Value} {vs : List Value} (h : LoG G G' P k x esz n vs) {ver : Nat} (hx : x = slc G.length 0 ver n n) (ho : o + m ≤ n * esz) : Fb.rd G' G.length o ver m = some ((vs.drop o).take m) := by
  obtain ⟨ver', e, g⟩ := h.ls
  rw [hx] at e
  have hve : ver = ver' := by
    have := e
    simp [slc] at this
    exact this
  subst hve
  exact rd_at (ver := ver) g rfl (by rw [h.size]; exact ho)
/-- Keys of a drawn track: all behind one another, ahead of t. -/
structure KG (ks : List Ky) (t : Int) : Prop where
  r : ∀ i, i < ks.length → (0 ≤ (ky ks i).1 ∧ (ky ks i).1 < t) ∧ (-6 ≤ (ky ks i).2.1 ∧ (ky ks i).2.1 ≤ 6) ∧ -6 ≤ (ky ks i).2.2 ∧ (ky ks i).2.2 ≤ 6
  s : ∀ i, i + 1 < ks.length → (ky ks i).1 < (ky ks (i + 1)).1
theorem ky_push {ks : List Ky} {k : Ky} {i : Nat} : ky (ks ++ [k]) i = if i < ks.length then ky ks i else if i = ks.length then k else default := by
  unfold ky at0
  rw [List.getD_eq_getElem?_getD, List.getElem?_append]
  split
  · rw [List.getD_eq_getElem?_getD]
  · rename_i h
    split
    · rename_i h2; subst h2; simp
    · rw [List.getElem?_eq_none (by simp; omega)]; rfl
theorem KG.push {ks : List Ky} {t t' a b : Int} (h : KG ks t) (ht : 0 ≤ t) (htt : t < t') (ha : -6 ≤ a ∧ a ≤ 6) (hb : -6 ≤ b ∧ b ≤ 6) : KG (ks ++ [(t, a, b)]) t' := by
  refine ⟨fun i hi => ?_, fun i hi => ?_⟩
  · have hi : i < ks.length + 1 := by simpa using hi
    rw [ky_push]
    by_cases h1 : i < ks.length
    · rw [if_pos h1]; have := h.r i h1; exact ⟨by omega, this.2⟩
    · rw [if_neg h1, if_pos (by omega)]; exact ⟨⟨ht, htt⟩, ha, hb⟩
  · have hi : i + 1 < ks.length + 1 := by simpa using hi
    rw [ky_push, ky_push, if_pos (by omega)]
    by_cases h1 : i + 1 < ks.length
    · rw [if_pos h1]; exact h.s i h1
    · rw [if_neg h1, if_pos (by omega)]; exact (h.r i (by omega)).1.2
/-- A drawn track. -/
structure DT (ks : List Ky) : Prop where
  n1 : 1 ≤ ks.length
  n5 : ks.length ≤ 5
  ok : okTk ks = true
/-- A drawn part. -/
structure DP (s : Pt) : Prop where
  f : VF s.f
  e : 0 ≤ s.e ∧ s.e ≤ 3
  ks : DT s.ks
theorem DT.W {ks : List Ky} (h : DT ks) : KyW ks := fun k hk => by
  have V := okTk_V h.ok
  obtain ⟨i, hi, rfl⟩ := List.getElem_of_mem hk
  have := V.r i hi
  have e : ky ks i = ks[i] := Option.some.inj ((at0_get hi).symm.trans (List.getElem?_eq_getElem hi))
  rw [e] at this
  exact ⟨by omega, ⟨by omega, by omega⟩, ⟨by omega, by omega⟩⟩
theorem DP.ok {s : Pt} (h : DP s) : okPt s = true := by
  have := h.e
  simp [okPt, h.f.ok, h.ks.ok, in1, this]
theorem DP.W {s : Pt} (h : DP s) : PtW s := ⟨h.f.W.ok, ⟨by have := h.e; omega, by have := h.e; omega⟩, h.ks.W⟩
theorem call259 {pu : Bool} {H : Heap} {x : Value} {bs : List Int} {n : Int} (hx : By H x bs) (hn : bs.length ≤ 1000000) (h1 : 1 ≤ n ∧ n ≤ 1000000) : ∃ v, Call tab pu 259 [x, .int .i64 n] H = some (.int .i64 v, H) ∧ 0 ≤ v ∧ v < n := by
  obtain ⟨c1, s1⟩ := call315 (pu := true) hx.s hx.b hn
  obtain ⟨v, G2, c2, hv, m2, s2⟩ := call459 (n := n) s1 (by omega) h1
  obtain ⟨H1, hH1⟩ : ∃ H1, H1 = H ++ [srB x 0 0] := ⟨_, rfl⟩
  rw [← hH1] at c1 c2 s1 m2
  have p1 : Pre H H1 := by rw [hH1]; exact Pre.one
  have t2 : G2.take H.length = H := by rw [m2.take (Nat.le_refl _), p1.take]
  have x2 : elder H.length false H1 (.int .i64 v, G2) = some (.int .i64 v, G2) := elder_same (by rw [t2, p1.take])
  refine ⟨v, Call_wp t259 (.inr rfl) rfl ?_, hv⟩
  simp [c259, k259, c1, c2, x2, wbOf, t2]
theorem call356 {pu : Bool} {G : Heap} {x y : Value} {l : List Int} (hx : SlR G x 1 l.length (cs .i64 l)) (hy : SlR G y 1 l.length (cs .i64 l)) (hn : l.length ≤ 1000000) : Call tab pu 356 [x, y] G = some (.bool true, G) := by
  refine Call_wp t356 (.inr rfl) rfl ?_
  simp [c356, k356, hx.lenV, hy.lenV]
  refine WP_forH 5 l.length _ rfl (by omega) (fun i e => e 0 = x ∧ e 1 = y) ?_ ?_ (by simp) (by simp)
  · rintro i e hi hii e4 h5 ⟨h0, h1⟩
    obtain ⟨q, off, ver, ha, hr⟩ := hx.get1 hi
    obtain ⟨q', off', ver', ha', hr'⟩ := hy.get1 hi
    rw [elem_i hi] at hr hr'
    simp [b356_1, h5, h0, h1, hii, hx.lenV, ha, hr, ha', hr', e4]
  · rintro e h5 ⟨h0, h1⟩
    simp [b356_1, h5, h0, hx.lenV]
theorem call262 {pu : Bool} {G : Heap} {x y : Value} {l : List Int} (hx : SlR G x 1 l.length (cs .i64 l)) (hy : SlR G y 1 l.length (cs .i64 l)) (hn : l.length ≤ 1000000) : Call tab pu 262 [x, y] G = some (.bool true, G) := by
  refine Call_wp t262 (.inr rfl) rfl ?_
  simp [c262, k262, call356 hx hy hn]
theorem call323 {pu : Bool} {G : Heap} {x y : Value} {b : List (List Int)} (hx : Bk G x b) (hy : Bk G y b) (hw : ∀ f ∈ b, f.length = 12) (hn : b.length ≤ 1000000) (hbw : BkW b) : Call tab pu 323 [x, y] G = some (.bool true, G) := by
  refine Call_wp t323 (.inr rfl) rfl ?_
  simp [c323, k323, hx.lenV, hy.lenV]
  refine WP_forH 5 b.length _ rfl (by omega) (fun i e => e 0 = x ∧ e 1 = y) ?_ ?_ (by simp) (by simp)
  · rintro i e hi hii e4 h5 ⟨h0, h1⟩
    obtain ⟨q, off, ver, ha, hr⟩ := Bk.get hx hbw hi
    obtain ⟨q', off', ver', ha', hr'⟩ := Bk.get hy hbw hi
    have hl := (hbw.fr hi).len
    have q1 := eqV_iv (k := .u16) hl hl
    simp [b323_1, h5, h0, h1, hii, hx.lenV, ha, hr, ha', hr', agg_cs, q1, e4]
  · rintro e h5 ⟨h0, h1⟩
    simp [b323_1, h5, h0, hx.lenV]
theorem call91 {pu : Bool} {G : Heap} {x y : Value} {b : List (List Int)} (hx : Bk G x b) (hy : Bk G y b) (hn : b.length ≤ 1000000) (hbw : BkW b) : Call tab pu 91 [x, y] G = some (.bool true, G) := by
  refine Call_wp t91 (.inr rfl) rfl ?_
  simp [c91, k91, call323 hx hy (fun f hf => (hbw f hf).len) hn hbw]
def lpD (b : List (List Int)) (n i : Nat) : Int := difF (fr b (i + n - 1)) (fr b i)
/-- The best of what was visited. -/
def LpI (b : List (List Int)) (o : Lp) (S : Nat → Nat → Prop) : Prop := match o with
  | none => ∀ n i, ¬ S n i
  | some (f, c, j) => S c f ∧ j = lpD b c f ∧ ∀ n i, S n i → j ≤ lpD b n i ∧ (lpD b n i = j → n < c ∨ (n = c ∧ f ≤ i))
theorem LpI.step {b : List (List Int)} {o : Lp} {S S' : Nat → Nat → Prop} {n i : Nat} (h : LpI b o S) (hS : ∀ n' i', S' n' i' ↔ S n' i' ∨ (n' = n ∧ i' = i)) (ho : ∀ n' i', S n' i' → n < n' ∨ (n = n' ∧ i' < i)) : LpI b (stepL b n i o) S' := by
  cases o with
  | none =>
    refine ⟨(hS n i).2 (.inr ⟨rfl, rfl⟩), rfl, fun n' i' hs => ?_⟩
    rcases (hS n' i').1 hs with h1 | ⟨rfl, rfl⟩
    · exact absurd h1 (h n' i')
    · exact ⟨Int.le_refl _, fun _ => .inr ⟨rfl, Nat.le_refl _⟩⟩
  | some q =>
    obtain ⟨f, c, j⟩ := q
    obtain ⟨h1, h2, h3⟩ := h
    show LpI b (if lpD b n i < j then some (i, n, lpD b n i) else some (f, c, j)) S'
    split
    · rename_i hlt
      refine ⟨(hS n i).2 (.inr ⟨rfl, rfl⟩), rfl, fun n' i' hs => ?_⟩
      rcases (hS n' i').1 hs with h4 | ⟨rfl, rfl⟩
      · have := (h3 n' i' h4).1
        exact ⟨by omega, fun he => by omega⟩
      · exact ⟨Int.le_refl _, fun _ => .inr ⟨rfl, Nat.le_refl _⟩⟩
    · rename_i hge
      refine ⟨(hS c f).2 (.inl h1), h2, fun n' i' hs => ?_⟩
      rcases (hS n' i').1 hs with h4 | ⟨rfl, rfl⟩
      · exact h3 n' i' h4
      · refine ⟨by omega, fun _ => ?_⟩
        rcases ho c f h1 with h5 | h5
        · exact .inl h5
        · exact .inr ⟨h5.1, by omega⟩
theorem fr_app {a b : List (List Int)} {i : Nat} : fr (a ++ b) i = if i < a.length then fr a i else fr b (i - a.length) := by
  unfold fr at0
  rw [List.getD_eq_getElem?_getD, List.getElem?_append]
  split
  · rw [List.getD_eq_getElem?_getD]
  · rw [List.getD_eq_getElem?_getD]
/-- What is left of a text behind some of its parts. -/
def tailC : Nat → Cd → Cd
  | 0, c => c
  | n + 1, .seq _ b => tailC n b
  | _, c => c
/-- What ends a law well. -/
def QL (n0 : Nat) (H : Heap) : Ex → Env → Heap → Prop := fun x e' H' => (∀ i, x ≠ .exit i) ∧ (resVs e' H' [.t 4]).map (finish n0 H') = some (.bool true, H)
structure C1 (G : Heap) (x cx l1 l2 l3 : Value) (b c : List (List Int)) (frm : Nat) : Prop where
  bk : Bk G x b
  ck : Bk G cx c
  Vb : ∀ f ∈ b, VF f
  nb : b.length ≤ 1000
  c1 : 1 ≤ c.length
  cb : frm + c.length ≤ b.length
  sub : ∀ i, i < c.length → fr c i = fr b (frm + i)
  s1 : SlR G l1 1 (mcK b c 0 (mcN b c)).1.length (cs .i64 (mcK b c 0 (mcN b c)).1)
  s2 : SlR G l2 1 (mcK b c 1 (mcN b c)).1.length (cs .i64 (mcK b c 1 (mcN b c)).1)
  s3 : SlR G l3 2 (mcK b c 1 (mcN b c)).1.length (mvsC (mcK b c 1 (mcN b c)).2)
theorem C1.V {G : Heap} {x cx l1 l2 l3 : Value} {b c : List (List Int)} {frm : Nat} (h : C1 G x cx l1 l2 l3 b c frm) {i : Nat} (hi : i < c.length) : VF (fr c i) := by
  rw [h.sub i hi]
  have := h.cb
  exact h.Vb _ (at0_mem (by omega))
/-- What the walk knows all along. -/
structure K17 (H G : Heap) (x y : Value) (b : List (List Int)) (bs : List Int) (tw : Bool) (pv : Int) : Prop where
  P : Pre H G
  by' : By G y bs
  bk : Bk G x b
  V : ∀ f ∈ b, VF f
  nb : b.length ≤ 40
  tw' : tw = true → ∃ L, b = L ++ L
  pv' : 1 ≤ b.length → pv = findN (perP b) (b.length + 1)
theorem K17.pre {H G G' : Heap} {x y : Value} {b : List (List Int)} {bs : List Int} {tw : Bool} {pv : Int} (h : K17 H G x y b bs tw pv) (p : Pre G G') : K17 H G' x y b bs tw pv := ⟨h.P.trans p, h.by'.pre p, h.bk.pre p, h.V, h.nb, h.tw', h.pv'⟩
/-- A text with another one behind some of its parts. -/
def headC : Nat → Cd → Cd → Cd
  | 0, _, t => t
  | n + 1, .seq a b, t => .seq a (headC n b t)
  | _, c, _ => c
theorem fr_snoc {l : List (List Int)} {f : List Int} {i : Nat} (h : i < l.length + 1) : fr (l ++ [f]) i = if i < l.length then fr l i else f := by
  rw [fr_app]
  split
  · rfl
  · rw [show i - l.length = 0 by omega]; rfl
theorem LoG.app {G G' L : Heap} {P k esz n : Nat} {x : Value} {vs : List Value} (h : LoG G G' P k x esz n vs) : LoG G (G' ++ L) P k x esz n vs := by
  have hl := h.lt
  have hlen := h.len
  have g : ∀ j, j < G'.length → (G' ++ L)[j]? = G'[j]? := fun j hj => List.getElem?_append_left hj
  exact ⟨h.src.pre ⟨L, rfl⟩, by obtain ⟨ver, e, q⟩ := h.ls; exact ⟨ver, e, by rw [g _ (by omega)]; exact q⟩, h.size, by simp; omega, fun j hj hp => by rw [g _ (by omega)]; exact h.get j hj hp, hl⟩
/-- A drawn layer. -/
structure DLy (s : Ly) : Prop where
  W : LyW s
  ok : okLy s = true
  bx : -3 ≤ s.x ∧ s.x ≤ 3
  bz : -3 ≤ s.y ∧ s.y ≤ 3
  bd : 0 ≤ s.d ∧ s.d ≤ 8
theorem DLy.of {f g : List Int} {x y d : Int} (hf : VF f) (hg : VF g) (hx : -3 ≤ x ∧ x ≤ 3) (hy : -3 ≤ y ∧ y ≤ 3) (hd : 0 ≤ d ∧ d ≤ 8) : DLy ⟨f ++ mixF orI f g, x, y, d⟩ := by
  have V := or_V hf hg
  have e1 : inkL ⟨f ++ mixF orI f g, x, y, d⟩ = f := (join_sub hf.W.len V.W.len).1
  have e2 : mskL ⟨f ++ mixF orI f g, x, y, d⟩ = mixF orI f g := (join_sub hf.W.len V.W.len).2
  refine ⟨⟨by simp [hf.W.len, V.W.len], fun n hn => ?_, ⟨by simp only []; omega, by simp only []; omega⟩, ⟨by simp only []; omega, by simp only []; omega⟩, ⟨by simp only []; omega, by simp only []; omega⟩⟩, ?_, hx, hy, hd⟩
  · rcases List.mem_append.1 hn with h | h
    · exact hf.W.ok n h
    · exact V.W.ok n h
  · unfold okLy okCel
    rw [e1, e2, hf.ok, V.ok, less_none hf V fun u v hu hv h => by rw [mix_or hf hg hu hv, h]; rfl]
    simp [in1]; omega
/-- Side by side. -/
def Adj (u v u' v' : Nat) : Prop := (v = v' ∧ (u = u' + 1 ∨ u' = u + 1)) ∨ (u = u' ∧ (v = v' + 1 ∨ v' = v + 1))
theorem Adj.symm {u v u' v' : Nat} (h : Adj u v u' v') : Adj u' v' u v := by unfold Adj at *; omega
def Dot (f : List Int) (u v : Nat) : Prop := u < 12 ∧ v < 12 ∧ hasF f u v = true
/-- What hangs together. -/
inductive Conn (f : List Int) (x y : Nat) : Nat → Nat → Prop
  | base (h : Dot f x y) : Conn f x y x y
  | step {u v u' v' : Nat} (h : Conn f x y u v) (ha : Adj u' v' u v) (hd : Dot f u' v') : Conn f x y u' v'
theorem Conn.dot {f : List Int} {x y u v : Nat} (h : Conn f x y u v) : Dot f u v := by cases h <;> assumption
theorem Conn.trans {f : List Int} {x y u v a b : Nat} (h : Conn f x y u v) (h2 : Conn f u v a b) : Conn f x y a b := by
  induction h2 with
  | base _ => exact h
  | step _ ha hd ih => exact .step ih ha hd
theorem Conn.symm {f : List Int} {x y u v : Nat} (h : Conn f x y u v) : Conn f u v x y := by
  induction h with
  | base h => exact .base h
  | step h1 ha hd ih => exact Conn.trans (.step (.base hd) ha.symm h1.dot) ih
@[simp] theorem str_size {l : List UInt8} : (⟨l.toArray⟩ : ByteArray).size = l.length := by rw [Lib.size_eq]
@[simp] theorem lensV_s {l : List UInt8} : lensV (str l) = some (.int .i64 l.length) := by unfold str; simp
theorem eqV_s {a b : List UInt8} : eqV .s (str a) (str b) = some (decide (a = b)) := by
  show some ((⟨a.toArray⟩ : ByteArray).toList == (⟨b.toArray⟩ : ByteArray).toList) = _
  rw [Lib.toList_data, Lib.toList_data]
  show some (a == b) = _
  by_cases h : a = b
  · simp [h]
  · simp [h]
@[simp] theorem eqV_s0 {a : List UInt8} : eqV .s (str a) (.string ⟨#[]⟩) = some (decide (a = [])) := eqV_s (b := [])
@[simp] theorem old0_s {n0 : Nat} {l : List UInt8} : old0 n0 (str l) = true := rfl
@[simp] theorem old1_s {n0 : Nat} {l : List UInt8} : old1 n0 (str l) = true := rfl
@[simp] theorem finish_s {n0 : Nat} {H' : Heap} {l : List UInt8} : finish n0 H' [str l] = (str l, H'.take n0) := finish_1 rfl
@[simp] theorem cellsOf_s {l : List UInt8} : cellsOf (str l) = [str l] := rfl
@[simp] theorem eqV_in : eqV .i .nilIface .nilIface = some true := rfl
@[simp] theorem eqV_is {t : TypeId} {v : Value} : eqV .i (.iface t v) .nilIface = some false := rfl
theorem slr_new {G : Heap} {vs : List Value} {esz n : Nat} (h : vs.length = n * esz) : SlR (G ++ [⟨vs, esz, 0, false⟩]) (slc G.length 0 0 n n) esz n vs := (own_new h).sl
/-- A source whose bytes and state are known. -/
def SrD (G : Heap) (P : Nat) (bs : List Int) (s : Int × Int) : Prop := ∃ x, G[P]? = some (srB x s.1 s.2) ∧ SlR (G.take P) x 1 bs.length (cs .u8 bs)
theorem SrD.lt {G : Heap} {P : Nat} {bs : List Int} {s : Int × Int} (h : SrD G P bs s) : P < G.length := by
  obtain ⟨x, h1, _⟩ := h
  exact (List.getElem?_eq_some_iff.1 h1).1
theorem SrD.mv {P : Nat} {G G' : Heap} {bs : List Int} {s : Int × Int} (h : SrD G P bs s) (hP : G'[P]? = G[P]?) (hj : ∀ j, j < P → G'[j]? = G[j]?) : SrD G' P bs s := by
  obtain ⟨x, h1, h2⟩ := h
  refine ⟨x, by rw [hP]; exact h1, ?_⟩
  have : G'.take P = G.take P := by
    apply List.ext_getElem?
    intro j
    rw [List.getElem?_take, List.getElem?_take]
    split
    · exact hj j ‹_›
    · rfl
  rw [this]; exact h2
def PK (bs : List Int) (n : Int) (s : Int × Int) (v : Int) (s' : Int × Int) : Prop := ∀ G P, SrD G P bs s → ∃ G', Call tab false 459 [adr P 0 0, .int .i64 n] G = some (.int .i64 v, G') ∧ Mv P G G' ∧ SrD G' P bs s'
structure LoD (G G' : Heap) (P : Nat) (bs : List Int) (s : Int × Int) (f : List Int) : Prop where
  src : SrD G' P bs s
  fr : G'[G.length]? = some ⟨cs .u16 f, 1, 0, false⟩
  len : G'.length = G.length + 1
  get : ∀ j, j < G.length → j ≠ P → G'[j]? = G[j]?
  lt : P < G.length
theorem LoD.mv {G G' G'' : Heap} {P : Nat} {bs : List Int} {s s' : Int × Int} {f : List Int} (h : LoD G G' P bs s f) (m : Mv P G' G'') (d : SrD G'' P bs s') : LoD G G'' P bs s' f := by
  have := h.lt
  exact ⟨d, by rw [m.get _ (by omega)]; exact h.fr, by rw [m.len]; exact h.len, fun j hj hp => by rw [m.get j hp]; exact h.get j hj hp, h.lt⟩
theorem LoD.set {G G' : Heap} {P : Nat} {bs : List Int} {s : Int × Int} {f g : List Int} (h : LoD G G' P bs s f) : LoD G (G'.set G.length ⟨cs .u16 g, 1, 0, false⟩) P bs s g := by
  have := h.lt
  exact ⟨h.src.mv (List.getElem?_set_ne (by omega)) fun j hj => List.getElem?_set_ne (by omega), get_set h.fr, by simp [h.len], fun j hj hp => by rw [List.getElem?_set_ne (by omega)]; exact h.get j hj hp, h.lt⟩
theorem LoD.pick {G G' : Heap} {P : Nat} {bs : List Int} {s s' : Int × Int} {f : List Int} {n v : Int} (h : LoD G G' P bs s f) (hp : PK bs n s v s') : ∃ G'', Call tab false 459 [adr P 0 0, .int .i64 n] G' = some (.int .i64 v, G'') ∧ LoD G G'' P bs s' f ∧ G''[G.length]? = G'[G.length]? := by
  obtain ⟨G'', c, m, d⟩ := hp G' P h.src
  exact ⟨G'', c, h.mv m d, m.get _ (by have := h.lt; omega)⟩
structure K24 (H G : Heap) (x : Value) (b : List (List Int)) (f : List Int) (m : Nat) : Prop where
  P : Pre H G
  bk : Bk G x b
  V : ∀ f ∈ b, VF f
  nb : b.length ≤ 4
  hf : VF f
  hm : m ≤ 4
theorem K24.pre {H G G' : Heap} {x : Value} {b : List (List Int)} {f : List Int} {m : Nat} (h : K24 H G x b f m) (p : Pre G G') : K24 H G' x b f m := ⟨h.P.trans p, SlR.pre p h.bk, h.V, h.nb, h.hf, h.hm⟩
theorem nth_set_ne {l : List Int} {i j : Nat} {x : Int} (h : i ≠ j) : nth (l.set i x) j = nth l j := by
  simp [nth, List.getD_eq_getElem?_getD, List.getElem?_set_ne h]
theorem chg_self {g : List Int} {k : Nat} : chgL g g k = [] := by
  induction k with
  | zero => exact chgL_zero
  | succ k ih => rw [chgL_succ, ih]; simp
theorem chg_set {f g : List Int} {i : Nat} {v : Int} {k : Nat} : (chgL f g k).length ≤ (chgL (f.set i v) g k).length + if i < k then 1 else 0 := by
  induction k with
  | zero => simp [chgL_zero]
  | succ k ih =>
    rw [chgL_succ, chgL_succ]
    by_cases hik : i = k
    · subst hik
      rw [if_neg (Nat.lt_irrefl i)] at ih
      rw [if_pos (Nat.lt_succ_self i)]
      split <;> split <;> (try simp only [List.length_append, List.length_singleton]) <;> omega
    · rw [nth_set_ne hik]
      have e : (if i < k + 1 then 1 else 0) = (if i < k then 1 else 0 : Nat) := by
        by_cases h : i < k
        · rw [if_pos h, if_pos (by omega)]
        · rw [if_neg h, if_neg (by omega)]
      rw [e]
      split
      · simp only [List.length_append, List.length_singleton]; omega
      · exact ih
theorem chg_rows {f g : List Int} {s : Sted} {k : Nat} : (chgL f g 12).length ≤ (chgL (rowsX f s k) g 12).length + k := by
  induction k with
  | zero => rw [rowsX_zero]; omega
  | succ k ih =>
    rw [rowsX_succ, rowX]
    have := chg_set (f := rowsX f s k) (g := g) (i := (rw' s k).1.toNat) (v := xorI (nth (rowsX f s k) (rw' s k).1.toNat) (rw' s k).2) (k := 12)
    split at this <;> omega
/-- No step that makes a frame out of another one has fewer rows than these differ in. -/
theorem chg_least {f g : List Int} {s : Sted} (h : rowsX f s s.rows.length = g) : (chgL f g 12).length ≤ s.rows.length := by
  have := chg_rows (f := f) (g := g) (s := s) (k := s.rows.length)
  rw [h, chg_self] at this
  simpa using this
theorem xor_back {a b : Int} (ha : u16' a) (hb : u16' b) : xorI a (xorI a b) = b := by
  obtain ⟨m, rfl⟩ := Int.eq_ofNat_of_zero_le ha.1
  obtain ⟨n, rfl⟩ := Int.eq_ofNat_of_zero_le hb.1
  have h1 := ha.2
  have h2 := hb.2
  show xorI (m : Int) (xorI (m : Int) (n : Int)) = (n : Int)
  have hl : m ^^^ n < 2 ^ 16 := Nat.xor_lt_two_pow (by omega) (by omega)
  rw [xor_nat (by omega) (by omega), xor_nat (by omega) (by omega), ← Nat.xor_assoc, Nat.xor_self, Nat.zero_xor]
theorem rowsX_fold {f : List Int} {s : Sted} {k : Nat} (h : k ≤ s.rows.length) : rowsX f s k = (s.rows.take k).foldl rowX f := by
  induction k with
  | zero => rw [rowsX_zero]; rfl
  | succ k ih =>
    rw [rowsX_succ, ih (by omega), List.take_succ_eq_append_getElem (by omega), List.foldl_append]
    have : rw' s k = s.rows[k] := by
      rw [rw', at0, List.getD_eq_getElem?_getD, List.getElem?_eq_getElem (by omega)]; rfl
    rw [this]; rfl
theorem fold_len {L : List (Int × Int)} {f : List Int} : (L.foldl rowX f).length = f.length := by
  induction L generalizing f with
  | nil => rfl
  | cons m L ih => rw [List.foldl_cons, ih, rowX_length]
theorem chg_fold {f g : List Int} (hf : FrW f) (hg : FrW g) {k : Nat} (hk : k ≤ 12) : ∀ j, j < 12 → nth ((chgL f g k).foldl rowX f) j = if j < k then nth g j else nth f j := by
  induction k with
  | zero => intro j hj; rw [chgL_zero, if_neg (by omega)]; rfl
  | succ k ih =>
    intro j hj
    have ih' := ih (by omega)
    have hl := fold_len (L := chgL f g k) (f := f)
    rw [hf.len] at hl
    rw [chgL_succ]
    by_cases hd : nth f k = nth g k
    · rw [if_neg (by simp [hd]), ih' j hj]
      by_cases h1 : j < k
      · rw [if_pos h1, if_pos (by omega)]
      · rw [if_neg h1]
        by_cases h2 : j = k
        · subst h2; rw [if_pos (by omega), hd]
        · rw [if_neg (by omega)]
    · rw [if_pos (by simp [hd]), List.foldl_append, List.foldl_cons, List.foldl_nil, rowX]
      simp only [Int.toNat_natCast]
      rw [nth_set (by omega), ih' k (by omega), if_neg (Nat.lt_irrefl k)]
      by_cases h2 : k = j
      · subst h2
        rw [if_pos rfl, if_pos (by omega), xor_back (hf.nth (by omega)) (hg.nth (by omega))]
      · rw [if_neg h2, ih' j hj]
        by_cases h1 : j < k
        · rw [if_pos h1, if_pos (by omega)]
        · rw [if_neg h1, if_neg (by omega)]
/-- The rows in which frames differ, put over the one, make the other. -/
theorem chg_apply {f g : List Int} (hf : FrW f) (hg : FrW g) {s : Sted} (hs : s.rows = chgL f g 12) : rowsX f s s.rows.length = g := by
  rw [rowsX_fold (Nat.le_refl _), List.take_length, hs]
  refine list12 (by rw [fold_len, hf.len]) hg.len fun y hy => ?_
  rw [chg_fold hf hg (Nat.le_refl _) y hy, if_pos hy]
theorem chg_mem {f g : List Int} (hf : FrW f) (hk : okF f = true) (hg : FrW g) (hk' : okF g = true) {k : Nat} (h : k ≤ 12) :
    (∀ m ∈ chgL f g k, 0 ≤ m.1 ∧ m.1 < k ∧ 1 ≤ m.2 ∧ m.2 ≤ 4095) ∧ (chgL f g k).Pairwise fun a b => a.1 < b.1 := by
  induction k with
  | zero => rw [chgL_zero]; exact ⟨fun m hm => (by cases hm), List.Pairwise.nil⟩
  | succ k ih =>
    obtain ⟨h1, h2⟩ := ih (by omega)
    rw [chgL_succ]
    by_cases hd : nth f k = nth g k
    · rw [if_neg (by simp [hd])]
      exact ⟨fun m hm => by have := h1 m hm; omega, h2⟩
    · rw [if_pos (by simp [hd])]
      obtain ⟨g1, g2⟩ := okF_nth hf hk (y := k) (by omega)
      obtain ⟨g3, g4⟩ := okF_nth hg hk' (y := k) (by omega)
      have x1 : u16' (xorI (nth f k) (nth g k)) := xorI_ok
      have x2 := xorI_row g1 g3 g2 g4
      have x3 := xor_zero g1 g3
      have x4 : xorI (nth f k) (nth g k) ≠ 0 := by
        have : (nth f k != nth g k) = true := by simp [hd]
        rw [this] at x3
        simpa using x3
      simp only [okRow, decide_eq_true_eq] at x2
      have x5 := x1.1
      refine ⟨fun m hm => ?_, ?_⟩
      · rcases List.mem_append.1 hm with hm | hm
        · have := h1 m hm; omega
        · rw [List.mem_singleton] at hm
          subst hm
          simp only []
          omega
      · rw [List.pairwise_append]
        refine ⟨h2, List.pairwise_singleton _ _, fun a ha b hb => ?_⟩
        rw [List.mem_singleton] at hb
        subst hb
        have := h1 a ha
        simp only []
        omega
theorem rowsB_chg {f g : List Int} (hf : FrW f) (hk : okF f = true) (hg : FrW g) (hk' : okF g = true) {s : Sted} (hs : s.rows = chgL f g 12) : rowsB s = true := by
  obtain ⟨h1, h2⟩ := chg_mem hf hk hg hk' (Nat.le_refl 12)
  rw [← hs] at h1 h2
  refine allN_true fun j hj => ?_
  have e : ∀ i, (hi : i < s.rows.length) → rw' s i = s.rows[i] := fun i hi => by
    rw [rw', at0, List.getD_eq_getElem?_getD, List.getElem?_eq_getElem hi]; rfl
  have m1 := h1 _ (List.getElem_mem hj)
  simp only [rowB, in1, e j hj, Bool.and_eq_true, Bool.or_eq_true, decide_eq_true_eq]
  refine ⟨⟨by omega, by omega⟩, ?_⟩
  by_cases h0 : j = 0
  · exact .inl h0
  · refine .inr ?_
    rw [e (j - 1) (by omega)]
    exact List.pairwise_iff_getElem.1 h2 (j - 1) j (by omega) hj (by omega)
def kpSt (f g : List Int) (base : Int) : Sted := ⟨1, base, 0, 0, chgL f g 12⟩
def mvSt (f g : List Int) (base dx dy : Int) : Sted := ⟨2, base, dx, dy, chgL (shF f dx dy) g 12⟩
def BetW (f g : List Int) (base : Int) (s : Sted) : Prop := s = kpSt f g base ∨ ∃ dx dy : Int, (-12 ≤ dx ∧ dx ≤ 12) ∧ (-12 ≤ dy ∧ dy ≤ 12) ∧ ¬(dx = 0 ∧ dy = 0) ∧ s = mvSt f g base dx dy
theorem cost_kp {f g : List Int} {base : Int} : stCost (kpSt f g base) = 2 + 3 * ((chgL f g 12).length : Int) := rfl
theorem cost_mv {f g : List Int} {base dx dy : Int} : stCost (mvSt f g base dx dy) = 4 + 3 * ((chgL (shF f dx dy) g 12).length : Int) := rfl
theorem stepB_in {f g : List Int} {base dx dy : Int} {s : Sted} (h : BetW f g base s) (h1 : -12 ≤ dx ∧ dx ≤ 12) (h2 : -12 ≤ dy ∧ dy ≤ 12) : BetW f g base (stepB f g base s dx dy) := by
  unfold stepB
  split
  · exact h
  · rename_i hz
    split
    · refine .inr ⟨dx, dy, h1, h2, ?_, rfl⟩
      rintro ⟨rfl, rfl⟩
      exact hz rfl
    · exact h
theorem stepB_le {f g : List Int} {base dx dy : Int} {s : Sted} : stCost (stepB f g base s dx dy) ≤ stCost s ∧ (¬(dx = 0 ∧ dy = 0) → stCost (stepB f g base s dx dy) ≤ stCost (mvSt f g base dx dy)) := by
  unfold stepB
  split
  · rename_i hz
    refine ⟨Int.le_refl _, fun hn => absurd ?_ hn⟩
    rw [Bool.and_eq_true] at hz
    exact ⟨eq_of_beq hz.1, eq_of_beq hz.2⟩
  · split
    · rename_i hlt
      refine ⟨?_, fun _ => Int.le_refl _⟩
      show stCost (mvSt f g base dx dy) ≤ _
      rw [cost_mv]; omega
    · rename_i hlt
      refine ⟨Int.le_refl _, fun _ => ?_⟩
      rw [cost_mv]; omega
theorem inB_in {f g : List Int} {base dx : Int} {s : Sted} (h : BetW f g base s) (h1 : -12 ≤ dx ∧ dx ≤ 12) {k : Nat} (hk : k ≤ 25) : BetW f g base (inB f g base dx s k) := by
  induction k with
  | zero => rw [inB_zero]; exact h
  | succ k ih => rw [inB_succ]; exact stepB_in (ih (by omega)) h1 ⟨by omega, by omega⟩
theorem inB_le {f g : List Int} {base dx : Int} {s : Sted} {k : Nat} : stCost (inB f g base dx s k) ≤ stCost s ∧ ∀ j : Nat, j < k → ¬(dx = 0 ∧ (j : Int) - 12 = 0) → stCost (inB f g base dx s k) ≤ stCost (mvSt f g base dx ((j : Int) - 12)) := by
  induction k with
  | zero => rw [inB_zero]; exact ⟨Int.le_refl _, fun j hj => absurd hj (Nat.not_lt_zero j)⟩
  | succ k ih =>
    rw [inB_succ]
    obtain ⟨h1, h2⟩ := stepB_le (f := f) (g := g) (base := base) (dx := dx) (dy := (k : Int) - 12) (s := inB f g base dx s k)
    refine ⟨Int.le_trans h1 ih.1, fun j hj hn => ?_⟩
    by_cases hjk : j = k
    · subst hjk; exact h2 hn
    · exact Int.le_trans h1 (ih.2 j (by omega) hn)
theorem outB_in {f g : List Int} {base : Int} {k : Nat} (hk : k ≤ 25) : BetW f g base (outB f g base k) := by
  induction k with
  | zero => rw [outB_zero]; exact .inl rfl
  | succ k ih => rw [outB_succ]; exact inB_in (ih (by omega)) ⟨by omega, by omega⟩ (Nat.le_refl _)
theorem outB_le {f g : List Int} {base : Int} {k : Nat} : stCost (outB f g base k) ≤ stCost (kpSt f g base) ∧ ∀ i j : Nat, i < k → j < 25 → ¬((i : Int) - 12 = 0 ∧ (j : Int) - 12 = 0) → stCost (outB f g base k) ≤ stCost (mvSt f g base ((i : Int) - 12) ((j : Int) - 12)) := by
  induction k with
  | zero => rw [outB_zero]; exact ⟨Int.le_refl _, fun i j hi => absurd hi (Nat.not_lt_zero i)⟩
  | succ k ih =>
    rw [outB_succ]
    obtain ⟨h1, h2⟩ := inB_le (f := f) (g := g) (base := base) (dx := (k : Int) - 12) (s := outB f g base k) (k := 25)
    refine ⟨Int.le_trans h1 ih.1, fun i j hi hj hn => ?_⟩
    by_cases hik : i = k
    · subst hik; exact h2 j hj hn
    · exact Int.le_trans h1 (ih.2 i j (by omega) hj hn)
theorem outB_mv {f g : List Int} {base dx dy : Int} (h1 : -12 ≤ dx ∧ dx ≤ 12) (h2 : -12 ≤ dy ∧ dy ≤ 12) (hn : ¬(dx = 0 ∧ dy = 0)) : stCost (outB f g base 25) ≤ stCost (mvSt f g base dx dy) := by
  have := (outB_le (f := f) (g := g) (base := base) (k := 25)).2 (dx + 12).toNat (dy + 12).toNat (by omega) (by omega) (by omega)
  rw [show (((dx + 12).toNat : Nat) : Int) - 12 = dx by omega, show (((dy + 12).toNat : Nat) : Int) - 12 = dy by omega] at this
  exact this
def zSt (b : List (List Int)) (k : Nat) : Sted := ⟨0, 0, 0, 0, chgL (zr 12 0) (fr b k) 12⟩
theorem cost_z {b : List (List Int)} {k : Nat} : stCost (zSt b k) = 1 + 3 * ((chgL (zr 12 0) (fr b k) 12).length : Int) := rfl
theorem bestS_in {b : List (List Int)} {k : Nat} {p : Nat → Bool} {i : Nat} : bestS b k p i = zSt b k ∨ ∃ j, j < i ∧ p j = true ∧ bestS b k p i = outB (fr b j) (fr b k) j 25 := by
  induction i with
  | zero => exact .inl bestS_zero
  | succ i ih =>
    have keep : bestS b k p i = zSt b k ∨ ∃ j, j < i + 1 ∧ p j = true ∧ bestS b k p i = outB (fr b j) (fr b k) j 25 := by
      rcases ih with h | ⟨j, h1, h2, h3⟩
      · exact .inl h
      · exact .inr ⟨j, by omega, h2, h3⟩
    rw [bestS_succ]; unfold pickB
    split
    · rename_i hp
      split
      · exact .inr ⟨i, Nat.lt_succ_self i, hp, rfl⟩
      · exact keep
    · exact keep
theorem bestS_le {b : List (List Int)} {k : Nat} {p : Nat → Bool} {i : Nat} : stCost (bestS b k p i) ≤ stCost (zSt b k) ∧ ∀ j, j < i → p j = true → stCost (bestS b k p i) ≤ stCost (outB (fr b j) (fr b k) j 25) := by
  induction i with
  | zero => rw [bestS_zero]; exact ⟨Int.le_refl _, fun j hj => absurd hj (Nat.not_lt_zero j)⟩
  | succ i ih =>
    have h1 : stCost (pickB b k p i (bestS b k p i)) ≤ stCost (bestS b k p i) ∧ (p i = true → stCost (pickB b k p i (bestS b k p i)) ≤ stCost (outB (fr b i) (fr b k) i 25)) := by
      unfold pickB
      split
      · split
        · exact ⟨by omega, fun _ => Int.le_refl _⟩
        · exact ⟨Int.le_refl _, fun _ => by omega⟩
      · rename_i hp
        exact ⟨Int.le_refl _, fun h => absurd h hp⟩
    rw [bestS_succ]
    refine ⟨Int.le_trans h1.1 ih.1, fun j hj hp => ?_⟩
    by_cases hji : j = i
    · subst hji; exact h1.2 hp
    · exact Int.le_trans h1.1 (ih.2 j (by omega) hp)
/-- With fewer pages to choose from no step gets cheaper. -/
theorem bestS_mono {b : List (List Int)} {k : Nat} {p : Nat → Bool} {i : Nat} : stCost (bestS b k (fun _ => true) i) ≤ stCost (bestS b k p i) := by
  obtain ⟨h1, h2⟩ := bestS_le (b := b) (k := k) (p := fun _ => true) (i := i)
  rcases bestS_in (b := b) (k := k) (p := p) (i := i) with h | ⟨j, hj, _, h⟩
  · rw [h]; exact h1
  · rw [h]; exact h2 j hj rfl
theorem bet_ok {f g : List Int} {i j : Nat} {s : Sted} (hf : FrW f) (hk : okF f = true) (hg : FrW g) (hk' : okF g = true) (hj : j < i) (h : BetW f g (j : Int) s) : okSt s i = true := by
  rcases h with rfl | ⟨dx, dy, h1, h2, h3, rfl⟩
  · have := rowsB_chg hf hk hg hk' (s := kpSt f g j) rfl
    rw [okSt, this]
    have e : in1 (j : Int) 0 ((i : Int) - 1) = true := by simp only [in1, decide_eq_true_eq]; omega
    simp [kindB, kpSt, stillB, e]
  · have := rowsB_chg (f := shF f dx dy) dotsF_W dotsF_ok hg hk' (s := mvSt f g j dx dy) rfl
    rw [okSt, this]
    have e : in1 (j : Int) 0 ((i : Int) - 1) = true := by simp only [in1, decide_eq_true_eq]; omega
    have e1 : in1 dx (-12) 12 = true := by simp only [in1, decide_eq_true_eq]; omega
    have e2 : in1 dy (-12) 12 = true := by simp only [in1, decide_eq_true_eq]; omega
    simp only [kindB, mvSt, stillB, e, e1, e2]
    simp
    omega
theorem bet_dec {f g : List Int} {j : Nat} {s : Sted} {v : List (List Int)} (hf : FrW f) (hk : okF f = true) (hg : FrW g) (h : BetW f g (j : Int) s) (hv : fr v j = f) : decF s v = g := by
  rcases h with rfl | ⟨dx, dy, h1, h2, h3, rfl⟩
  · have : baseF (kpSt f g j) v = f := by
      show shF (fr v (j : Int).toNat) 0 0 = f
      rw [Int.toNat_natCast, hv, shF_still hf hk]
    rw [decF, this]
    exact chg_apply hf hg rfl
  · have : baseF (mvSt f g j dx dy) v = shF f dx dy := by
      show shF (fr v (j : Int).toNat) dx dy = _
      rw [Int.toNat_natCast, hv]
    rw [decF, this]
    exact chg_apply dotsF_W hg rfl
theorem bestS_okSt {b : List (List Int)} (hw : BkW b) (hk : okFs b = true) {p : Nat → Bool} {i : Nat} (hi : i < b.length) : okSt (bestS b i p i) i = true := by
  rcases bestS_in (b := b) (k := i) (p := p) (i := i) with h | ⟨j, hj, _, h⟩
  · rw [h, okSt, rowsB_chg zr_ok.1 zr_ok.2 (hw.fr hi) (okFs_get hk hi) (s := zSt b i) rfl]
    rfl
  · rw [h]
    exact bet_ok (hw.fr (by omega)) (okFs_get hk (by omega)) (hw.fr hi) (okFs_get hk hi) hj (outB_in (Nat.le_refl _))
theorem bestS_dec {b v : List (List Int)} (hw : BkW b) (hk : okFs b = true) {p : Nat → Bool} {i : Nat} (hi : i < b.length) (hv : ∀ j, j < i → fr v j = fr b j) : decF (bestS b i p i) v = fr b i := by
  rcases bestS_in (b := b) (k := i) (p := p) (i := i) with h | ⟨j, hj, _, h⟩
  · rw [h]
    exact chg_apply zr_ok.1 (hw.fr hi) rfl
  · rw [h]
    exact bet_dec (hw.fr (by omega)) (okFs_get hk (by omega)) (hw.fr hi) (outB_in (Nat.le_refl _)) (hv j hj)
/-- No step that makes the page costs less. -/
theorem bestS_least {b v : List (List Int)} (hw : BkW b) (hk : okFs b = true) {i : Nat} (hi : i < b.length) (hv : ∀ j, j < i → fr v j = fr b j) {s : Sted} (hs : okSt s i = true) (hd : decF s v = fr b i) : stCost (bestS b i (fun _ => true) i) ≤ stCost s := by
  obtain ⟨h1, h2⟩ := bestS_le (b := b) (k := i) (p := fun _ => true) (i := i)
  have hl := chg_least (f := baseF s v) (g := fr b i) (s := s) hd
  have ha := okSt_a hs
  cases hz : s.a == 0 with
  | true =>
    have : baseF s v = zr 12 0 := by rw [baseF, if_pos hz]
    rw [this] at hl
    rw [cost_z] at h1
    have e : stCost s = 1 + 3 * (s.rows.length : Int) := by rw [stCost, eq_of_beq hz]; rfl
    omega
  | false =>
    have hz' : s.a ≠ 0 := by simpa using hz
    obtain ⟨hb1, hb2⟩ := okSt_b hs hz'
    have hb : baseF s v = shF (fr b s.b.toNat) s.c s.d := by rw [baseF, if_neg (by rw [hz]; decide), hv _ (by omega)]
    rw [hb] at hl
    have h3 := h2 s.b.toNat (by omega) rfl
    cases hz1 : s.a == 1 with
    | true =>
      obtain ⟨e1, e2⟩ := okSt_still hs hz1
      rw [e1, e2, shF_still (hw.fr (by omega)) (okFs_get hk (by omega))] at hl
      have h4 := (outB_le (f := fr b s.b.toNat) (g := fr b i) (base := (s.b.toNat : Int)) (k := 25)).1
      rw [cost_kp] at h4
      have e : stCost s = 2 + 3 * (s.rows.length : Int) := by rw [stCost, eq_of_beq hz1]; rfl
      omega
    | false =>
      have hz1' : s.a ≠ 1 := by simpa using hz1
      have e2 : s.a = 2 := by omega
      have hk2 : kindB s i = true := by simp only [okSt, Bool.and_eq_true] at hs; exact hs.2
      simp only [kindB, e2] at hk2
      simp only [in1, stillB] at hk2
      simp at hk2
      have h4 := outB_mv (f := fr b s.b.toNat) (g := fr b i) (base := (s.b.toNat : Int)) (dx := s.c) (dy := s.d) (by omega) (by omega) (by omega)
      rw [cost_mv] at h4
      have e : stCost s = 4 + 3 * (s.rows.length : Int) := by rw [stCost, e2]; rfl
      omega
theorem fr_eq {a b : List (List Int)} (hl : a.length = b.length) (h : ∀ i, i < a.length → fr a i = fr b i) : a = b := by
  refine List.ext_getElem hl fun i h1 h2 => ?_
  have := h i h1
  simp only [fr, at0, List.getD_eq_getElem?_getD, List.getElem?_eq_getElem h1, List.getElem?_eq_getElem h2, Option.getD_some] at this
  exact this
theorem decL_pre {l : List Sted} {k n : Nat} (h : k ≤ n) : ∀ j, j < k → fr (decL l n) j = fr (decL l k) j := by
  intro j hj
  induction n with
  | zero => have : k = 0 := by omega
            subst this; rfl
  | succ n ih =>
    by_cases hk : k = n + 1
    · subst hk; rfl
    · rw [decL_succ, fr_snoc (by rw [decL_len]; omega), decL_len, if_pos (by omega)]
      exact ih (by omega)
theorem decL_at {l : List Sted} {k n : Nat} (h : k < n) : fr (decL l n) k = decF (at0 l k) (decL l k) := by
  rw [decL_pre (k := k + 1) (by omega) k (by omega), decL_succ, fr_snoc (by rw [decL_len]; omega), decL_len, if_neg (by omega)]
theorem dec_okB {l : List Sted} (hk : okSts l = true) : okB (decL l l.length) = true := by
  simp only [okB, Bool.and_eq_true, decide_eq_true_eq]
  refine ⟨List.all_eq_true.2 fun f hf => (decL_ok hk (Nat.le_refl _) f hf).2, ?_⟩
  rw [decL_len]; exact okSts_len hk
theorem okSts_of {l : List Sted} (hn : l.length ≤ 40) (h : ∀ i, i < l.length → okSt (at0 l i) i = true) : okSts l = true := by
  rw [okSts, allN_true h]; simpa using hn
def encB (b : List (List Int)) (lim : Int) : List Sted := (encP b lim b.length).1
theorem encB_len {b : List (List Int)} {lim : Int} : (encB b lim).length = b.length := encP_len.1
theorem encB_at {b : List (List Int)} {lim : Int} {i : Nat} (hi : i < b.length) : at0 (encB b lim) i = encS b lim i := encP_get i hi
theorem encB_ok {b : List (List Int)} {lim : Int} (hw : BkW b) (hk : okB b = true) : okSts (encB b lim) = true := by
  obtain ⟨h1, h2⟩ := okB_fs2 hk
  refine okSts_of (by rw [encB_len]; exact h2) fun i hi => ?_
  rw [encB_len] at hi
  rw [encB_at hi]
  exact bestS_okSt hw h1 hi
theorem encB_dec {b : List (List Int)} {lim : Int} (hw : BkW b) (hk : okB b = true) : decL (encB b lim) b.length = b := by
  obtain ⟨h1, h2⟩ := okB_fs2 hk
  have h : ∀ k, k ≤ b.length → ∀ j, j < k → fr (decL (encB b lim) k) j = fr b j := by
    intro k
    induction k with
    | zero => intro _ j hj; exact absurd hj (Nat.not_lt_zero j)
    | succ k ih =>
      intro hkn j hj
      by_cases hjk : j = k
      · subst hjk
        rw [decL_at (Nat.lt_succ_self j), encB_at (by omega)]
        exact bestS_dec hw h1 (by omega) (ih (by omega))
      · rw [decL_pre (k := k) (Nat.le_succ k) j (by omega)]
        exact ih (by omega) j (by omega)
  exact fr_eq decL_len fun i hi => h _ (Nat.le_refl _) i (by rw [decL_len] at hi; exact hi)
theorem encB_dep {b : List (List Int)} {lim : Int} {k : Nat} (hk : k ≤ b.length) : depL (encB b lim) k = (encP b lim k).2 := by
  induction k with
  | zero => rw [depL_zero, encP_zero]
  | succ k ih => rw [depL_succ, encP_succ, ih (by omega), encB_at (by omega)]
theorem enc_lim {b : List (List Int)} {lim : Int} (h0 : 0 ≤ lim) {k : Nat} : ∀ j, j < k → nth (encP b lim k).2 j ≤ lim := by
  induction k with
  | zero => intro j hj; exact absurd hj (Nat.not_lt_zero j)
  | succ k ih =>
    intro j hj
    rw [encP_succ, nth_app, encP_len.2]
    by_cases hjk : j < k
    · rw [if_pos hjk]; exact ih j hjk
    · rw [if_neg hjk, if_pos (by omega)]
      unfold depV
      rcases bestS_in (b := b) (k := k) (p := fun j => !decide (lim ≤ nth (encP b lim k).2 j)) (i := k) with h | ⟨m, hm, hp, h⟩
      · have : (encS b lim k).a = 0 := by rw [encS, h]; rfl
        rw [this]
        exact h0
      · split
        · exact h0
        · have e : (encS b lim k).b = m := by rw [encS, h]; exact outB_b
          rw [e, Int.toNat_natCast]
          simp at hp
          omega
theorem encS_all {b : List (List Int)} {i : Nat} (hi : i ≤ 40) : encS b 40 i = bestS b i (fun _ => true) i := by
  refine bestS_congr fun j hj => ?_
  have := (encP_ok (b := b) (lim := 40) (i := i) j hj).2
  simp
  omega
theorem encS_le {b : List (List Int)} {lim : Int} {i : Nat} (hi : i ≤ 40) : stCost (encS b 40 i) ≤ stCost (encS b lim i) := by
  rw [encS_all hi]; exact bestS_mono
theorem sumC_le {l m : List Sted} {k : Nat} (h : ∀ i, i < k → stCost (at0 l i) ≤ stCost (at0 m i)) : sumC l k ≤ sumC m k := by
  induction k with
  | zero => rw [sumC, sumC, itN_zero, itN_zero]; exact Int.le_refl _
  | succ k ih =>
    rw [sumC_succ, sumC_succ]
    have := ih fun i hi => h i (by omega)
    have := h k (by omega)
    omega
/-- Steps of a book cost no less than its best ones. -/
theorem enc_least {l : List Sted} (hk : okSts l = true) : sumC (encB (decL l l.length) 40) l.length ≤ sumC l l.length := by
  have hn := okSts_len hk
  have hb := dec_okB hk
  refine sumC_le fun i hi => ?_
  have hi' : i < (decL l l.length).length := by rw [decL_len]; exact hi
  rw [encB_at hi', encS_all (by omega)]
  exact bestS_least (v := decL l i) (decW hk) (okB_fs2 hb).1 hi' (fun j hj => (decL_pre (by omega) j hj).symm) (okSts_get hk hi) (decL_at hi).symm
theorem encC_zero {b : List (List Int)} {lim : Int} (hk : okB b = true) (h : 0 ≤ lim ∧ lim ≤ 40) : encC b lim = 0 := by
  have : in1 lim 0 40 = true := by simp only [in1, decide_eq_true_eq]; omega
  rw [encC, if_pos hk, if_pos this]
theorem encL_eq {b : List (List Int)} {lim : Int} (hk : okB b = true) (h : 0 ≤ lim ∧ lim ≤ 40) : encL b lim = encB b lim ∧ encT b lim = sumC (encB b lim) b.length := by
  rw [encL, encT, if_pos (encC_zero hk h), if_pos (encC_zero hk h)]; exact ⟨rfl, rfl⟩
theorem sameSt_self {s : Sted} : sameSt s s = true := by
  have : allN (rowE s s) s.rows.length = true := allN_true fun i _ => by simp [rowE]
  simp [sameSt, rowsE, this]
theorem sameSts_self {l : List Sted} : sameSts l l = true := by
  have : allN (fun i => sameSt (at0 l i) (at0 l i)) l.length = true := allN_true fun i _ => sameSt_self
  simp [sameSts, this]
theorem sameBk_self {b : List (List Int)} : sameBk b b = true := by
  have : allN (fun i => decide (fr b i = fr b i)) b.length = true := allN_true fun i _ => by simp
  rw [sameBk, this]; simp
/-- Two steps: a page, and the step from it to another one. -/
theorem two_dec {b : List (List Int)} (hw : BkW b) (hk : okFs b = true) {k : Nat} {s t : Sted} (h0 : 0 < b.length) (hk' : k < b.length) (hs : s = bestS b 0 (fun _ => true) 0 ∨ ∃ p, s = bestS b 0 p 0) (ht : BetW (fr b 0) (fr b k) ((0 : Nat) : Int) t) :
    okSts [s, t] = true ∧ fr (decL [s, t] 2) 1 = fr b k := by
  have hs' : ∃ p, s = bestS b 0 p 0 := by
    rcases hs with h | h
    · exact ⟨_, h⟩
    · exact h
  obtain ⟨p, rfl⟩ := hs'
  have hd0 : decF (bestS b 0 p 0) (decL [bestS b 0 p 0, t] 0) = fr b 0 := bestS_dec hw hk h0 fun j hj => absurd hj (Nat.not_lt_zero j)
  refine ⟨okSts_of (by simp) fun i hi => ?_, ?_⟩
  · have : i = 0 ∨ i = 1 := by simp at hi; omega
    rcases this with rfl | rfl
    · exact bestS_okSt hw hk h0
    · exact bet_ok (hw.fr h0) (okFs_get hk h0) (hw.fr hk') (okFs_get hk hk') (by omega) ht
  · rw [decL_at (by omega)]
    refine bet_dec (hw.fr h0) (okFs_get hk h0) (hw.fr hk') ht ?_
    rw [decL_at (Nat.lt_succ_self 0)]
    exact hd0
theorem rowsB_of {s : Sted} (h1 : ∀ m ∈ s.rows, 0 ≤ m.1 ∧ m.1 < 12 ∧ 1 ≤ m.2 ∧ m.2 ≤ 4095) (h2 : s.rows.Pairwise fun a b => a.1 < b.1) : rowsB s = true := by
  refine allN_true fun j hj => ?_
  have e : ∀ i, (hi : i < s.rows.length) → rw' s i = s.rows[i] := fun i hi => by
    rw [rw', at0, List.getD_eq_getElem?_getD, List.getElem?_eq_getElem hi]; rfl
  have m1 := h1 _ (List.getElem_mem hj)
  simp only [rowB, in1, e j hj, Bool.and_eq_true, Bool.or_eq_true, decide_eq_true_eq]
  refine ⟨⟨by omega, by omega⟩, ?_⟩
  by_cases h0 : j = 0
  · exact .inl h0
  · refine .inr ?_
    rw [e (j - 1) (by omega)]
    exact List.pairwise_iff_getElem.1 h2 (j - 1) j (by omega) hj (by omega)
theorem okSt_W {s : Sted} {i : Nat} (h : okSt s i = true) (hi : i ≤ 100) : StW s := by
  have hr := okSt_rows h
  have hk : kindB s i = true := by simp only [okSt, Bool.and_eq_true] at h; exact h.2
  have ha := okSt_a h
  have hb : (0 ≤ s.b ∧ s.b ≤ 100) ∧ (-12 ≤ s.c ∧ s.c ≤ 12) ∧ -12 ≤ s.d ∧ s.d ≤ 12 := by
    have : s.a = 0 ∨ s.a = 1 ∨ s.a = 2 := by omega
    rcases this with e | e | e
    · simp [kindB, e, stillB] at hk
      omega
    · simp [kindB, e, stillB, in1] at hk
      omega
    · simp [kindB, e, stillB, in1] at hk
      omega
  refine ⟨by omega, by omega, by omega, by omega, fun m hm => ?_⟩
  obtain ⟨j, hj, rfl⟩ := List.getElem_of_mem hm
  have e : rw' s j = s.rows[j] := by rw [rw', at0, List.getD_eq_getElem?_getD, List.getElem?_eq_getElem hj]; rfl
  obtain ⟨y, h1, h2, h3, _⟩ := rowB_get (allN_get (p := rowB s) hr hj)
  rw [e] at h1 h3
  exact ⟨by omega, h3⟩
theorem okSts_W {l : List Sted} (h : okSts l = true) (hr : ∀ s ∈ l, s.rows.length ≤ 1000000) : StsW l := by
  have hn := okSts_len h
  refine ⟨fun s hs => ?_, by omega, hr⟩
  obtain ⟨i, hi, rfl⟩ := mem_at0 hs
  exact okSt_W (okSts_get h hi) (by omega)
/-- Something put behind a list that is a call's own. -/
theorem GrN.push0 {H G : Heap} {n0 : Nat} {x : Value} {esz n bytes : Nat} {vs c : List Value} (g : GrN H G x esz n vs) (hn : n0 ≤ H.length) (hc : c.length = esz) (hb : (n + 1) * bytes ≤ roomMax) {wb : Bool} :
    ∃ x' G', ((srcOf esz (G ++ [⟨c, esz, 0, false⟩]) (slc G.length 0 0 1 1)).bind fun q => appendTo n0 wb esz bytes (G ++ [⟨c, esz, 0, false⟩]) x q.1 q.2) = some (x', G') ∧ GrN H G' x' esz (n + 1) (vs ++ c) := by
  have e1 : srcOf esz (G ++ [⟨c, esz, 0, false⟩]) (slc G.length 0 0 1 1) = some (1, c) := by
    show (rd (G ++ [⟨c, esz, 0, false⟩]) G.length 0 0 (1 * esz)).map (fun cs => (1, cs)) = _
    rw [Nat.one_mul, rd_last rfl (by simpa using hc)]; rfl
  rcases g with ⟨b, ver, rfl, h1, h2, h3, h4⟩ | ⟨rfl, rfl, rfl, p⟩
  · have h1' : (G ++ [(⟨c, esz, 0, false⟩ : Blk)])[b]? = some ⟨vs, esz, ver, false⟩ := by rw [List.getElem?_append_left (List.getElem?_eq_some_iff.1 h1).1]; exact h1
    refine ⟨slc b 0 (ver + 1) (n + 1) (n + 1), (G ++ [(⟨c, esz, 0, false⟩ : Blk)]).set b ⟨vs ++ c, esz, ver + 1, false⟩, ?_, .inl ⟨b, ver + 1, rfl, get_set h1', h2, by simp [h3, hc, Nat.succ_mul], (h4.app).set h2⟩⟩
    rw [e1, Option.bind_some]
    exact appendTo_grow h1' rfl rfl (by simp [may]; omega) rfl h3.symm (by omega) hb
  · refine ⟨slc (G ++ [(⟨c, esz, 0, false⟩ : Blk)]).length 0 0 1 1, G ++ [(⟨c, esz, 0, false⟩ : Blk)] ++ [⟨c, esz, 0, false⟩], ?_, .inl ⟨_, 0, rfl, get_last, ?_, by simp [hc], (p.app).app⟩⟩
    · rw [e1, Option.bind_some]
      unfold appendTo
      simp only []
      rw [if_neg (by decide), if_pos (by simpa using hb)]
    · have := p.len
      simp; omega
/-- In the function that draws steps: the source, the steps drawn, and the step that is being drawn. -/
structure Dr (n0 P : Nat) (G0 G : Heap) (k κ b ver : Nat) (l : List Sted) (rs : List (Int × Int)) (y : Value) : Prop where
  src : Src G P k
  get : ∀ j, j < n0 → j ≠ P → G[j]? = G0[j]?
  lt : P < n0
  k0 : n0 ≤ κ
  k1 : κ ≤ G.length
  ls : StD n0 (G.take κ) b ver l
  rw : GrN (G.take κ) G y 2 rs.length (chsC rs)
theorem Dr.le {n0 P : Nat} {G0 G : Heap} {k k' κ b ver : Nat} {l : List Sted} {rs : List (Int × Int)} {y : Value} (h : Dr n0 P G0 G k κ b ver l rs y) (hk : k ≤ k') : Dr n0 P G0 G k' κ b ver l rs y :=
  ⟨h.src.le hk, h.get, h.lt, h.k0, h.k1, h.ls, h.rw⟩
theorem Dr.mv {n0 P : Nat} {G0 G G' : Heap} {k k' κ b ver : Nat} {l : List Sted} {rs : List (Int × Int)} {y : Value} (h : Dr n0 P G0 G k κ b ver l rs y) (m : Mv P G G') (s : Src G' P k') : Dr n0 P G0 G' k' κ b ver l rs y := by
  have h0 := h.k0
  have h1 := h.k1
  have hP := h.lt
  refine ⟨s, fun j hj hp => by rw [m.get j hp]; exact h.get j hj hp, hP, h0, by rw [m.len]; exact h1, ?_, ?_⟩
  · refine h.ls.keep fun b' kb hk he => ?_
    rw [List.getElem?_take] at hk ⊢
    split at hk
    · rename_i hlt
      rw [if_pos hlt, m.get]
      · exact hk
      · rintro rfl
        obtain ⟨x, bs, i, sd, e, _⟩ := h.src
        rw [e] at hk
        cases hk
        exact he rfl
    · cases hk
  · rcases h.rw with ⟨q, ver', e, g, hq, hl, _⟩ | ⟨e, e1, e2, _⟩
    · have e3 : (G.take κ).length = κ := by simp; omega
      refine .inl ⟨q, ver', e, ?_, ?_, hl, Pre.takes⟩
      · rw [m.get]
        · exact g
        · omega
      · simp; omega
    · exact .inr ⟨e, e1, e2, Pre.takes⟩
theorem Dr.pick {n0 P : Nat} {G0 G : Heap} {k κ b ver : Nat} {l : List Sted} {rs : List (Int × Int)} {y : Value} {n : Int} (h : Dr n0 P G0 G k κ b ver l rs y) (hk : k ≤ 100000000000) (hn : 1 ≤ n ∧ n ≤ 1000000) :
    ∃ v G', Call tab false 459 [adr P 0 0, .int .i64 n] G = some (.int .i64 v, G') ∧ (0 ≤ v ∧ v < n) ∧ Dr n0 P G0 G' (k + 2) κ b ver l rs y := by
  obtain ⟨v, G', c, hv, m, s⟩ := call459 h.src hk hn
  exact ⟨v, G', c, hv, h.mv m s⟩
theorem Dr.row {n0 P : Nat} {G0 G : Heap} {k κ b ver : Nat} {l : List Sted} {rs : List (Int × Int)} {y : Value} (h : Dr n0 P G0 G k κ b ver l rs y) {m : Int × Int} (hb : (rs.length + 1) * 4 ≤ roomMax) :
    ∃ y' G', ((srcOf 2 (G ++ [⟨chC m, 2, 0, false⟩]) (slc G.length 0 0 1 1)).bind fun q => appendTo n0 true 2 4 (G ++ [⟨chC m, 2, 0, false⟩]) y q.1 q.2) = some (y', G') ∧ Dr n0 P G0 G' k κ b ver l (rs ++ [m]) y' := by
  have h0 := h.k0
  have h1 := h.k1
  have hP := h.lt
  have e3 : (G.take κ).length = κ := by simp; omega
  obtain ⟨y', G', c, g⟩ := h.rw.push0 (n0 := n0) (c := chC m) (by rw [e3]; exact h0) rfl hb (wb := true)
  refine ⟨y', G', c, ?_⟩
  have p := g.pre
  have eg : ∀ j, j < κ → G'[j]? = G[j]? := fun j hj => by
    rw [p.get (by omega), List.getElem?_take, if_pos hj]
  have et : G'.take κ = G.take κ := by
    have := p.take
    rw [e3] at this
    exact this
  refine ⟨h.src.mv (eg P (by omega)) fun j hj => eg j (by omega), fun j hj hp => by rw [eg j (by omega)]; exact h.get j hj hp, hP, h0, by have := p.len; omega, by rw [et]; exact h.ls, ?_⟩
  rw [et, ← chsC_push, List.length_append]
  exact g
theorem Dr.step {n0 P : Nat} {G0 G : Heap} {k κ b ver : Nat} {l : List Sted} {s : Sted} {y : Value} (h : Dr n0 P G0 G k κ b ver l s.rows y) (hb : (l.length + 1) * 32 ≤ roomMax) :
    ∃ G', ((srcOf 5 (G ++ [⟨stC s y, 5, 0, false⟩]) (slc G.length 0 0 1 1)).bind fun q => appendTo n0 true 5 32 (G ++ [⟨stC s y, 5, 0, false⟩]) (slc b 0 ver l.length l.length) q.1 q.2) = some (slc b 0 (ver + 1) (l.length + 1) (l.length + 1), G') ∧
      Dr n0 P G0 G' k G'.length b (ver + 1) (l ++ [s]) [] (.slice none 0 0) := by
  have h0 := h.k0
  have h1 := h.k1
  have hP := h.lt
  have e3 : (G.take κ).length = κ := by simp; omega
  obtain ⟨G', c, sd, kp, pp⟩ := h.ls.push Pre.takes h.rw (by rw [e3]; exact h0) hb (wb := true)
  have hlo := h.ls.lo
  have eg : ∀ j, j < n0 → G'[j]? = G[j]? := fun j hj => by
    have hg : G[j]? = some G[j] := List.getElem?_eq_getElem (by omega)
    rw [hg, kp j _ (by omega) hg]
  have hlen : n0 ≤ G'.length := by
    have : (G.take n0).length ≤ G'.length := (pp (G.take n0) Pre.takes (by simp; omega)).len
    have e : (G.take n0).length = n0 := by simp; omega
    omega
  exact ⟨G', c, h.src.mv (eg P hP) fun j hj => eg j (by omega), fun j hj hp => by rw [eg j hj]; exact h.get j hj hp, hP, hlen, Nat.le_refl _, by rw [List.take_length]; exact sd, .inr ⟨rfl, rfl, rfl, Pre.takes⟩⟩
theorem Dr.new {G : Heap} {P k : Nat} (h : Src G P k) : Dr G.length P G (G ++ [⟨[], 5, 0, false⟩]) k (G.length + 1) G.length 0 [] [] (.slice none 0 0) :=
  ⟨h.pre Pre.one, fun j hj _ => Pre.one.get hj, h.lt, by omega, by simp, by rw [List.take_of_length_le (by simp)]; exact StD.new (Nat.le_refl _), .inr ⟨rfl, rfl, rfl, Pre.takes⟩⟩
def RwI (rs : List (Int × Int)) (i : Nat) : Prop := (∀ m ∈ rs, 0 ≤ m.1 ∧ m.1 < i ∧ 1 ≤ m.2 ∧ m.2 ≤ 63) ∧ (rs.Pairwise fun a b => a.1 < b.1) ∧ rs.length ≤ i
theorem RwI.push {rs : List (Int × Int)} {i : Nat} {v : Int} (h : RwI rs i) (hv : 1 ≤ v ∧ v ≤ 63) : RwI (rs ++ [((i : Int), v)]) (i + 1) := by
  obtain ⟨h1, h2, h3⟩ := h
  refine ⟨fun m hm => ?_, ?_, by simp; omega⟩
  · rcases List.mem_append.1 hm with hm | hm
    · have := h1 m hm; omega
    · rw [List.mem_singleton] at hm
      subst hm
      simp only []
      omega
  · rw [List.pairwise_append]
    refine ⟨h2, List.pairwise_singleton _ _, fun a ha b hb => ?_⟩
    rw [List.mem_singleton] at hb
    subst hb
    have := h1 a ha
    simp only []
    omega
theorem RwI.skip {rs : List (Int × Int)} {i : Nat} (h : RwI rs i) : RwI rs (i + 1) :=
  ⟨fun m hm => by have := h.1 m hm; omega, h.2.1, by have := h.2.2; omega⟩
end Fb
