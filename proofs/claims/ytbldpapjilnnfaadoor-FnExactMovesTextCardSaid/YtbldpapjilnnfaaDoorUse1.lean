/- What each function computes. -/
import Derived.Test.YtbldpapjilnnfaaDoorUse0
set_option linter.unusedVariables false
set_option linter.unusedSimpArgs false
namespace Fb
open Go
def okLy (s : Ly) : Bool := ((okCel s && in1 s.x (-12) 12) && in1 s.y (-12) 12) && in1 s.d 0 8
/- The spec's side, in memory. -/
theorem lyC_parts {s : Ly} (h : s.f.length = 24) : ((lyC s).drop 0).take 12 = cs .u16 (inkL s) ∧ ((lyC s).drop 12).take 12 = cs .u16 (mskL s) ∧ ((lyC s).drop 24).take 1 = [.int .i8 s.x] ∧ ((lyC s).drop 25).take 1 = [.int .i8 s.y] ∧ ((lyC s).drop 26).take 1 = [.int .i8 s.d] := by
  refine ⟨?_, ?_, ?_, ?_, ?_⟩
  · unfold lyC lyT inkL
    rw [List.drop_zero, List.take_append_of_le_length (by simp [h]), show (cs .u16 s.f).take 12 = ((cs .u16 s.f).drop 0).take 12 by simp, cs_sub]
  · unfold lyC lyT mskL
    rw [List.drop_append_of_le_length (by simp [h]), List.take_append_of_le_length (by simp [h]), cs_sub]
  · unfold lyC
    rw [show 24 = 24 + 0 from rfl, lyT_at h]; rfl
  · unfold lyC
    rw [show 25 = 24 + 1 from rfl, lyT_at h]; rfl
  · unfold lyC
    rw [show 26 = 24 + 2 from rfl, lyT_at h]; rfl
/-- A layer in memory. -/
structure LyR (H : Heap) (q off ver : Nat) (s : Ly) : Prop where
  ink : rd H q off ver 12 = some (cs .u16 (inkL s))
  msk : rd H q (off + 12) ver 12 = some (cs .u16 (mskL s))
  x : rd H q (off + 24) ver 1 = some [.int .i8 s.x]
  y : rd H q (off + 25) ver 1 = some [.int .i8 s.y]
  d : rd H q (off + 26) ver 1 = some [.int .i8 s.d]
theorem LyR.of {H : Heap} {q off ver : Nat} {s : Ly} (h : rd H q off ver 27 = some (lyC s)) (hf : s.f.length = 24) : LyR H q off ver s := by
  obtain ⟨h1, h2, h3, h4, h5⟩ := lyC_parts hf
  have g1 := rd_part h (o := 0) (m := 12) (by omega)
  rw [h1, Nat.add_zero] at g1
  exact ⟨g1, by rw [rd_part h (by omega), h2], by rw [rd_part h (by omega), h3], by rw [rd_part h (by omega), h4], by rw [rd_part h (by omega), h5]⟩
theorem LyR.pre {H G : Heap} {q off ver : Nat} {s : Ly} (p : Pre H G) (h : LyR H q off ver s) : LyR G q off ver s := ⟨p.rd h.ink, p.rd h.msk, p.rd h.x, p.rd h.y, p.rd h.d⟩
theorem Sc.get {H : Heap} {x : Value} {l : List Ly} (hs : Sc H x l) (hw : ScW l) {i : Nat} (hi : i < l.length) : ∃ q off ver, idxAV 27 x (.int .i64 (i : Int)) = some (adr q off ver) ∧ rd H q off ver 27 = some (lyC (at0 l i)) ∧ LyR H q off ver (at0 l i) := by
  obtain ⟨q, off, ver, h1, h2⟩ := SlR.get1 hs hi
  rw [scC_elem hw hi] at h2
  exact ⟨q, off, ver, h1, h2, LyR.of h2 (hw _ (at0_mem hi)).len⟩
theorem lessI_row {a b : Int} (ha : u16' a) (h1 : okRow a = true) : okRow (lessI a b) = true := by
  obtain ⟨n, rfl⟩ := Int.eq_ofNat_of_zero_le ha.1
  simp [okRow] at h1 ⊢
  have e0 : IntKind.bits .u16 = 16 := rfl
  unfold lessI bitsOf
  simp only []
  have e1 : (BitVec.ofInt (IntKind.bits .u16) (n : Int) &&& ~~~BitVec.ofInt (IntKind.bits .u16) b).toNat ≤ n := by
    rw [BitVec.toNat_and]
    refine Nat.le_trans Nat.and_le_left ?_
    rw [e0, BitVec.ofInt_natCast, BitVec.toNat_ofNat]
    exact Nat.mod_le _ _
  rw [wrapu16 (by omega)]; omega
theorem lessI_ok {a b : Int} : u16' (lessI a b) := by
  have e0 : IntKind.bits .u16 = 16 := rfl
  unfold lessI bitsOf
  simp only []
  have := (BitVec.ofInt (IntKind.bits .u16) a &&& ~~~BitVec.ofInt (IntKind.bits .u16) b).isLt
  rw [e0] at this ⊢
  rw [wrapu16 (by omega)]; omega
theorem join_sub {a b : List Int} (ha : a.length = 12) (hb : b.length = 12) : sub (a ++ b) 0 12 = a ∧ sub (a ++ b) 12 12 = b := by
  constructor
  · unfold sub
    rw [List.drop_zero, List.take_append_of_le_length (by omega), List.take_of_length_le (by omega)]
  · unfold sub
    rw [List.drop_append_of_le_length (by omega), List.drop_eq_nil_of_le (by omega), List.nil_append, List.take_of_length_le (by omega)]
/- Keys. -/
abbrev Ky := Int × Int × Int
def kyC (k : Ky) : List Value := [.int .i16 k.1, .int .i8 k.2.1, .int .i8 k.2.2]
def kysC (l : List Ky) : List Value := rowsC kyC l
theorem kysC_length {l : List Ky} : (kysC l).length = l.length * 3 := rows_length (f := kyC) (esz := 3) fun _ _ => rfl
def kyF : List Value := [.int .i16 (-30101), .int .i8 (-101), .int .i8 (-101)]
/- Parts. -/
structure Pt where
  f : List Int
  e : Int
  ks : List Ky
  len : f.length = 12
instance : Inhabited Pt := ⟨⟨zr 12 0, 0, [], rfl⟩⟩
structure PtW (s : Pt) : Prop where
  ok : ∀ n ∈ s.f, u16' n
  e : i8 s.e
  ks : ∀ k ∈ s.ks, (-32768 ≤ k.1 ∧ k.1 ≤ 32767) ∧ i8 k.2.1 ∧ i8 k.2.2
def ptT (f : List Int) (a b : Value) : List Value := cs .u16 f ++ [a, b]
def ptC (s : Pt) (y : Value) : List Value := ptT s.f (.int .i8 s.e) y
theorem ptT_at {f : List Int} {a b : Value} (h : f.length = 12) {k : Nat} : (ptT f a b).drop (12 + k) = [a, b].drop k := by
  unfold ptT
  rw [show 12 + k = (cs .u16 f).length + k by simp [h], List.drop_length_add_append]
/-- Keys of a part in memory. -/
abbrev Kr (G : Heap) (y : Value) (s : Pt) : Prop := SlR G y 3 s.ks.length (kysC s.ks)
abbrev KrC (G : Heap) (y : Value) (s : Pt) : Prop := IsCp G y 3 s.ks.length (kysC s.ks) kyF
/-- Parts in memory. -/
def PtS (G : Heap) (x : Value) (l : List Pt) : Prop := ∃ vs, SlR G x 14 l.length vs ∧ ∀ i, i < l.length → ∃ y, elem vs 14 i = ptC (at0 l i) y ∧ Kr G y (at0 l i)
theorem PtS.pre {H G : Heap} {x : Value} {l : List Pt} (p : Pre H G) (h : PtS H x l) : PtS G x l := by
  obtain ⟨vs, h1, h2⟩ := h
  exact ⟨vs, h1.pre p, fun i hi => by obtain ⟨y, h3, h4⟩ := h2 i hi; exact ⟨y, h3, h4.pre p⟩⟩
theorem PtS.lenV {G : Heap} {x : Value} {l : List Pt} (h : PtS G x l) : lenV x = some (.int .i64 l.length) := by
  obtain ⟨vs, h1, _⟩ := h; exact h1.lenV
theorem PtS.get {G : Heap} {x : Value} {l : List Pt} (h : PtS G x l) {i : Nat} (hi : i < l.length) : ∃ q off ver y, idxAV 14 x (.int .i64 (i : Int)) = some (adr q off ver) ∧ rd G q off ver 14 = some (ptC (at0 l i) y) ∧ Kr G y (at0 l i) := by
  obtain ⟨vs, h1, h2⟩ := h
  obtain ⟨q, off, ver, h3, h4⟩ := h1.get1 hi
  obtain ⟨y, h5, h6⟩ := h2 i hi
  rw [h5] at h4
  exact ⟨q, off, ver, y, h3, h4, h6⟩
/-- A copy of a part: what stands in the block, whatever stands in that block itself. -/
structure CqI (H G : Heap) (b : Nat) (flag : Bool) (s : Pt) (y : Value) : Prop where
  r : ∀ k, Kr (G.set b k) y s
  n : y = .slice none 0 0 ∨ old0 H.length y = false
  c : flag = false → (∀ k, KrC (G.set b k) y s) ∧ old0 H.length y = false
theorem CqI.set {H G : Heap} {b : Nat} {flag : Bool} {s : Pt} {y : Value} {k : Blk} (h : CqI H G b flag s y) : CqI H (G.set b k) b flag s y := ⟨fun k' => by rw [set_set]; exact h.r k', h.n, fun hf => ⟨fun k' => by rw [set_set]; exact (h.c hf).1 k', (h.c hf).2⟩⟩
theorem CqI.pre {H G G' : Heap} {b : Nat} {flag : Bool} {s : Pt} {y : Value} (h : CqI H G b flag s y) (p : Pre G G') (hb : b < G.length) : CqI H G' b flag s y :=
  ⟨fun k => (h.r k).pre (set_pre p hb), h.n, fun hf => ⟨fun k => ((h.c hf).1 k).pre (set_pre p hb), (h.c hf).2⟩⟩
def ptF : Pt := ⟨bkF, -101, [(-30101, -101, -101)], rfl⟩
/-- Steps copied, with room behind. -/
def CqS (G : Heap) (x : Value) (l : List Pt) : Prop := ∃ b ver vs, x = slc b 0 ver l.length (l.length + roomN l.length) ∧ G[b]? = some ⟨vs, 14, ver, false⟩ ∧ vs.length = (l.length + roomN l.length) * 14 ∧
  (∀ i, i < l.length → ∃ y, elem vs 14 i = ptC (at0 l i) y ∧ KrC G y (at0 l i)) ∧ ∀ i, l.length ≤ i → i < l.length + roomN l.length → ∃ y, elem vs 14 i = ptC ptF y ∧ Kr G y ptF
theorem CqS.sl {G : Heap} {x : Value} {l : List Pt} (h : CqS G x l) : PtS G x l := by
  obtain ⟨b, ver, vs, rfl, hg, hl, h1, h2⟩ := h
  have e1 : l.length * 14 ≤ vs.length := by omega
  refine ⟨vs.take (l.length * 14), ⟨by simp; omega, .inr ⟨b, 0, ver, _, rfl, by omega, by rw [rd_at hg rfl (by simp; omega)]; simp, _, hg, rfl, rfl⟩⟩, fun i hi => ?_⟩
  obtain ⟨y, h3, h4⟩ := h1 i hi
  exact ⟨y, by rw [elem_take hi, h3], h4.sl kysC_length rfl⟩
theorem CqS.pre {H G : Heap} {x : Value} {l : List Pt} (p : Pre H G) (h : CqS H x l) : CqS G x l := by
  obtain ⟨b, ver, vs, rfl, hg, hl, h1, h2⟩ := h
  refine ⟨b, ver, vs, rfl, by rw [p.get (List.getElem?_eq_some_iff.1 hg).1]; exact hg, hl, fun i hi => ?_, fun i hi hi2 => ?_⟩
  · obtain ⟨y, h3, h4⟩ := h1 i hi; exact ⟨y, h3, h4.pre p⟩
  · obtain ⟨y, h3, h4⟩ := h2 i hi hi2; exact ⟨y, h3, h4.pre p⟩
def ky (ks : List Ky) (i : Nat) : Ky := at0 ks i
def kyB (ks : List Ky) (j : Nat) : Bool := ((in1 (ky ks j).1 0 200 && in1 (ky ks j).2.1 (-24) 24) && in1 (ky ks j).2.2 (-24) 24) && (decide (j = 0) || decide ((ky ks (j - 1)).1 < (ky ks j).1))
def okTk (ks : List Ky) : Bool := allN (kyB ks) ks.length && in1 ks.length 1 20
def okPt (s : Pt) : Bool := (okF s.f && okTk s.ks) && in1 s.e 0 3
abbrev KyW (ks : List Ky) : Prop := ∀ k ∈ ks, (-32768 ≤ k.1 ∧ k.1 ≤ 32767) ∧ i8 k.2.1 ∧ i8 k.2.2
/-- A part in memory. -/
structure PtR (H : Heap) (q off ver : Nat) (s : Pt) (y : Value) : Prop where
  rf : rd H q off ver 12 = some (cs .u16 s.f)
  re : rd H q (off + 12) ver 1 = some [.int .i8 s.e]
  ry : rd H q (off + 13) ver 1 = some [y]
  rk : Kr H y s
theorem PtR.of {H : Heap} {q off ver : Nat} {s : Pt} {y : Value} (h : rd H q off ver 14 = some (ptC s y)) (hk : Kr H y s) : PtR H q off ver s y := by
  have hl := s.len
  have g1 := rd_part h (o := 0) (m := 12) (by omega)
  have g2 := rd_part h (o := 12) (m := 1) (by omega)
  have g3 := rd_part h (o := 13) (m := 1) (by omega)
  unfold ptC at g1 g2 g3
  rw [show 12 = 12 + 0 from rfl, ptT_at hl] at g2
  rw [show 13 = 12 + 1 from rfl, ptT_at hl] at g3
  rw [Nat.add_zero, List.drop_zero] at g1
  unfold ptT at g1
  rw [List.take_left' (by simp [hl])] at g1
  exact ⟨g1, g2, g3, hk⟩
theorem PtR.pre {H G : Heap} {q off ver : Nat} {s : Pt} {y : Value} (p : Pre H G) (h : PtR H q off ver s y) : PtR G q off ver s y := ⟨p.rd h.rf, p.rd h.re, p.rd h.ry, SlR.pre p h.rk⟩
structure TkV (ks : List Ky) : Prop where
  n1 : 1 ≤ ks.length
  n20 : ks.length ≤ 20
  r : ∀ i, i < ks.length → (0 ≤ (ky ks i).1 ∧ (ky ks i).1 ≤ 200) ∧ (-24 ≤ (ky ks i).2.1 ∧ (ky ks i).2.1 ≤ 24) ∧ -24 ≤ (ky ks i).2.2 ∧ (ky ks i).2.2 ≤ 24
  s : ∀ i, i + 1 < ks.length → (ky ks i).1 < (ky ks (i + 1)).1
theorem okTk_V {ks : List Ky} (h : okTk ks = true) : TkV ks := by
  simp only [okTk, Bool.and_eq_true] at h
  obtain ⟨h1, h2⟩ := h
  have hl : 1 ≤ ks.length ∧ ks.length ≤ 20 := by simp [in1] at h2; omega
  refine ⟨hl.1, hl.2, fun i hi => ?_, fun i hi => ?_⟩
  · have := allN_get (p := kyB ks) h1 hi
    simp only [kyB, Bool.and_eq_true, in1, decide_eq_true_eq] at this
    exact ⟨this.1.1.1, this.1.1.2, this.1.2⟩
  · have := allN_get (p := kyB ks) h1 hi
    simp only [kyB, Bool.and_eq_true, in1, decide_eq_true_eq, Bool.or_eq_true] at this
    rcases this.2 with h | h
    · omega
    · exact h
theorem PtW.fr {s : Pt} (h : PtW s) : FrW s.f := ⟨s.len, h.ok⟩
theorem bkC_push {l : List (List Int)} {f : List Int} : bkC l ++ cs .u16 f = bkC (l ++ [f]) := by rw [bkC, bkC, rowsC_app]; simp [rowsC, frC]
/-- A source: a block of three cells; its bytes are elder. At most k bytes were taken. -/
def srB (x : Value) (i sd : Int) : Blk := ⟨[x, .int .i64 i, .int .u64 sd], 1, 0, false⟩
def Src (G : Heap) (P k : Nat) : Prop := ∃ x bs i sd, G[P]? = some (srB x i sd) ∧ SlR (G.take P) x 1 bs.length (cs .u8 bs) ∧ (∀ b ∈ bs, 0 ≤ b ∧ b ≤ 255) ∧ bs.length ≤ 1000000 ∧ 0 ≤ i ∧ i ≤ k
theorem pre_take {G G' : Heap} {n : Nat} (p : Pre G G') (hn : n ≤ G.length) : G'.take n = G.take n := by
  obtain ⟨L, rfl⟩ := p
  rw [List.take_append_of_le_length hn]
theorem Src.lt {G : Heap} {P k : Nat} (h : Src G P k) : P < G.length := by
  obtain ⟨x, bs, i, sd, h1, _⟩ := h
  exact (List.getElem?_eq_some_iff.1 h1).1
theorem Src.le {G : Heap} {P k k' : Nat} (h : Src G P k) (hk : k ≤ k') : Src G P k' := by
  obtain ⟨x, bs, i, sd, h1, h2, h3, h4, h5, h6⟩ := h
  exact ⟨x, bs, i, sd, h1, h2, h3, h4, h5, by omega⟩
theorem Src.pre {G G' : Heap} {P k : Nat} (p : Pre G G') (h : Src G P k) : Src G' P k := by
  have hl := h.lt
  obtain ⟨x, bs, i, sd, h1, h2, h3⟩ := h
  exact ⟨x, bs, i, sd, by rw [p.get hl]; exact h1, by rw [pre_take p (Nat.le_of_lt hl)]; exact h2, h3⟩
/-- Nothing but the source's block has changed. -/
structure Mv (P : Nat) (G G' : Heap) : Prop where
  len : G'.length = G.length
  get : ∀ j, j ≠ P → G'[j]? = G[j]?
theorem Mv.trans {P : Nat} {G G' G'' : Heap} (h : Mv P G G') (h' : Mv P G' G'') : Mv P G G'' := ⟨h'.len.trans h.len, fun j hj => (h'.get j hj).trans (h.get j hj)⟩
theorem Mv.set {P : Nat} {G : Heap} {k : Blk} : Mv P G (G.set P k) := ⟨by simp, fun j hj => List.getElem?_set_ne (Ne.symm hj)⟩
theorem Mv.take {P : Nat} {G G' : Heap} (h : Mv P G G') {n0 : Nat} (hn : n0 ≤ P) : G'.take n0 = G.take n0 := by
  apply List.ext_getElem?
  intro i
  rw [List.getElem?_take, List.getElem?_take]
  split
  · rw [h.get i (by omega)]
  · rfl
theorem Src.mv {P k : Nat} {G G' : Heap} (h : Src G P k) (hP : G'[P]? = G[P]?) (hj : ∀ j, j < P → G'[j]? = G[j]?) : Src G' P k := by
  obtain ⟨x, bs, i, sd, h1, h2, h3⟩ := h
  refine ⟨x, bs, i, sd, by rw [hP]; exact h1, ?_, h3⟩
  have : G'.take P = G.take P := by
    apply List.ext_getElem?
    intro j
    rw [List.getElem?_take, List.getElem?_take]
    split
    · exact hj j ‹_›
    · rfl
  rw [this]; exact h2
theorem Src.take {P k n : Nat} {G : Heap} (h : Src G P k) (hn : P < n) : Src (G.take n) P k :=
  h.mv (by rw [List.getElem?_take, if_pos hn]) fun j hj => by rw [List.getElem?_take, if_pos (by omega)]
theorem orI_ok {a b : Int} : u16' (orI a b) := by
  have e0 : IntKind.bits .u16 = 16 := rfl
  unfold orI bitsOf
  simp only []
  have : (BitVec.ofInt (IntKind.bits .u16) a ||| BitVec.ofInt (IntKind.bits .u16) b).toNat < 2 ^ 16 := by rw [e0]; exact BitVec.isLt _
  rw [wrapu16 (by omega)]; omega
theorem orI_row {a b : Int} (ha : u16' a) (hb : u16' b) (h1 : okRow a = true) (h2 : okRow b = true) : okRow (orI a b) = true := by
  obtain ⟨n, rfl⟩ := Int.eq_ofNat_of_zero_le ha.1
  obtain ⟨m, rfl⟩ := Int.eq_ofNat_of_zero_le hb.1
  simp [okRow] at h1 h2 ⊢
  have e0 : IntKind.bits .u16 = 16 := rfl
  unfold orI bitsOf
  simp only []
  have e1 : (BitVec.ofInt (IntKind.bits .u16) (n : Int) ||| BitVec.ofInt (IntKind.bits .u16) (m : Int)).toNat = n ||| m := by
    rw [BitVec.toNat_or, e0, BitVec.ofInt_natCast, BitVec.ofInt_natCast, BitVec.toNat_ofNat, BitVec.toNat_ofNat, Nat.mod_eq_of_lt (show n < 2 ^ 16 by omega), Nat.mod_eq_of_lt (show m < 2 ^ 16 by omega)]
  have e2 : n ||| m < 2 ^ 12 := Nat.or_lt_two_pow (show n < 2 ^ 12 by omega) (show m < 2 ^ 12 by omega)
  rw [e1, wrapu16 (by omega)]; omega
/-- A valid frame. -/
structure VF (f : List Int) : Prop where
  W : FrW f
  ok : okF f = true
theorem VF.row {f : List Int} (h : VF f) {i : Nat} (hi : i < 12) : u16' (nth f i) ∧ okRow (nth f i) = true := ⟨h.W.nth hi, List.all_eq_true.1 (show f.all okRow = true from h.ok) _ (nth_mem (by rw [h.W.len]; exact hi))⟩
theorem VF.set {f : List Int} {i : Nat} {r : Int} (h : VF f) (hr : u16' r) (ho : okRow r = true) : VF (f.set i r) :=
  ⟨⟨by simp [h.W.len], fun n hn => (List.mem_or_eq_of_mem_set hn).elim (h.W.ok n) (fun e => by rw [e]; exact hr)⟩,
    List.all_eq_true.2 fun n hn => (List.mem_or_eq_of_mem_set hn).elim (fun h1 => List.all_eq_true.1 (show f.all okRow = true from h.ok) n h1) (fun e => by rw [e]; exact ho)⟩
theorem VF.zero : VF (zr 12 0) := ⟨⟨by simp, fun n hn => by simp [zr] at hn; subst hn; exact ⟨by omega, by omega⟩⟩, by decide⟩
/-- In a function that draws: the source and a frame of its own. -/
structure Loc (G G' : Heap) (P k : Nat) (f : List Int) : Prop where
  src : Src G' P k
  fr : G'[G.length]? = some ⟨cs .u16 f, 1, 0, false⟩
  V : VF f
  len : G'.length = G.length + 1
  get : ∀ j, j < G.length → j ≠ P → G'[j]? = G[j]?
  lt : P < G.length
theorem Loc.mv {G G' G'' : Heap} {P k k' : Nat} {f : List Int} (h : Loc G G' P k f) (m : Mv P G' G'') (s : Src G'' P k') : Loc G G'' P k' f := by
  have := h.lt
  exact ⟨s, by rw [m.get _ (by omega)]; exact h.fr, h.V, by rw [m.len]; exact h.len, fun j hj hp => by rw [m.get j hp]; exact h.get j hj hp, h.lt⟩
theorem Loc.le {G G' : Heap} {P k k' : Nat} {f : List Int} (h : Loc G G' P k f) (hk : k ≤ k') : Loc G G' P k' f := ⟨h.src.le hk, h.fr, h.V, h.len, h.get, h.lt⟩
theorem Loc.set {G G' : Heap} {P k : Nat} {f g : List Int} (h : Loc G G' P k f) (hg : VF g) : Loc G (G'.set G.length ⟨cs .u16 g, 1, 0, false⟩) P k g := by
  have := h.lt
  exact ⟨h.src.mv (List.getElem?_set_ne (by omega)) fun j hj => List.getElem?_set_ne (by omega), get_set h.fr, hg, by simp [h.len], fun j hj hp => by rw [List.getElem?_set_ne (by omega)]; exact h.get j hj hp, h.lt⟩
structure Lo2 (G G' : Heap) (P k : Nat) (x : Value) (L : List (List Int)) (f : List Int) : Prop where
  src : Src G' P k
  ls : ∃ ver, x = slc G.length 0 ver L.length L.length ∧ G'[G.length]? = some ⟨bkC L, 12, ver, false⟩
  VL : ∀ g ∈ L, VF g
  fr : G'[G.length + 1]? = some ⟨cs .u16 f, 1, 0, false⟩
  V : VF f
  len : G.length + 2 ≤ G'.length
  get : ∀ j, j < G.length → j ≠ P → G'[j]? = G[j]?
  lt : P < G.length
theorem Lo2.mv {G G' G'' : Heap} {P k k' : Nat} {x : Value} {L : List (List Int)} {f : List Int} (h : Lo2 G G' P k x L f) (m : Mv P G' G'') (s : Src G'' P k') : Lo2 G G'' P k' x L f := by
  have := h.lt
  exact ⟨s, by obtain ⟨ver, e, g⟩ := h.ls; exact ⟨ver, e, by rw [m.get _ (by omega)]; exact g⟩, h.VL, by rw [m.get _ (by omega)]; exact h.fr, h.V, by rw [m.len]; exact h.len, fun j hj hp => by rw [m.get j hp]; exact h.get j hj hp, h.lt⟩
theorem Lo2.le {G G' : Heap} {P k k' : Nat} {x : Value} {L : List (List Int)} {f : List Int} (h : Lo2 G G' P k x L f) (hk : k ≤ k') : Lo2 G G' P k' x L f := ⟨h.src.le hk, h.ls, h.VL, h.fr, h.V, h.len, h.get, h.lt⟩
theorem Lo2.set {G G' : Heap} {P k : Nat} {x : Value} {L : List (List Int)} {f g : List Int} (h : Lo2 G G' P k x L f) (hg : VF g) : wr G.length true G' (G.length + 1) 0 0 (cs .u16 g) = some (G'.set (G.length + 1) ⟨cs .u16 g, 1, 0, false⟩) ∧ Lo2 G (G'.set (G.length + 1) ⟨cs .u16 g, 1, 0, false⟩) P k x L g := by
  have hl := h.lt
  have hlen := h.len
  have hw := wr_at (n0 := G.length) (wb := true) (off := 0) (vs := cs .u16 g) (ver := 0) h.fr rfl rfl (by simp [may]) (by simp [h.V.W.len, hg.W.len])
  have hsp : splice (cs .u16 f) 0 (cs .u16 g) = cs .u16 g := by
    unfold splice
    rw [List.take_zero, List.nil_append, Nat.zero_add, List.drop_eq_nil_of_le (by simp [h.V.W.len, hg.W.len]), List.append_nil]
  simp only [hsp] at hw
  exact ⟨hw, h.src.mv (List.getElem?_set_ne (by omega)) fun j hj => List.getElem?_set_ne (by omega), by obtain ⟨ver, e, g⟩ := h.ls; exact ⟨ver, e, by rw [List.getElem?_set_ne (by omega)]; exact g⟩, h.VL, get_set h.fr, hg, by simpa using hlen,
    fun j hj hp => by rw [List.getElem?_set_ne (by omega)]; exact h.get j hj hp, hl⟩
theorem vl_size {L : List (List Int)} (h : ∀ g ∈ L, VF g) : (bkC L).length = L.length * 12 := bkC_length fun f hf => (h f hf).W
theorem Lo2.bk {G G' : Heap} {P k : Nat} {x : Value} {L : List (List Int)} {f : List Int} (h : Lo2 G G' P k x L f) : Bk G' x L := by
  obtain ⟨ver, rfl, g⟩ := h.ls
  have hs := vl_size h.VL
  exact ⟨hs, .inr ⟨_, 0, ver, L.length, rfl, Nat.le_refl _, by rw [rd_at g rfl (by simp [hs])]; simp [take_all, hs], _, g, rfl, rfl⟩⟩
theorem Lo2.push {G G' : Heap} {P k : Nat} {x : Value} {L : List (List Int)} {f : List Int} (h : Lo2 G G' P k x L f) (hn : L.length ≤ 1000000) :
    ∃ x' G'', ((srcOf 12 (G' ++ [⟨cs .u16 f, 12, 0, false⟩]) (slc G'.length 0 0 1 1)).bind fun q => appendTo G.length true 12 24 (G' ++ [⟨cs .u16 f, 12, 0, false⟩]) x q.1 q.2) = some (x', G'') ∧ Lo2 G G'' P k x' (L ++ [f]) f := by
  have hl := h.lt
  have hlen := h.len
  have hf := h.V.W.len
  have hs := vl_size h.VL
  have hfr := h.fr
  have hsrc := h.src
  have hget := h.get
  obtain ⟨ver, rfl, g⟩ := h.ls
  have gA : ∀ j, j < G'.length → (G' ++ [(⟨cs .u16 f, 12, 0, false⟩ : Blk)])[j]? = G'[j]? := fun j hj => List.getElem?_append_left hj
  have g' : (G' ++ [(⟨cs .u16 f, 12, 0, false⟩ : Blk)])[G.length]? = some ⟨bkC L, 12, ver, false⟩ := by rw [gA _ (by omega)]; exact g
  have e1 : srcOf 12 (G' ++ [⟨cs .u16 f, 12, 0, false⟩]) (slc G'.length 0 0 1 1) = some (1, cs .u16 f) := by
    show (rd (G' ++ [⟨cs .u16 f, 12, 0, false⟩]) G'.length 0 0 (1 * 12)).map (fun cs => (1, cs)) = _
    rw [Nat.one_mul, rd_last rfl (by simpa using hf)]; rfl
  have e2 : (L ++ [f]).length = L.length + 1 := by simp
  refine ⟨slc G.length 0 (ver + 1) (L.length + 1) (L.length + 1), (G' ++ [(⟨cs .u16 f, 12, 0, false⟩ : Blk)]).set G.length ⟨bkC L ++ cs .u16 f, 12, ver + 1, false⟩, ?_, ?_⟩
  · rw [e1, Option.bind_some]
    exact appendTo_grow g' rfl rfl (by simp [may]) rfl hs.symm (by omega) (room24 (by omega))
  · refine ⟨hsrc.mv (by rw [List.getElem?_set_ne (by omega), gA _ (by omega)]) fun j hj => by rw [List.getElem?_set_ne (by omega), gA _ (by omega)], ⟨ver + 1, by rw [e2], by rw [get_set g', bkC_push]⟩, fun g hg => ?_, by rw [List.getElem?_set_ne (by omega), gA _ (by omega)]; exact hfr, h.V, by simp; omega, fun j hj hp => by rw [List.getElem?_set_ne (by omega), gA _ (by omega)]; exact hget j hj hp, hl⟩
    rcases List.mem_append.1 hg with h1 | h1
    · exact h.VL g h1
    · rw [List.mem_singleton.1 h1]; exact h.V
/-- In a function that draws: the source, and blocks of the call's own behind. -/
structure Lo0 (G G' : Heap) (P k : Nat) : Prop where
  src : Src G' P k
  len : G.length ≤ G'.length
  get : ∀ j, j < G.length → j ≠ P → G'[j]? = G[j]?
  lt : P < G.length
theorem Lo0.mv {G G' G'' : Heap} {P k k' : Nat} (h : Lo0 G G' P k) (m : Mv P G' G'') (s : Src G'' P k') : Lo0 G G'' P k' :=
  ⟨s, by rw [m.len]; exact h.len, fun j hj hp => by rw [m.get j hp]; exact h.get j hj hp, h.lt⟩
theorem Lo0.pre {G G' G'' : Heap} {P k : Nat} (h : Lo0 G G' P k) (p : Pre G' G'') : Lo0 G G'' P k := by
  have h1 := h.len
  exact ⟨h.src.pre p, Nat.le_trans h1 p.len, fun j hj hp => by rw [p.get (by omega)]; exact h.get j hj hp, h.lt⟩
theorem Lo0.le {G G' : Heap} {P k k' : Nat} (h : Lo0 G G' P k) (hk : k ≤ k') : Lo0 G G' P k' := ⟨h.src.le hk, h.len, h.get, h.lt⟩
/-- Valid light. -/
structure VL (l : List Int) : Prop where
  len : l.length = 144
  ok : okAll l = true
theorem VL.set {l : List Int} {i : Nat} {v : Int} (h : VL l) (hv : 0 ≤ v ∧ v ≤ 1000) : VL (l.set i v) :=
  ⟨by simp [h.len], List.all_eq_true.2 fun n hn => (List.mem_or_eq_of_mem_set hn).elim (fun h1 => List.all_eq_true.1 (show l.all okL = true from h.ok) n h1) (fun e => by rw [e]; simpa [okL] using hv)⟩
theorem VL.zero : VL (zr 144 0) := ⟨by simp, by decide⟩
theorem bit_get {n : Nat} {i : Nat} (h : i < 16) : (BitVec.ofInt 16 (n : Int)).getLsbD i = n.testBit i := by
  rw [BitVec.ofInt_natCast, BitVec.getLsbD_ofNat]
  simp [h]
theorem dotB_vec {v : BitVec 16} {i : Nat} : dotB (IntKind.wrap .u16 (v.toNat : Int)) i = v.getLsbD i := by
  have := v.isLt
  rw [wrapu16 (by omega), dotB_bit]
  exact BitVec.testBit_toNat v
theorem or_dot {a b : Int} (ha : u16' a) (hb : u16' b) {i : Nat} (hi : i < 16) : dotB (orI a b) i = (dotB a i || dotB b i) := by
  obtain ⟨n, rfl⟩ := Int.eq_ofNat_of_zero_le ha.1
  obtain ⟨m, rfl⟩ := Int.eq_ofNat_of_zero_le hb.1
  rw [dotB_bit, dotB_bit, ← bit_get hi, ← bit_get hi, ← BitVec.getLsbD_or]
  exact dotB_vec
theorem less_dot {a b : Int} (ha : u16' a) (hb : u16' b) {i : Nat} (hi : i < 16) : dotB (lessI a b) i = (dotB a i && !dotB b i) := by
  obtain ⟨n, rfl⟩ := Int.eq_ofNat_of_zero_le ha.1
  obtain ⟨m, rfl⟩ := Int.eq_ofNat_of_zero_le hb.1
  have e1 : (BitVec.ofInt 16 (n : Int) &&& ~~~BitVec.ofInt 16 (m : Int)).getLsbD i = ((BitVec.ofInt 16 (n : Int)).getLsbD i && !(BitVec.ofInt 16 (m : Int)).getLsbD i) := by
    rw [BitVec.getLsbD_and, BitVec.getLsbD_not]; simp [hi]
  rw [dotB_bit, dotB_bit, ← bit_get hi, ← bit_get hi, ← e1]
  exact dotB_vec
theorem hasF_dots {p : Nat → Nat → Bool} {x y : Nat} (hx : x < 12) (hy : y < 12) : hasF (dotsF p) x y = p x y := by
  rw [hasF, dotsF_nth hy, dotB_bit, rowN_bit]; simp [hx]
theorem VF.dots {f : List Int} (h : VF f) : dotsF (hasF f) = f := by
  refine (ext_nth (by rw [dotsF_length, h.W.len]) fun y hy => ?_)
  rw [dotsF_length] at hy
  obtain ⟨n, hn, hlt⟩ := okF_row h.ok h.W hy
  rw [dotsF_nth hy, hn]
  have := rowN_eq (q := fun x => hasF f x y) (n := n) (m := 12) hlt fun x hx => by rw [hasF, hn, dotB_bit]
  rw [← this]
theorem VF.ext {f g : List Int} (hf : VF f) (hg : VF g) (h : ∀ x y, x < 12 → y < 12 → hasF f x y = hasF g x y) : f = g := by
  rw [← hf.dots, ← hg.dots]
  exact dotsF_congr h
theorem mix_or {f g : List Int} (hf : VF f) (hg : VF g) {x y : Nat} (hx : x < 12) (hy : y < 12) : hasF (mixF orI f g) x y = (hasF f x y || hasF g x y) := by
  rw [hasF, mixF, nth_tabN hy]; exact or_dot (hf.row hy).1 (hg.row hy).1 (by omega)
theorem mix_less {f g : List Int} (hf : VF f) (hg : VF g) {x y : Nat} (hx : x < 12) (hy : y < 12) : hasF (mixF lessI f g) x y = (hasF f x y && !hasF g x y) := by
  rw [hasF, mixF, nth_tabN hy]; exact less_dot (hf.row hy).1 (hg.row hy).1 (by omega)
theorem mixV {op : Int → Int → Int} {f g : List Int} (hf : VF f) (hg : VF g) (h : ∀ a b, u16' a → u16' b → okRow a = true → okRow b = true → u16' (op a b) ∧ okRow (op a b) = true) : VF (mixF op f g) := by
  have key : ∀ i, i < 12 → u16' (nth (mixF op f g) i) ∧ okRow (nth (mixF op f g) i) = true := fun i hi => by
    rw [mixF, nth_tabN hi]
    exact h _ _ (hf.row hi).1 (hg.row hi).1 (hf.row hi).2 (hg.row hi).2
  exact ⟨⟨mixF_length, fun n hn => by obtain ⟨i, hi, rfl⟩ := mem_nth hn; rw [mixF_length] at hi; exact (key i hi).1⟩, okF_true mixF_length fun i hi => (key i hi).2⟩
theorem or_V {f g : List Int} (hf : VF f) (hg : VF g) : VF (mixF orI f g) := mixV hf hg fun _ _ h1 h2 h3 h4 => ⟨orI_ok, orI_row h1 h2 h3 h4⟩
theorem less_V {f g : List Int} (hf : VF f) (hg : VF g) : VF (mixF lessI f g) := mixV hf hg fun _ _ h1 h2 h3 _ => ⟨lessI_ok, lessI_row h1 h3⟩
theorem hasF_zero {x y : Nat} (hx : x < 12) (hy : y < 12) : hasF (zr 12 0) x y = false := by rw [← dotsF_none, hasF_dots hx hy]
theorem less_none {f g : List Int} (hf : VF f) (hg : VF g) (h : ∀ x y, x < 12 → y < 12 → hasF f x y = true → hasF g x y = true) : mixF lessI f g = zr 12 0 :=
  (less_V hf hg).ext .zero fun x y hx hy => by
    rw [mix_less hf hg hx hy, hasF_zero hx hy]
    cases h1 : hasF f x y with
    | false => rfl
    | true => rw [h x y hx hy h1]; rfl
/-- A list of bytes in memory. -/
structure By (H : Heap) (x : Value) (bs : List Int) : Prop where
  s : SlR H x 1 bs.length (cs .u8 bs)
  b : ∀ v ∈ bs, 0 ≤ v ∧ v ≤ 255
theorem By.pre {H G : Heap} {x : Value} {bs : List Int} (p : Pre H G) (h : By H x bs) : By G x bs := ⟨h.s.pre p, h.b⟩
/-- In a function that draws: the source, and a list of the call's own in the first new block. -/
structure LoG (G G' : Heap) (P k : Nat) (x : Value) (esz n : Nat) (vs : List Value) : Prop where
  src : Src G' P k
  ls : ∃ ver, x = slc G.length 0 ver n n ∧ G'[G.length]? = some ⟨vs, esz, ver, false⟩
  size : vs.length = n * esz
  len : G.length + 1 ≤ G'.length
  get : ∀ j, j < G.length → j ≠ P → G'[j]? = G[j]?
  lt : P < G.length
theorem LoG.mv {G G' G'' : Heap} {P k k' esz n : Nat} {x : Value} {vs : List Value} (h : LoG G G' P k x esz n vs) (m : Mv P G' G'') (s : Src G'' P k') : LoG G G'' P k' x esz n vs := by
  have := h.lt
  exact ⟨s, by obtain ⟨ver, e, g⟩ := h.ls; exact ⟨ver, e, by rw [m.get _ (by omega)]; exact g⟩, h.size, by rw [m.len]; exact h.len, fun j hj hp => by rw [m.get j hp]; exact h.get j hj hp, h.lt⟩
theorem LoG.le {G G' : Heap} {P k k' esz n : Nat} {x : Value} {vs : List Value} (h : LoG G G' P k x esz n vs) (hk : k ≤ k') : LoG G G' P k' x esz n vs := ⟨h.src.le hk, h.ls, h.size, h.len, h.get, h.lt⟩
theorem LoG.push {G G' : Heap} {P k esz n bytes : Nat} {x : Value} {vs c : List Value} (h : LoG G G' P k x esz n vs) (hc : c.length = esz) (hb : (n + 1) * bytes ≤ roomMax) :
    ∃ x' G'', ((srcOf esz (G' ++ [⟨c, esz, 0, false⟩]) (slc G'.length 0 0 1 1)).bind fun q => appendTo G.length true esz bytes (G' ++ [⟨c, esz, 0, false⟩]) x q.1 q.2) = some (x', G'') ∧ LoG G G'' P k x' esz (n + 1) (vs ++ c) := by
  have hl := h.lt
  have hlen := h.len
  have hsrc := h.src
  have hget := h.get
  have hs := h.size
  obtain ⟨ver, rfl, g⟩ := h.ls
  have gA : ∀ j, j < G'.length → (G' ++ [(⟨c, esz, 0, false⟩ : Blk)])[j]? = G'[j]? := fun j hj => List.getElem?_append_left hj
  have g' : (G' ++ [(⟨c, esz, 0, false⟩ : Blk)])[G.length]? = some ⟨vs, esz, ver, false⟩ := by rw [gA _ (by omega)]; exact g
  have e1 : srcOf esz (G' ++ [⟨c, esz, 0, false⟩]) (slc G'.length 0 0 1 1) = some (1, c) := by
    show (rd (G' ++ [⟨c, esz, 0, false⟩]) G'.length 0 0 (1 * esz)).map (fun cs => (1, cs)) = _
    rw [Nat.one_mul, rd_last rfl (by simpa using hc)]; rfl
  refine ⟨slc G.length 0 (ver + 1) (n + 1) (n + 1), (G' ++ [(⟨c, esz, 0, false⟩ : Blk)]).set G.length ⟨vs ++ c, esz, ver + 1, false⟩, ?_, ?_⟩
  · rw [e1, Option.bind_some]
    exact appendTo_grow g' rfl rfl (by simp [may]) rfl hs.symm (by omega) hb
  · exact ⟨hsrc.mv (by rw [List.getElem?_set_ne (by omega), gA _ (by omega)]) fun j hj => by rw [List.getElem?_set_ne (by omega), gA _ (by omega)], ⟨ver + 1, rfl, get_set g'⟩, by simp [hs, hc, Nat.succ_mul], by simp; omega,
      fun j hj hp => by rw [List.getElem?_set_ne (by omega), gA _ (by omega)]; exact hget j hj hp, hl⟩
/-- Keys of a drawn track: all behind one another, ahead of t. -/
structure KG (ks : List Ky) (t : Int) : Prop where
  r : ∀ i, i < ks.length → (0 ≤ (ky ks i).1 ∧ (ky ks i).1 < t) ∧ (-6 ≤ (ky ks i).2.1 ∧ (ky ks i).2.1 ≤ 6) ∧ -6 ≤ (ky ks i).2.2 ∧ (ky ks i).2.2 ≤ 6
  s : ∀ i, i + 1 < ks.length → (ky ks i).1 < (ky ks (i + 1)).1
theorem ky_push {ks : List Ky} {k : Ky} {i : Nat} : ky (ks ++ [k]) i = if i < ks.length then ky ks i else if i = ks.length then k else default := by
  unfold ky at0
  rw [List.getD_eq_getElem?_getD, List.getElem?_append]
  split
  · rw [List.getD_eq_getElem?_getD]
  · rename_i h
    split
    · rename_i h2; subst h2; simp
    · rw [List.getElem?_eq_none (by simp; omega)]; rfl
theorem KG.push {ks : List Ky} {t t' a b : Int} (h : KG ks t) (ht : 0 ≤ t) (htt : t < t') (ha : -6 ≤ a ∧ a ≤ 6) (hb : -6 ≤ b ∧ b ≤ 6) : KG (ks ++ [(t, a, b)]) t' := by
  refine ⟨fun i hi => ?_, fun i hi => ?_⟩
  · have hi : i < ks.length + 1 := by simpa using hi
    rw [ky_push]
    by_cases h1 : i < ks.length
    · rw [if_pos h1]; have := h.r i h1; exact ⟨by omega, this.2⟩
    · rw [if_neg h1, if_pos (by omega)]; exact ⟨⟨ht, htt⟩, ha, hb⟩
  · have hi : i + 1 < ks.length + 1 := by simpa using hi
    rw [ky_push, ky_push, if_pos (by omega)]
    by_cases h1 : i + 1 < ks.length
    · rw [if_pos h1]; exact h.s i h1
    · rw [if_neg h1, if_pos (by omega)]; exact (h.r i (by omega)).1.2
/-- A drawn track. -/
structure DT (ks : List Ky) : Prop where
  n1 : 1 ≤ ks.length
  n5 : ks.length ≤ 5
  ok : okTk ks = true
/-- A drawn part. -/
structure DP (s : Pt) : Prop where
  f : VF s.f
  e : 0 ≤ s.e ∧ s.e ≤ 3
  ks : DT s.ks
theorem DT.W {ks : List Ky} (h : DT ks) : KyW ks := fun k hk => by
  have V := okTk_V h.ok
  obtain ⟨i, hi, rfl⟩ := List.getElem_of_mem hk
  have := V.r i hi
  have e : ky ks i = ks[i] := Option.some.inj ((at0_get hi).symm.trans (List.getElem?_eq_getElem hi))
  rw [e] at this
  exact ⟨by omega, ⟨by omega, by omega⟩, ⟨by omega, by omega⟩⟩
theorem DP.ok {s : Pt} (h : DP s) : okPt s = true := by
  have := h.e
  simp [okPt, h.f.ok, h.ks.ok, in1, this]
theorem DP.W {s : Pt} (h : DP s) : PtW s := ⟨h.f.W.ok, ⟨by have := h.e; omega, by have := h.e; omega⟩, h.ks.W⟩
def lpD (b : List (List Int)) (n i : Nat) : Int := difF (fr b (i + n - 1)) (fr b i)
/-- The best of what was visited. -/
def LpI (b : List (List Int)) (o : Lp) (S : Nat → Nat → Prop) : Prop := match o with
  | none => ∀ n i, ¬ S n i
  | some (f, c, j) => S c f ∧ j = lpD b c f ∧ ∀ n i, S n i → j ≤ lpD b n i ∧ (lpD b n i = j → n < c ∨ (n = c ∧ f ≤ i))
theorem LpI.step {b : List (List Int)} {o : Lp} {S S' : Nat → Nat → Prop} {n i : Nat} (h : LpI b o S) (hS : ∀ n' i', S' n' i' ↔ S n' i' ∨ (n' = n ∧ i' = i)) (ho : ∀ n' i', S n' i' → n < n' ∨ (n = n' ∧ i' < i)) : LpI b (stepL b n i o) S' := by
  cases o with
  | none =>
    refine ⟨(hS n i).2 (.inr ⟨rfl, rfl⟩), rfl, fun n' i' hs => ?_⟩
    rcases (hS n' i').1 hs with h1 | ⟨rfl, rfl⟩
    · exact absurd h1 (h n' i')
    · exact ⟨Int.le_refl _, fun _ => .inr ⟨rfl, Nat.le_refl _⟩⟩
  | some q =>
    obtain ⟨f, c, j⟩ := q
    obtain ⟨h1, h2, h3⟩ := h
    show LpI b (if lpD b n i < j then some (i, n, lpD b n i) else some (f, c, j)) S'
    split
    · rename_i hlt
      refine ⟨(hS n i).2 (.inr ⟨rfl, rfl⟩), rfl, fun n' i' hs => ?_⟩
      rcases (hS n' i').1 hs with h4 | ⟨rfl, rfl⟩
      · have := (h3 n' i' h4).1
        exact ⟨by omega, fun he => by omega⟩
      · exact ⟨Int.le_refl _, fun _ => .inr ⟨rfl, Nat.le_refl _⟩⟩
    · rename_i hge
      refine ⟨(hS c f).2 (.inl h1), h2, fun n' i' hs => ?_⟩
      rcases (hS n' i').1 hs with h4 | ⟨rfl, rfl⟩
      · exact h3 n' i' h4
      · refine ⟨by omega, fun _ => ?_⟩
        rcases ho c f h1 with h5 | h5
        · exact .inl h5
        · exact .inr ⟨h5.1, by omega⟩
structure C1 (G : Heap) (x cx l1 l2 l3 : Value) (b c : List (List Int)) (frm : Nat) : Prop where
  bk : Bk G x b
  ck : Bk G cx c
  Vb : ∀ f ∈ b, VF f
  nb : b.length ≤ 1000
  c1 : 1 ≤ c.length
  cb : frm + c.length ≤ b.length
  sub : ∀ i, i < c.length → fr c i = fr b (frm + i)
  s1 : SlR G l1 1 (mcK b c 0 (mcN b c)).1.length (cs .i64 (mcK b c 0 (mcN b c)).1)
  s2 : SlR G l2 1 (mcK b c 1 (mcN b c)).1.length (cs .i64 (mcK b c 1 (mcN b c)).1)
  s3 : SlR G l3 2 (mcK b c 1 (mcN b c)).1.length (mvsC (mcK b c 1 (mcN b c)).2)
theorem C1.V {G : Heap} {x cx l1 l2 l3 : Value} {b c : List (List Int)} {frm : Nat} (h : C1 G x cx l1 l2 l3 b c frm) {i : Nat} (hi : i < c.length) : VF (fr c i) := by
  rw [h.sub i hi]
  have := h.cb
  exact h.Vb _ (at0_mem (by omega))
/-- What the walk knows all along. -/
structure K17 (H G : Heap) (x y : Value) (b : List (List Int)) (bs : List Int) (tw : Bool) (pv : Int) : Prop where
  P : Pre H G
  by' : By G y bs
  bk : Bk G x b
  V : ∀ f ∈ b, VF f
  nb : b.length ≤ 40
  tw' : tw = true → ∃ L, b = L ++ L
  pv' : 1 ≤ b.length → pv = findN (perP b) (b.length + 1)
theorem K17.pre {H G G' : Heap} {x y : Value} {b : List (List Int)} {bs : List Int} {tw : Bool} {pv : Int} (h : K17 H G x y b bs tw pv) (p : Pre G G') : K17 H G' x y b bs tw pv := ⟨h.P.trans p, h.by'.pre p, h.bk.pre p, h.V, h.nb, h.tw', h.pv'⟩
theorem Gr.pr {H G : Heap} {x : Value} {esz n : Nat} {vs : List Value} (g : Gr H G x esz n vs) : Pre H G := by
  obtain ⟨_, _, _, _, _, _, h⟩ := g; exact h
/-- A drawn layer. -/
structure DLy (s : Ly) : Prop where
  W : LyW s
  ok : okLy s = true
  bx : -3 ≤ s.x ∧ s.x ≤ 3
  bz : -3 ≤ s.y ∧ s.y ≤ 3
  bd : 0 ≤ s.d ∧ s.d ≤ 8
theorem DLy.of {f g : List Int} {x y d : Int} (hf : VF f) (hg : VF g) (hx : -3 ≤ x ∧ x ≤ 3) (hy : -3 ≤ y ∧ y ≤ 3) (hd : 0 ≤ d ∧ d ≤ 8) : DLy ⟨f ++ mixF orI f g, x, y, d⟩ := by
  have V := or_V hf hg
  have e1 : inkL ⟨f ++ mixF orI f g, x, y, d⟩ = f := (join_sub hf.W.len V.W.len).1
  have e2 : mskL ⟨f ++ mixF orI f g, x, y, d⟩ = mixF orI f g := (join_sub hf.W.len V.W.len).2
  refine ⟨⟨by simp [hf.W.len, V.W.len], fun n hn => ?_, ⟨by simp only []; omega, by simp only []; omega⟩, ⟨by simp only []; omega, by simp only []; omega⟩, ⟨by simp only []; omega, by simp only []; omega⟩⟩, ?_, hx, hy, hd⟩
  · rcases List.mem_append.1 hn with h | h
    · exact hf.W.ok n h
    · exact V.W.ok n h
  · unfold okLy okCel
    rw [e1, e2, hf.ok, V.ok, less_none hf V fun u v hu hv h => by rw [mix_or hf hg hu hv, h]; rfl]
    simp [in1]; omega
/-- Side by side. -/
def Adj (u v u' v' : Nat) : Prop := (v = v' ∧ (u = u' + 1 ∨ u' = u + 1)) ∨ (u = u' ∧ (v = v' + 1 ∨ v' = v + 1))
def Dot (f : List Int) (u v : Nat) : Prop := u < 12 ∧ v < 12 ∧ hasF f u v = true
/-- What hangs together. -/
inductive Conn (f : List Int) (x y : Nat) : Nat → Nat → Prop
  | base (h : Dot f x y) : Conn f x y x y
  | step {u v u' v' : Nat} (h : Conn f x y u v) (ha : Adj u' v' u v) (hd : Dot f u' v') : Conn f x y u' v'
theorem Conn.trans {f : List Int} {x y u v a b : Nat} (h : Conn f x y u v) (h2 : Conn f u v a b) : Conn f x y a b := by
  induction h2 with
  | base _ => exact h
  | step _ ha hd ih => exact .step ih ha hd
theorem dec_small {n : Nat} (h : n < 10) : Lib.decDigits n = [UInt8.ofNat (48 + n)] := by rw [Lib.decDigits, dif_pos h]
theorem dec_big {n : Nat} (h : ¬ n < 10) : Lib.decDigits n = Lib.decDigits (n / 10) ++ [UInt8.ofNat (48 + n % 10)] := by rw [Lib.decDigits, dif_neg h]
@[simp] theorem str_size {l : List UInt8} : (⟨l.toArray⟩ : ByteArray).size = l.length := by rw [Lib.size_eq]
@[simp] theorem lensV_s {l : List UInt8} : lensV (str l) = some (.int .i64 l.length) := by unfold str; simp
theorem eqV_s {a b : List UInt8} : eqV .s (str a) (str b) = some (decide (a = b)) := by
  show some ((⟨a.toArray⟩ : ByteArray).toList == (⟨b.toArray⟩ : ByteArray).toList) = _
  rw [Lib.toList_data, Lib.toList_data]
  show some (a == b) = _
  by_cases h : a = b
  · simp [h]
  · simp [h]
@[simp] theorem eqV_s0 {a : List UInt8} : eqV .s (str a) (.string ⟨#[]⟩) = some (decide (a = [])) := eqV_s (b := [])
theorem add_s {a b : List UInt8} (h : a.length + b.length ≤ 9223372036854775807) : binop .add (str a) (str b) = some (str (a ++ b)) := by
  show (if (((⟨a.toArray⟩ : ByteArray).size + (⟨b.toArray⟩ : ByteArray).size : Nat) : Int) > IntKind.i64.max then none else some (Value.string (⟨a.toArray⟩ ++ ⟨b.toArray⟩))) = _
  rw [str_size, str_size, if_neg (by have : IntKind.i64.max = 9223372036854775807 := by decide
                                     omega)]
  unfold str
  congr 2
@[simp] theorem old0_s {n0 : Nat} {l : List UInt8} : old0 n0 (str l) = true := rfl
@[simp] theorem old1_s {n0 : Nat} {l : List UInt8} : old1 n0 (str l) = true := rfl
@[simp] theorem finish_s {n0 : Nat} {H' : Heap} {l : List UInt8} : finish n0 H' [str l] = (str l, H'.take n0) := finish_1 rfl
@[simp] theorem cellsOf_s {l : List UInt8} : cellsOf (str l) = [str l] := rfl
@[simp] theorem eqV_in : eqV .i .nilIface .nilIface = some true := rfl
@[simp] theorem eqV_is {t : TypeId} {v : Value} : eqV .i (.iface t v) .nilIface = some false := rfl
theorem call522 {pu : Bool} {n : Int} {H : Heap} (h1 : -9223372036854775808 ≤ n) (h2 : n ≤ 9223372036854775807) : Call tab pu 522 [.int .i64 n, .int .i64 10] H = some (str (Lib.itoa n), H) := by
  rw [Call_ext t522 (.inr rfl)]
  show (if -9223372036854775808 ≤ n ∧ n ≤ 9223372036854775807 then some (str (Lib.itoa n), H) else none) = _
  rw [if_pos ⟨h1, h2⟩]
theorem call379 {pu : Bool} {n : Int} {H : Heap} (h1 : -9223372036854775808 ≤ n) (h2 : n ≤ 9223372036854775807) : Call tab pu 379 [.int .i64 n] H = some (str (Lib.itoa n), H) := by
  refine Call_wp t379 (.inr rfl) rfl ?_
  simp [c379, k379, call522 h1 h2]
theorem GrB.pushE {H G : Heap} {b : Nat} {x : Value} {esz n bytes : Nat} {vs c : List Value} (g : GrB H G b x esz n vs) (hc : c.length = esz) (hb : (n + 1) * bytes ≤ roomMax) {wb : Bool} :
    ∃ x' G', ((srcOf esz (G ++ [⟨c, esz, 0, false⟩]) (slc G.length 0 0 1 1)).bind fun q => appendTo H.length wb esz bytes (G ++ [⟨c, esz, 0, false⟩]) x q.1 q.2) = some (x', G') ∧ GrB H G' b x' esz (n + 1) (vs ++ c) ∧ KeepE esz G G' := by
  obtain ⟨x', G', h1, h2, h3⟩ := g.push hc hb (wb := wb)
  refine ⟨x', G', h1, h2, fun c k hk hne => ?_⟩
  obtain ⟨ver, _, g2, _⟩ := g
  have hcb : c ≠ b := fun e => by
    subst e
    rw [g2] at hk
    cases hk
    exact hne rfl
  rw [h3 c hcb (List.getElem?_eq_some_iff.1 hk).1]
  exact hk
theorem strsOf_strs : ∀ l : List (List UInt8), strsOf (l.map str) = some l
  | [] => rfl
  | x :: r => by
    show (strsOf (r.map str)).map (x.toArray.toList :: ·) = _
    rw [strsOf_strs r]
    simp
theorem call380 {pu : Bool} {G : Heap} {x : Value} {l : List (List UInt8)} {c : UInt8} (hx : SlR G x 1 l.length (l.map str)) (h1 : (Lib.join l [c]).length ≤ 140737488355328) (h2 : l.length ≤ 140737488355328) :
    Call tab pu 380 [x, .string ⟨#[c]⟩] G = some (str (Lib.join l [c]), G) := by
  rw [Call_ext t380 (.inr rfl)]
  rcases hx.is with ⟨rfl, h0⟩ | ⟨b, off, ver, cap, rfl, _, hr, _⟩
  · obtain rfl := List.length_eq_zero_iff.1 h0
    rfl
  · cases l with
    | nil => rfl
    | cons a r =>
      rw [Nat.mul_one] at hr
      show ((rd G b off ver (r.length + 1)).bind strsOf).bind (fun l => if (Lib.join l [c]).length ≤ roomMax ∧ l.length ≤ roomMax then some (str (Lib.join l [c]), G) else none) = _
      have hr' : rd G b off ver (r.length + 1) = some ((a :: r).map str) := hr
      rw [hr', Option.bind_some, strsOf_strs, Option.bind_some, if_pos ⟨h1, h2⟩]
/-- A move as a word. -/
def mvW (m : Int × Int) : List UInt8 := Lib.itoa m.1 ++ [47] ++ Lib.itoa m.2
def mvT (l : ML) : List UInt8 := Lib.join (l.map mvW) [32]
theorem itoa_len {v : Int} (h1 : -1000 < v) (h2 : v < 1000) : (Lib.itoa v).length ≤ 4 := by
  have key : ∀ n, n < 1000 → (Lib.decDigits n).length ≤ 3 := by
    intro n hn
    rw [Lib.decDigits_length]
    by_cases a : n < 10
    · rw [Lib.nDigits_small a]; omega
    · rw [Lib.nDigits_big a]
      by_cases b : n / 10 < 10
      · rw [Lib.nDigits_small b]; omega
      · rw [Lib.nDigits_big b, Lib.nDigits_small (by omega)]; omega
  unfold Lib.itoa
  split
  · have := key v.natAbs (by omega)
    simp; omega
  · have := key v.toNat (by omega)
    omega
theorem join_len (c : UInt8) (k : Nat) : ∀ l : List (List UInt8), (∀ w ∈ l, w.length ≤ k) → (Lib.join l [c]).length ≤ (k + 1) * l.length
  | [], _ => by simp [Lib.join_nil]
  | x :: r, h => by
    rw [Lib.join_cons]
    have h1 := h x (by simp)
    have h2 : (Lib.joinTail [c] r).length ≤ (k + 1) * r.length := by
      clear h1
      induction r with
      | nil => simp [Lib.joinTail]
      | cons y r ih =>
        have hy := h y (by simp)
        have := ih fun w hw => h w (by rcases List.mem_cons.1 hw with e | e <;> simp [e])
        have e : Lib.joinTail [c] (y :: r) = ([c] ++ y) ++ Lib.joinTail [c] r := rfl
        have e2 : (k + 1) * (y :: r).length = (k + 1) * r.length + (k + 1) := Nat.mul_succ _ _
        rw [e, List.length_append, List.length_append, e2]
        simp only [List.length_cons, List.length_nil]
        omega
    have e2 : (k + 1) * (x :: r).length = (k + 1) * r.length + (k + 1) := Nat.mul_succ _ _
    rw [List.length_append, e2]
    omega
def smM (m : Int × Int) : Bool := decide (-12 ≤ m.1 ∧ m.1 ≤ 12) && decide (-12 ≤ m.2 ∧ m.2 ≤ 12)
theorem smM_iff {m : Int × Int} : smM m = true ↔ (-12 ≤ m.1 ∧ m.1 ≤ 12) ∧ -12 ≤ m.2 ∧ m.2 ≤ 12 := by unfold smM; simp
theorem mvW_len {m : Int × Int} (h : smM m = true) : (mvW m).length ≤ 9 := by
  have hm := smM_iff.1 h
  have h1 := itoa_len (v := m.1) (by omega) (by omega)
  have h2 := itoa_len (v := m.2) (by omega) (by omega)
  unfold mvW
  simp; omega
theorem mvT_len {l : ML} (h : l.all smM = true) : (mvT l).length ≤ 10 * l.length := by
  have := join_len 32 9 (l.map mvW) fun w hw => by
    obtain ⟨m, hm, rfl⟩ := List.mem_map.1 hw
    exact mvW_len (List.all_eq_true.1 h m hm)
  simpa [mvT] using this
theorem call154 {pu : Bool} {G : Heap} {x : Value} {l : ML} (hx : SlR G x 2 l.length (mvsC l)) (hn : l.length ≤ 1000000) (hw : MvOk l) :
    Call tab pu 154 [x] G = some (str (if l.all smM = true then mvT l else []), G) := by
  refine Call_wp t154 (.inr rfl) rfl ?_
  obtain ⟨G1, hG1⟩ : ∃ G1, G1 = G ++ [(⟨[], 1, 0, false⟩ : Blk)] := ⟨_, rfl⟩
  have hg0 : GrB G G1 G.length (slc G.length 0 0 0 0) 1 0 [] := ⟨0, rfl, by rw [hG1]; exact get_last, Nat.le_refl _, rfl, by rw [hG1]; exact Pre.one⟩
  simp [c154, k154, fill, rep, hx.lenV, ← hG1]
  refine WP_count 9 l.length l.length rfl (fun i e H => e 7 = x ∧ e 8 = .int .i64 l.length ∧ (∀ m ∈ l.take i, smM m = true) ∧ ∃ g, e 3 = g ∧ GrB G H G.length g 1 i (((l.take i).map mvW).map str)) (by omega) ?_ ?_ (by simp) ⟨by simp, by simp, by simp, slc G.length 0 0 0 0, by simp, hg0⟩
  · rintro i e H _ hi hii e4 h9 ⟨h7, h8, hall, g, h3, hg⟩
    obtain ⟨q, off, ver, ha, hr⟩ := (hx.pre hg.pr).get1 hi
    rw [mvsC_elem hi] at hr
    obtain ⟨m, hm⟩ : ∃ m, m = mv l i := ⟨_, rfl⟩
    have hml : m ∈ l := by rw [hm]; exact at0_mem hi
    have htk : l.take (i + 1) = l.take i ++ [m] := by
      rw [List.take_add_one, hm]
      simp [mv, at0, hi]
    rw [← hm] at hr
    have hb := hw i hi
    rw [← hm] at hb
    have wa : IntKind.wrap .i64 m.1 = m.1 := wrap64 (by omega)
    have wb : IntKind.wrap .i64 m.2 = m.2 := wrap64 (by omega)
    have z2 : ldv true [.int .i8 0, .int .i8 0] = some (agg [.int .i8 0, .int .i8 0]) := rfl
    by_cases hs : smM m = true
    · have hs' := smM_iff.1 hs
      have d1 := call379 (pu := true) (n := m.1) (H := H) (by omega) (by omega)
      have d2 := call379 (pu := true) (n := m.2) (H := H) (by omega) (by omega)
      have l1 := itoa_len (v := m.1) (by omega) (by omega)
      have l2 := itoa_len (v := m.2) (by omega) (by omega)
      have a1 : binop .add (str (Lib.itoa m.1)) (.string ⟨#[47]⟩) = some (str (Lib.itoa m.1 ++ [47])) := add_s (b := [47]) (by simp; omega)
      have a2 : binop .add (str (Lib.itoa m.1 ++ [47])) (str (Lib.itoa m.2)) = some (str (mvW m)) := add_s (by simp; omega)
      have hf1 := fill_one (z := [.string ⟨#[]⟩]) (v := str (mvW m)) (esz := 1) rfl rfl
      obtain ⟨g', G', hpush, hg', hk⟩ := hg.pushE (c := [str (mvW m)]) (bytes := 16) rfl (by unfold roomMax; omega) (wb := false)
      have hmm : ((l.take i).map mvW).map str ++ [str (mvW m)] = ((l.take (i + 1)).map mvW).map str := by rw [htk]; simp
      rw [hmm] at hg'
      simp [b154_1, h9, h7, h8, h3, hii, ha, hr, agg_cs, stM, ldM1, ldM2, mvC_len, wa, wb, call295, hs'.1, hs'.2, d1, d2, a1, a2, hf1, hpush, wbOf, e4, skip]
      refine ⟨?_, by simpa using hg'⟩
      intro a b hm'
      rw [htk] at hm'
      rcases List.mem_append.1 hm' with h | h
      · exact hall _ h
      · rw [List.mem_singleton.1 h]; exact hs
    · have hno : ¬ l.all smM = true := fun h => hs (List.all_eq_true.1 h m hml)
      have hd1 : (-12 ≤ m.1 ∧ m.1 ≤ 12) → decide (-12 ≤ m.2 ∧ m.2 ≤ 12) = false := fun h => decide_eq_false fun h' => hs (smM_iff.2 ⟨h, h'⟩)
      by_cases h1 : -12 ≤ m.1 ∧ m.1 ≤ 12
      · have hd := hd1 h1
        simp [b154_1, h9, h7, h8, h3, hii, ha, hr, agg_cs, stM, ldM1, ldM2, mvC_len, wa, wb, call295, h1, hd, skip, hno, hg.pr.take, str]
      · have hd : decide (-12 ≤ m.1 ∧ m.1 ≤ 12) = false := decide_eq_false h1
        simp [b154_1, h9, h7, h8, h3, hii, ha, hr, agg_cs, stM, ldM1, ldM2, mvC_len, wa, wb, call295, hd, skip, hno, hg.pr.take, str]
  · rintro e H _ h9 ⟨h7, h8, hall, g, h3, hg⟩
    rw [List.take_length] at hall hg
    have hok : l.all smM = true := List.all_eq_true.2 hall
    have ht := mvT_len hok
    have hs : SlR H g 1 (l.map mvW).length ((l.map mvW).map str) := by
      have := hg.gr.sl
      rwa [List.length_map]
    have hj := call380 (pu := false) (c := 32) hs (by unfold mvT at ht; omega) (by simp; omega)
    simp [b154_1, h9, h7, h8, h3, hj, hok, hg.pr.take]
    rfl
structure K24 (H G : Heap) (x : Value) (b : List (List Int)) (f : List Int) (m : Nat) : Prop where
  P : Pre H G
  bk : Bk G x b
  V : ∀ f ∈ b, VF f
  nb : b.length ≤ 4
  hf : VF f
  hm : m ≤ 4
theorem K24.pre {H G G' : Heap} {x : Value} {b : List (List Int)} {f : List Int} {m : Nat} (h : K24 H G x b f m) (p : Pre G G') : K24 H G' x b f m := ⟨h.P.trans p, SlR.pre p h.bk, h.V, h.nb, h.hf, h.hm⟩
def b2sV (H : Heap) : Value → Option Value
  | .slice none 0 0 => some (.string .empty)
  | .slice (some ⟨b, off, some ver⟩) n _ => (rd H b off ver n).bind fun cs => (bytesOf cs).map fun l => .string ⟨l.toArray⟩
  | _ => none
theorem ev1_b2s {cl : Cl} {n0 : Nat} {wb : Bool} {e : Env} {H : Heap} {x : Opd} : ev1 cl n0 wb e H (.b2s x) = (b2sV H (x.ev e)).map (·, H) := by
  show (match x.ev e with
    | .slice none 0 0 => some ((Value.string ByteArray.empty, H) : Value × Heap)
    | .slice (some ⟨b, off, some ver⟩) n _ => (rd H b off ver n).bind fun cs => (bytesOf cs).map fun (l : List UInt8) => (Value.string ⟨l.toArray⟩, H)
    | _ => none) = _
  generalize x.ev e = v
  unfold b2sV
  split
  · rfl
  · rename_i b off ver n c
    cases hr : rd H b off ver n with
    | none => rfl
    | some cs => cases hb : bytesOf cs <;> simp [hb]
  · rfl
theorem b2sV_one {H : Heap} {d : Nat} (hd : d < 256) : b2sV (H ++ [⟨[.int .u8 (d : Int)], 1, 0, false⟩]) (slc H.length 0 0 1 1) = some (str [UInt8.ofNat d]) := by
  show (rd (H ++ [⟨[.int .u8 (d : Int)], 1, 0, false⟩]) H.length 0 0 1).bind _ = _
  rw [rd_at get_last rfl (by simp)]
  rfl
theorem nDig_le : ∀ k n, n < 10 ^ (k + 1) → Lib.nDigits n ≤ k + 1 := by
  intro k
  induction k with
  | zero => intro n hn; rw [Lib.nDigits_small (by simpa using hn)]; exact Nat.le_refl _
  | succ k ih =>
    intro n hn
    by_cases h : n < 10
    · rw [Lib.nDigits_small h]; omega
    · rw [Lib.nDigits_big h]
      have := ih (n / 10) (by rw [Nat.pow_succ] at hn; omega)
      omega
theorem dec_len20 {n : Nat} (hn : n ≤ 9223372036854775807) : (Lib.decDigits n).length ≤ 20 := by
  rw [Lib.decDigits_length]
  exact nDig_le 19 n (by have : (10 : Nat) ^ (19 + 1) = 100000000000000000000 := rfl
                         omega)
theorem call552 {pu : Bool} (n : Nat) (hn : n ≤ 9223372036854775807) : ∀ H : Heap, Call tab pu 552 [.int .i64 (n : Int)] H = some (str (Lib.decDigits n), H) := by
  induction n using Nat.strongRecOn generalizing pu with
  | _ n ih =>
    intro H
    refine Call_wp t552 (.inr rfl) rfl ?_
    have e1 : (n : Int).tmod 10 = ((n % 10 : Nat) : Int) := by rw [Int.tmod_eq_emod_of_nonneg (by omega)]; omega
    have e2 : (n : Int).tdiv 10 = ((n / 10 : Nat) : Int) := by rw [Int.tdiv_eq_ediv_of_nonneg (by omega)]; omega
    have w1 : IntKind.wrap .i64 (48 + ((n % 10 : Nat) : Int)) = ((48 + n % 10 : Nat) : Int) := by rw [wrap64 (by omega)]; omega
    have w2 : IntKind.wrap .u8 ((48 + n % 10 : Nat) : Int) = ((48 + n % 10 : Nat) : Int) := wrapu8 (by omega)
    have w3 : IntKind.wrap .i64 ((n / 10 : Nat) : Int) = ((n / 10 : Nat) : Int) := wrap64 (by omega)
    have hb := b2sV_one (H := H) (d := 48 + n % 10) (by omega)
    have hf := fill_one (z := [.int .u8 0]) (v := .int .u8 ((48 + n % 10 : Nat) : Int)) (esz := 1) rfl rfl
    obtain ⟨d, hd⟩ : ∃ d, d = UInt8.ofNat (48 + n % 10) := ⟨_, rfl⟩
    rw [← hd] at hb
    have hcl : cellsOf (.int .u8 ((48 + n % 10 : Nat) : Int)) = [.int .u8 ((48 + n % 10 : Nat) : Int)] := rfl
    rw [hcl] at hf
    by_cases h : n < 10
    · have h' : (n : Int) < 10 := by omega
      have hm : n % 10 = n := Nat.mod_eq_of_lt h
      rw [dec_small h]
      have hd' : [UInt8.ofNat (48 + n)] = [d] := by rw [hd, hm]
      rw [hd']
      simp [c552, k552, h', e1, w1, w2, hf, ev1_b2s, hb, -Int.natCast_add, -Int.natCast_emod]
    · have h' : ¬ (n : Int) < 10 := by omega
      have c := ih (n / 10) (by omega) (by omega) (pu := true) (H ++ [⟨[.int .u8 ((48 + n % 10 : Nat) : Int)], 1, 0, false⟩])
      have ha : binop .add (str (Lib.decDigits (n / 10))) (str [d]) = some (str (Lib.decDigits n)) := by
        rw [dec_big h, ← hd]
        refine add_s ?_
        have := dec_len20 (n := n / 10) (by omega)
        simp; omega
      simp [c552, k552, h', e1, e2, w1, w2, w3, hf, ev1_b2s, hb, c, ha, -Int.natCast_add, -Int.natCast_emod, -Int.natCast_ediv]
theorem call536 {pu : Bool} {H : Heap} {v : Int} (h : -100 ≤ v ∧ v ≤ 100) : Call tab pu 536 [.int .i8 v] H = some (str (Lib.itoa v), H) := by
  refine Call_wp t536 (.inr rfl) rfl ?_
  by_cases h0 : v < 0
  · have w1 : IntKind.wrap .i8 (-v) = -v := wrap8 (by omega)
    have w2 : IntKind.wrap .i64 (-v) = ((v.natAbs : Nat) : Int) := by rw [wrap64 (by omega)]; omega
    have c := call552 (pu := true) v.natAbs (by omega) H
    have hl := dec_len20 (n := v.natAbs) (by omega)
    have ha : binop .add (.string ⟨#[45]⟩) (str (Lib.decDigits v.natAbs)) = some (str (Lib.itoa v)) := by
      have e : Lib.itoa v = [45] ++ Lib.decDigits v.natAbs := by unfold Lib.itoa; rw [if_pos h0]; rfl
      rw [e]
      exact add_s (a := [45]) (by simp; omega)
    simp [c536, k536, h0, w1, w2, c, ha]
  · obtain ⟨n, rfl⟩ := Int.eq_ofNat_of_zero_le (show 0 ≤ v by omega)
    have w2 : IntKind.wrap .i64 (n : Int) = (n : Int) := wrap64 (by omega)
    have c := call552 (pu := true) n (by omega) H
    have e : Lib.itoa (n : Int) = Lib.decDigits n := by unfold Lib.itoa; rw [if_neg h0, Int.toNat_natCast]
    simp [c536, k536, h0, w2, c, e]
theorem call414 {pu : Bool} {G : Heap} {x : Value} {l : ML} (hx : SlR G x 2 l.length (mvsC l)) (hn : l.length ≤ 1000000) (hw : MvOk l) : Call tab pu 414 [x] G = some (.bool (l.all smM), G) := by
  refine Call_wp t414 (.inr rfl) rfl ?_
  simp [c414, k414]
  refine WP_forH 3 l.length l.length rfl (by omega) (fun i e => e 0 = x ∧ ∀ m ∈ l.take i, smM m = true) ?_ ?_ (by simp) (by simp)
  · rintro i e hi hii e4 h3 ⟨h0, hall⟩
    obtain ⟨q, off, ver, ha, hr⟩ := hx.get1 hi
    rw [mvsC_elem hi] at hr
    obtain ⟨m, hm⟩ : ∃ m, m = mv l i := ⟨_, rfl⟩
    have hml : m ∈ l := by rw [hm]; exact at0_mem hi
    have htk : l.take (i + 1) = l.take i ++ [m] := by
      rw [List.take_add_one, hm]
      simp [mv, at0, hi]
    have hb := hw i hi
    rw [← hm] at hr hb
    have d0 := rd_part hr (o := 0) (m := 1) (by omega)
    have d1 := rd_part hr (o := 1) (m := 1) (by omega)
    simp [mvC] at d0 d1
    have wa : IntKind.wrap .i64 m.1 = m.1 := wrap64 (by omega)
    have wb : IntKind.wrap .i64 m.2 = m.2 := wrap64 (by omega)
    by_cases h1 : -12 ≤ m.1 ∧ m.1 ≤ 12
    · by_cases h2 : -12 ≤ m.2 ∧ m.2 ≤ 12
      · simp [b414_1, h3, h0, hx.lenV, hii, ha, d0, d1, wa, wb, call304, h1, h2, e4, skip]
        intro a b hm'
        rw [htk] at hm'
        rcases List.mem_append.1 hm' with h | h
        · exact hall _ h
        · rw [List.mem_singleton.1 h]; exact smM_iff.2 ⟨h1, h2⟩
      · have hd : decide (-12 ≤ m.2 ∧ m.2 ≤ 12) = false := decide_eq_false h2
        have hno : l.all smM = false := List.all_eq_false.2 ⟨m, hml, fun h => h2 (smM_iff.1 h).2⟩
        simp [b414_1, h3, h0, hx.lenV, hii, ha, d0, d1, wa, wb, call304, h1, hd, skip, hno]
    · have hd : decide (-12 ≤ m.1 ∧ m.1 ≤ 12) = false := decide_eq_false h1
      have hno : l.all smM = false := List.all_eq_false.2 ⟨m, hml, fun h => h1 (smM_iff.1 h).1⟩
      simp [b414_1, h3, h0, hx.lenV, hii, ha, d0, d1, wa, wb, call304, hd, skip, hno]
  · rintro e h3 ⟨h0, hall⟩
    rw [List.take_length] at hall
    have hok : l.all smM = true := List.all_eq_true.2 hall
    simp [b414_1, h3, h0, hx.lenV, hok]
theorem mvT_snoc {l : ML} {m : Int × Int} (h : l ≠ []) : mvT (l ++ [m]) = mvT l ++ [32] ++ mvW m := by
  cases l with
  | nil => exact absurd rfl h
  | cons a r =>
    unfold mvT
    simp only [List.cons_append, List.map_cons, List.map_append, Lib.join_cons, Lib.joinTail, List.map_nil, List.flatten_append, List.flatten_cons, List.flatten_nil]
    simp
theorem call415 {pu : Bool} {G : Heap} {x : Value} {l : ML} (hx : SlR G x 2 l.length (mvsC l)) (hn : l.length ≤ 1000000) (hs : l.all smM = true) : Call tab pu 415 [x] G = some (str (mvT l), G) := by
  refine Call_wp t415 (.inr rfl) rfl ?_
  simp [c415, k415]
  refine WP_forH 4 l.length l.length rfl (by omega) (fun i e => e 0 = x ∧ e 3 = str (mvT (l.take i))) ?_ ?_ (by simp) ⟨by simp, by simp; rfl⟩
  · rintro i e hi hii e4 h4 ⟨h0, h3⟩
    obtain ⟨q, off, ver, ha, hr⟩ := hx.get1 hi
    rw [mvsC_elem hi] at hr
    obtain ⟨m, hm⟩ : ∃ m, m = mv l i := ⟨_, rfl⟩
    have hml : m ∈ l := by rw [hm]; exact at0_mem hi
    have htk : l.take (i + 1) = l.take i ++ [m] := by
      rw [List.take_add_one, hm]
      simp [mv, at0, hi]
    rw [← hm] at hr
    have hsm := List.all_eq_true.1 hs m hml
    have hs' := smM_iff.1 hsm
    have d0 := rd_part hr (o := 0) (m := 1) (by omega)
    have d1 := rd_part hr (o := 1) (m := 1) (by omega)
    simp [mvC] at d0 d1
    have c1 := call536 (pu := true) (H := G) (v := m.1) (by omega)
    have c2 := call536 (pu := true) (H := G) (v := m.2) (by omega)
    have l1 := itoa_len (v := m.1) (by omega) (by omega)
    have l2 := itoa_len (v := m.2) (by omega) (by omega)
    have hT := mvT_len (l := l.take i) (List.all_eq_true.2 fun a ha => List.all_eq_true.1 hs a (List.mem_of_mem_take ha))
    rw [List.length_take, Nat.min_eq_left (by omega)] at hT
    have hW := mvW_len hsm
    have a1 : binop .add (str (Lib.itoa m.1)) (.string ⟨#[47]⟩) = some (str (Lib.itoa m.1 ++ [47])) := add_s (b := [47]) (by simp; omega)
    have a2 : binop .add (str (Lib.itoa m.1 ++ [47])) (str (Lib.itoa m.2)) = some (str (mvW m)) := add_s (by simp; omega)
    by_cases h0i : i = 0
    · subst h0i
      have e0 : mvT (l.take (0 + 1)) = mvW m := by rw [htk]; simp [mvT, Lib.join_one]
      have e1 : str (mvT (l.take 0)) = str [] := rfl
      rw [e1] at h3
      have a3 : binop .add (str []) (str (mvW m)) = some (str (mvW m)) := add_s (a := []) (by simp; omega)
      have h4 : e 4 = .int .i64 0 := h4
      have hii : (0 : Int) < l.length := by omega
      have hin : 0 < l.length := hi
      have ha : idxAV 2 x (.int .i64 0) = some (adr q off ver) := ha
      simp [b415_1, h4, h0, h3, hx.lenV, hii, hin, ha, d0, d1, c1, c2, a1, a2, a3]
      rw [Nat.zero_add] at e0
      rw [e0]
    · have hpos : (0 : Int) < i := by omega
      have hne : l.take i ≠ [] := by
        intro h
        have := congrArg List.length h
        rw [List.length_take, Nat.min_eq_left (by omega)] at this
        exact h0i this
      have hpos' : 0 < i := by omega
      have e0 : mvT (l.take (i + 1)) = mvT (l.take i) ++ [32] ++ mvW m := by rw [htk]; exact mvT_snoc hne
      have a3 : binop .add (str (mvT (l.take i))) (.string ⟨#[32]⟩) = some (str (mvT (l.take i) ++ [32])) := add_s (b := [32]) (by simp; omega)
      have a4 : binop .add (str (mvT (l.take i) ++ [32])) (str (mvW m)) = some (str (mvT (l.take (i + 1)))) := by rw [e0]; exact add_s (by simp; omega)
      simp [b415_1, h4, h0, h3, hx.lenV, hii, hpos, hpos', ha, d0, d1, c1, c2, a1, a2, a3, a4, e4]
  · rintro e h4 ⟨h0, h3⟩
    rw [List.take_length] at h3
    simp [b415_1, h4, h0, h3, hx.lenV]
theorem call197 {pu : Bool} {G : Heap} {x : Value} {l : ML} (hx : SlR G x 2 l.length (mvsC l)) (hn : l.length ≤ 1000000) (hw : MvOk l) :
    Call tab pu 197 [x] G = some (str (if l.all smM = true then mvT l else []), G) := by
  refine Call_wp t197 (.inr rfl) rfl ?_
  have c1 := call414 (pu := true) hx hn hw
  by_cases hs : l.all smM = true
  · have c2 := call415 (pu := true) hx hn hs
    simp [c197, k197, c1, hs, c2]
  · have hs' := Bool.eq_false_iff.2 hs
    simp [c197, k197, c1, hs', str]
theorem call36 {H : Heap} {x : Value} {l : ML} (hs : SlR H x 2 l.length (mvsC l)) (hn : l.length ≤ 9223372036854775807) (hw : MvOk l) : ∃ H', Call tab false 36 [x] H = some (.bool true, H') := by
  refine ⟨H, Call_wp t36 (.inl rfl) rfl ?_⟩
  have hsz := sz_call s68 (pu := true) hs (left := 1000000) (by omega) (by omega) hn
  by_cases hbig : l.length ≤ 1000000
  · have hsz' : ¬ (1000000 - (l.length : Int) < 0) := by omega
    rw [if_neg hsz'] at hsz
    obtain ⟨x1, G1, q1, _, r1, p1⟩ := cp_false (pu := true) mvsC_length rfl (call70 hs hbig)
    have v1 := call197 (pu := true) r1 hbig hw
    obtain ⟨x2, G2, q2, k2, r2, p2⟩ := cp_false (pu := true) mvsC_length rfl (call70 (hs.pre p1) hbig)
    have v2 := call154 (pu := true) r2 hbig hw
    have P2 := p1.trans p2
    obtain ⟨x3, G3, q3, k3, r3, p3⟩ := cp_false (pu := true) mvsC_length rfl (call70 (hs.pre P2) hbig)
    have v3 := call72 (pu := true) (k2.pre p3) k3 hbig
    have P3 := P2.trans p3
    obtain ⟨x4, G4, q4, r4, p4⟩ := cp_true (pu := true) mvsC_length rfl (call70 (hs.pre P3) hbig)
    have v4 := call154 (pu := true) r4 hbig hw
    have P4 := P3.trans p4
    simp [c36, k36, hsz, hsz', q1, v1, q2, v2, q3, v3, q4, v4, eqV_s, P4.take]
  · have hsz' : 1000000 - (l.length : Int) < 0 := by omega
    rw [if_pos hsz'] at hsz
    simp [c36, k36, hsz]
end Fb
