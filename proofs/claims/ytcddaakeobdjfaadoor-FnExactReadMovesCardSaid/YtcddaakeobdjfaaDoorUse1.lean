/- What each function computes. -/
import Derived.Test.YtcddaakeobdjfaaDoorUse0
set_option linter.unusedVariables false
set_option linter.unusedSimpArgs false
namespace Fb
open Go
def kyB (ks : List Ky) (j : Nat) : Bool := ((in1 (ky ks j).1 0 200 && in1 (ky ks j).2.1 (-24) 24) && in1 (ky ks j).2.2 (-24) 24) && (decide (j = 0) || decide ((ky ks (j - 1)).1 < (ky ks j).1))
def okTk (ks : List Ky) : Bool := allN (kyB ks) ks.length && in1 ks.length 1 20
def okPt (s : Pt) : Bool := (okF s.f && okTk s.ks) && in1 s.e 0 3
abbrev KyW (ks : List Ky) : Prop := ∀ k ∈ ks, (-32768 ≤ k.1 ∧ k.1 ≤ 32767) ∧ i8 k.2.1 ∧ i8 k.2.2
/-- A part in memory. -/
structure PtR (H : Heap) (q off ver : Nat) (s : Pt) (y : Value) : Prop where
  rf : rd H q off ver 12 = some (cs .u16 s.f)
  re : rd H q (off + 12) ver 1 = some [.int .i8 s.e]
  ry : rd H q (off + 13) ver 1 = some [y]
  rk : Kr H y s
theorem PtR.of {H : Heap} {q off ver : Nat} {s : Pt} {y : Value} (h : rd H q off ver 14 = some (ptC s y)) (hk : Kr H y s) : PtR H q off ver s y := by
  have hl := s.len
  have g1 := rd_part h (o := 0) (m := 12) (by omega)
  have g2 := rd_part h (o := 12) (m := 1) (by omega)
  have g3 := rd_part h (o := 13) (m := 1) (by omega)
  unfold ptC at g1 g2 g3
  rw [show 12 = 12 + 0 from rfl, ptT_at hl] at g2
  rw [show 13 = 12 + 1 from rfl, ptT_at hl] at g3
  rw [Nat.add_zero, List.drop_zero] at g1
  unfold ptT at g1
  rw [List.take_left' (by simp [hl])] at g1
  exact ⟨g1, g2, g3, hk⟩
theorem PtR.pre {H G : Heap} {q off ver : Nat} {s : Pt} {y : Value} (p : Pre H G) (h : PtR H q off ver s y) : PtR G q off ver s y := ⟨p.rd h.rf, p.rd h.re, p.rd h.ry, SlR.pre p h.rk⟩
structure TkV (ks : List Ky) : Prop where
  n1 : 1 ≤ ks.length
  n20 : ks.length ≤ 20
  r : ∀ i, i < ks.length → (0 ≤ (ky ks i).1 ∧ (ky ks i).1 ≤ 200) ∧ (-24 ≤ (ky ks i).2.1 ∧ (ky ks i).2.1 ≤ 24) ∧ -24 ≤ (ky ks i).2.2 ∧ (ky ks i).2.2 ≤ 24
  s : ∀ i, i + 1 < ks.length → (ky ks i).1 < (ky ks (i + 1)).1
theorem okTk_V {ks : List Ky} (h : okTk ks = true) : TkV ks := by
  simp only [okTk, Bool.and_eq_true] at h
  obtain ⟨h1, h2⟩ := h
  have hl : 1 ≤ ks.length ∧ ks.length ≤ 20 := by simp [in1] at h2; omega
  refine ⟨hl.1, hl.2, fun i hi => ?_, fun i hi => ?_⟩
  · have := allN_get (p := kyB ks) h1 hi
    simp only [kyB, Bool.and_eq_true, in1, decide_eq_true_eq] at this
    exact ⟨this.1.1.1, this.1.1.2, this.1.2⟩
  · have := allN_get (p := kyB ks) h1 hi
    simp only [kyB, Bool.and_eq_true, in1, decide_eq_true_eq, Bool.or_eq_true] at this
    rcases this.2 with h | h
    · omega
    · exact h
theorem PtW.fr {s : Pt} (h : PtW s) : FrW s.f := ⟨s.len, h.ok⟩
theorem bkC_push {l : List (List Int)} {f : List Int} : bkC l ++ cs .u16 f = bkC (l ++ [f]) := by rw [bkC, bkC, rowsC_app]; simp [rowsC, frC]
theorem Gr.base {H H' G : Heap} {x : Value} {esz n : Nat} {vs : List Value} (g : Gr H' G x esz n vs) (p : Pre H H') : Gr H G x esz n vs := by
  obtain ⟨b, ver, rfl, h1, h2, h3, h4⟩ := g
  exact ⟨b, ver, rfl, h1, Nat.le_trans p.len h2, h3, p.trans h4⟩
theorem PtR.new {H G : Heap} {s : Pt} {y : Value} (h : Kr H y s) (p : Pre (H ++ [⟨ptC s y, 1, 0, false⟩]) G) : PtR G H.length 0 0 s y := by
  have hr : rd (H ++ [(⟨ptC s y, 1, 0, false⟩ : Blk)]) H.length 0 0 14 = some (ptC s y) := rd_last rfl ptC_len
  exact PtR.of (p.rd hr) ((h.pre Pre.one).pre p)
/-- A source: a block of three cells; its bytes are elder. At most k bytes were taken. -/
def srB (x : Value) (i sd : Int) : Blk := ⟨[x, .int .i64 i, .int .u64 sd], 1, 0, false⟩
def Src (G : Heap) (P k : Nat) : Prop := ∃ x bs i sd, G[P]? = some (srB x i sd) ∧ SlR (G.take P) x 1 bs.length (cs .u8 bs) ∧ (∀ b ∈ bs, 0 ≤ b ∧ b ≤ 255) ∧ bs.length ≤ 1000000 ∧ 0 ≤ i ∧ i ≤ k
theorem pre_take {G G' : Heap} {n : Nat} (p : Pre G G') (hn : n ≤ G.length) : G'.take n = G.take n := by
  obtain ⟨L, rfl⟩ := p
  rw [List.take_append_of_le_length hn]
theorem Src.lt {G : Heap} {P k : Nat} (h : Src G P k) : P < G.length := by
  obtain ⟨x, bs, i, sd, h1, _⟩ := h
  exact (List.getElem?_eq_some_iff.1 h1).1
theorem Src.pre {G G' : Heap} {P k : Nat} (p : Pre G G') (h : Src G P k) : Src G' P k := by
  have hl := h.lt
  obtain ⟨x, bs, i, sd, h1, h2, h3⟩ := h
  exact ⟨x, bs, i, sd, by rw [p.get hl]; exact h1, by rw [pre_take p (Nat.le_of_lt hl)]; exact h2, h3⟩
/-- Nothing but the source's block has changed. -/
structure Mv (P : Nat) (G G' : Heap) : Prop where
  len : G'.length = G.length
  get : ∀ j, j ≠ P → G'[j]? = G[j]?
theorem Mv.refl {P : Nat} {G : Heap} : Mv P G G := ⟨rfl, fun _ _ => rfl⟩
theorem Mv.trans {P : Nat} {G G' G'' : Heap} (h : Mv P G G') (h' : Mv P G' G'') : Mv P G G'' := ⟨h'.len.trans h.len, fun j hj => (h'.get j hj).trans (h.get j hj)⟩
theorem Mv.set {P : Nat} {G : Heap} {k : Blk} : Mv P G (G.set P k) := ⟨by simp, fun j hj => List.getElem?_set_ne (Ne.symm hj)⟩
theorem Mv.take {P : Nat} {G G' : Heap} (h : Mv P G G') {n0 : Nat} (hn : n0 ≤ P) : G'.take n0 = G.take n0 := by
  apply List.ext_getElem?
  intro i
  rw [List.getElem?_take, List.getElem?_take]
  split
  · rw [h.get i (by omega)]
  · rfl
theorem Src.mv {P k : Nat} {G G' : Heap} (h : Src G P k) (hP : G'[P]? = G[P]?) (hj : ∀ j, j < P → G'[j]? = G[j]?) : Src G' P k := by
  obtain ⟨x, bs, i, sd, h1, h2, h3⟩ := h
  refine ⟨x, bs, i, sd, by rw [hP]; exact h1, ?_, h3⟩
  have : G'.take P = G.take P := by
    apply List.ext_getElem?
    intro j
    rw [List.getElem?_take, List.getElem?_take]
    split
    · exact hj j ‹_›
    · rfl
  rw [this]; exact h2
theorem Src.take {P k n : Nat} {G : Heap} (h : Src G P k) (hn : P < n) : Src (G.take n) P k :=
  h.mv (by rw [List.getElem?_take, if_pos hn]) fun j hj => by rw [List.getElem?_take, if_pos (by omega)]
theorem orI_ok {a b : Int} : u16' (orI a b) := by
  have e0 : IntKind.bits .u16 = 16 := rfl
  unfold orI bitsOf
  simp only []
  have : (BitVec.ofInt (IntKind.bits .u16) a ||| BitVec.ofInt (IntKind.bits .u16) b).toNat < 2 ^ 16 := by rw [e0]; exact BitVec.isLt _
  rw [wrapu16 (by omega)]; omega
theorem orI_row {a b : Int} (ha : u16' a) (hb : u16' b) (h1 : okRow a = true) (h2 : okRow b = true) : okRow (orI a b) = true := by
  obtain ⟨n, rfl⟩ := Int.eq_ofNat_of_zero_le ha.1
  obtain ⟨m, rfl⟩ := Int.eq_ofNat_of_zero_le hb.1
  simp [okRow] at h1 h2 ⊢
  have e0 : IntKind.bits .u16 = 16 := rfl
  unfold orI bitsOf
  simp only []
  have e1 : (BitVec.ofInt (IntKind.bits .u16) (n : Int) ||| BitVec.ofInt (IntKind.bits .u16) (m : Int)).toNat = n ||| m := by
    rw [BitVec.toNat_or, e0, BitVec.ofInt_natCast, BitVec.ofInt_natCast, BitVec.toNat_ofNat, BitVec.toNat_ofNat, Nat.mod_eq_of_lt (show n < 2 ^ 16 by omega), Nat.mod_eq_of_lt (show m < 2 ^ 16 by omega)]
  have e2 : n ||| m < 2 ^ 12 := Nat.or_lt_two_pow (show n < 2 ^ 12 by omega) (show m < 2 ^ 12 by omega)
  rw [e1, wrapu16 (by omega)]; omega
/-- A valid frame. -/
structure VF (f : List Int) : Prop where
  W : FrW f
  ok : okF f = true
theorem VF.row {f : List Int} (h : VF f) {i : Nat} (hi : i < 12) : u16' (nth f i) ∧ okRow (nth f i) = true := ⟨h.W.nth hi, List.all_eq_true.1 (show f.all okRow = true from h.ok) _ (nth_mem (by rw [h.W.len]; exact hi))⟩
theorem VF.set {f : List Int} {i : Nat} {r : Int} (h : VF f) (hr : u16' r) (ho : okRow r = true) : VF (f.set i r) :=
  ⟨⟨by simp [h.W.len], fun n hn => (List.mem_or_eq_of_mem_set hn).elim (h.W.ok n) (fun e => by rw [e]; exact hr)⟩,
    List.all_eq_true.2 fun n hn => (List.mem_or_eq_of_mem_set hn).elim (fun h1 => List.all_eq_true.1 (show f.all okRow = true from h.ok) n h1) (fun e => by rw [e]; exact ho)⟩
theorem VF.zero : VF (zr 12 0) := ⟨⟨by simp, fun n hn => by simp [zr] at hn; subst hn; exact ⟨by omega, by omega⟩⟩, by decide⟩
/-- In a function that draws: the source and a frame of its own. -/
structure Loc (G G' : Heap) (P k : Nat) (f : List Int) : Prop where
  src : Src G' P k
  fr : G'[G.length]? = some ⟨cs .u16 f, 1, 0, false⟩
  V : VF f
  len : G'.length = G.length + 1
  get : ∀ j, j < G.length → j ≠ P → G'[j]? = G[j]?
  lt : P < G.length
theorem Loc.mv {G G' G'' : Heap} {P k k' : Nat} {f : List Int} (h : Loc G G' P k f) (m : Mv P G' G'') (s : Src G'' P k') : Loc G G'' P k' f := by
  have := h.lt
  exact ⟨s, by rw [m.get _ (by omega)]; exact h.fr, h.V, by rw [m.len]; exact h.len, fun j hj hp => by rw [m.get j hp]; exact h.get j hj hp, h.lt⟩
theorem Loc.set {G G' : Heap} {P k : Nat} {f g : List Int} (h : Loc G G' P k f) (hg : VF g) : Loc G (G'.set G.length ⟨cs .u16 g, 1, 0, false⟩) P k g := by
  have := h.lt
  exact ⟨h.src.mv (List.getElem?_set_ne (by omega)) fun j hj => List.getElem?_set_ne (by omega), get_set h.fr, hg, by simp [h.len], fun j hj hp => by rw [List.getElem?_set_ne (by omega)]; exact h.get j hj hp, h.lt⟩
structure Lo2 (G G' : Heap) (P k : Nat) (x : Value) (L : List (List Int)) (f : List Int) : Prop where
  src : Src G' P k
  ls : ∃ ver, x = slc G.length 0 ver L.length L.length ∧ G'[G.length]? = some ⟨bkC L, 12, ver, false⟩
  VL : ∀ g ∈ L, VF g
  fr : G'[G.length + 1]? = some ⟨cs .u16 f, 1, 0, false⟩
  V : VF f
  len : G.length + 2 ≤ G'.length
  get : ∀ j, j < G.length → j ≠ P → G'[j]? = G[j]?
  lt : P < G.length
theorem Lo2.mv {G G' G'' : Heap} {P k k' : Nat} {x : Value} {L : List (List Int)} {f : List Int} (h : Lo2 G G' P k x L f) (m : Mv P G' G'') (s : Src G'' P k') : Lo2 G G'' P k' x L f := by
  have := h.lt
  exact ⟨s, by obtain ⟨ver, e, g⟩ := h.ls; exact ⟨ver, e, by rw [m.get _ (by omega)]; exact g⟩, h.VL, by rw [m.get _ (by omega)]; exact h.fr, h.V, by rw [m.len]; exact h.len, fun j hj hp => by rw [m.get j hp]; exact h.get j hj hp, h.lt⟩
theorem Lo2.set {G G' : Heap} {P k : Nat} {x : Value} {L : List (List Int)} {f g : List Int} (h : Lo2 G G' P k x L f) (hg : VF g) : wr G.length true G' (G.length + 1) 0 0 (cs .u16 g) = some (G'.set (G.length + 1) ⟨cs .u16 g, 1, 0, false⟩) ∧ Lo2 G (G'.set (G.length + 1) ⟨cs .u16 g, 1, 0, false⟩) P k x L g := by
  have hl := h.lt
  have hlen := h.len
  have hw := wr_at (n0 := G.length) (wb := true) (off := 0) (vs := cs .u16 g) (ver := 0) h.fr rfl rfl (by simp [may]) (by simp [h.V.W.len, hg.W.len])
  have hsp : splice (cs .u16 f) 0 (cs .u16 g) = cs .u16 g := by
    unfold splice
    rw [List.take_zero, List.nil_append, Nat.zero_add, List.drop_eq_nil_of_le (by simp [h.V.W.len, hg.W.len]), List.append_nil]
  simp only [hsp] at hw
  exact ⟨hw, h.src.mv (List.getElem?_set_ne (by omega)) fun j hj => List.getElem?_set_ne (by omega), by obtain ⟨ver, e, g⟩ := h.ls; exact ⟨ver, e, by rw [List.getElem?_set_ne (by omega)]; exact g⟩, h.VL, get_set h.fr, hg, by simpa using hlen,
    fun j hj hp => by rw [List.getElem?_set_ne (by omega)]; exact h.get j hj hp, hl⟩
theorem vl_size {L : List (List Int)} (h : ∀ g ∈ L, VF g) : (bkC L).length = L.length * 12 := bkC_length fun f hf => (h f hf).W
theorem Lo2.bk {G G' : Heap} {P k : Nat} {x : Value} {L : List (List Int)} {f : List Int} (h : Lo2 G G' P k x L f) : Bk G' x L := by
  obtain ⟨ver, rfl, g⟩ := h.ls
  have hs := vl_size h.VL
  exact ⟨hs, .inr ⟨_, 0, ver, L.length, rfl, Nat.le_refl _, by rw [rd_at g rfl (by simp [hs])]; simp [take_all, hs], _, g, rfl, rfl⟩⟩
theorem Lo2.push {G G' : Heap} {P k : Nat} {x : Value} {L : List (List Int)} {f : List Int} (h : Lo2 G G' P k x L f) (hn : L.length ≤ 1000000) :
    ∃ x' G'', ((srcOf 12 (G' ++ [⟨cs .u16 f, 12, 0, false⟩]) (slc G'.length 0 0 1 1)).bind fun q => appendTo G.length true 12 24 (G' ++ [⟨cs .u16 f, 12, 0, false⟩]) x q.1 q.2) = some (x', G'') ∧ Lo2 G G'' P k x' (L ++ [f]) f := by
  have hl := h.lt
  have hlen := h.len
  have hf := h.V.W.len
  have hs := vl_size h.VL
  have hfr := h.fr
  have hsrc := h.src
  have hget := h.get
  obtain ⟨ver, rfl, g⟩ := h.ls
  have gA : ∀ j, j < G'.length → (G' ++ [(⟨cs .u16 f, 12, 0, false⟩ : Blk)])[j]? = G'[j]? := fun j hj => List.getElem?_append_left hj
  have g' : (G' ++ [(⟨cs .u16 f, 12, 0, false⟩ : Blk)])[G.length]? = some ⟨bkC L, 12, ver, false⟩ := by rw [gA _ (by omega)]; exact g
  have e1 : srcOf 12 (G' ++ [⟨cs .u16 f, 12, 0, false⟩]) (slc G'.length 0 0 1 1) = some (1, cs .u16 f) := by
    show (rd (G' ++ [⟨cs .u16 f, 12, 0, false⟩]) G'.length 0 0 (1 * 12)).map (fun cs => (1, cs)) = _
    rw [Nat.one_mul, rd_last rfl (by simpa using hf)]; rfl
  have e2 : (L ++ [f]).length = L.length + 1 := by simp
  refine ⟨slc G.length 0 (ver + 1) (L.length + 1) (L.length + 1), (G' ++ [(⟨cs .u16 f, 12, 0, false⟩ : Blk)]).set G.length ⟨bkC L ++ cs .u16 f, 12, ver + 1, false⟩, ?_, ?_⟩
  · rw [e1, Option.bind_some]
    exact appendTo_grow g' rfl rfl (by simp [may]) rfl hs.symm (by omega) (room24 (by omega))
  · refine ⟨hsrc.mv (by rw [List.getElem?_set_ne (by omega), gA _ (by omega)]) fun j hj => by rw [List.getElem?_set_ne (by omega), gA _ (by omega)], ⟨ver + 1, by rw [e2], by rw [get_set g', bkC_push]⟩, fun g hg => ?_, by rw [List.getElem?_set_ne (by omega), gA _ (by omega)]; exact hfr, h.V, by simp; omega, fun j hj hp => by rw [List.getElem?_set_ne (by omega), gA _ (by omega)]; exact hget j hj hp, hl⟩
    rcases List.mem_append.1 hg with h1 | h1
    · exact h.VL g h1
    · rw [List.mem_singleton.1 h1]; exact h.V
/-- In a function that draws: the source, and blocks of the call's own behind. -/
structure Lo0 (G G' : Heap) (P k : Nat) : Prop where
  src : Src G' P k
  len : G.length ≤ G'.length
  get : ∀ j, j < G.length → j ≠ P → G'[j]? = G[j]?
  lt : P < G.length
theorem Lo0.mv {G G' G'' : Heap} {P k k' : Nat} (h : Lo0 G G' P k) (m : Mv P G' G'') (s : Src G'' P k') : Lo0 G G'' P k' :=
  ⟨s, by rw [m.len]; exact h.len, fun j hj hp => by rw [m.get j hp]; exact h.get j hj hp, h.lt⟩
theorem Lo0.pre {G G' G'' : Heap} {P k : Nat} (h : Lo0 G G' P k) (p : Pre G' G'') : Lo0 G G'' P k := by
  have h1 := h.len
  exact ⟨h.src.pre p, Nat.le_trans h1 p.len, fun j hj hp => by rw [p.get (by omega)]; exact h.get j hj hp, h.lt⟩
/-- Valid light. -/
structure VL (l : List Int) : Prop where
  len : l.length = 144
  ok : okAll l = true
theorem VL.set {l : List Int} {i : Nat} {v : Int} (h : VL l) (hv : 0 ≤ v ∧ v ≤ 1000) : VL (l.set i v) :=
  ⟨by simp [h.len], List.all_eq_true.2 fun n hn => (List.mem_or_eq_of_mem_set hn).elim (fun h1 => List.all_eq_true.1 (show l.all okL = true from h.ok) n h1) (fun e => by rw [e]; simpa [okL] using hv)⟩
theorem VL.zero : VL (zr 144 0) := ⟨by simp, by decide⟩
theorem bit_get {n : Nat} {i : Nat} (h : i < 16) : (BitVec.ofInt 16 (n : Int)).getLsbD i = n.testBit i := by
  rw [BitVec.ofInt_natCast, BitVec.getLsbD_ofNat]
  simp [h]
theorem dotB_vec {v : BitVec 16} {i : Nat} : dotB (IntKind.wrap .u16 (v.toNat : Int)) i = v.getLsbD i := by
  have := v.isLt
  rw [wrapu16 (by omega), dotB_bit]
  exact BitVec.testBit_toNat v
theorem or_dot {a b : Int} (ha : u16' a) (hb : u16' b) {i : Nat} (hi : i < 16) : dotB (orI a b) i = (dotB a i || dotB b i) := by
  obtain ⟨n, rfl⟩ := Int.eq_ofNat_of_zero_le ha.1
  obtain ⟨m, rfl⟩ := Int.eq_ofNat_of_zero_le hb.1
  rw [dotB_bit, dotB_bit, ← bit_get hi, ← bit_get hi, ← BitVec.getLsbD_or]
  exact dotB_vec
theorem less_dot {a b : Int} (ha : u16' a) (hb : u16' b) {i : Nat} (hi : i < 16) : dotB (lessI a b) i = (dotB a i && !dotB b i) := by
  obtain ⟨n, rfl⟩ := Int.eq_ofNat_of_zero_le ha.1
  obtain ⟨m, rfl⟩ := Int.eq_ofNat_of_zero_le hb.1
  have e1 : (BitVec.ofInt 16 (n : Int) &&& ~~~BitVec.ofInt 16 (m : Int)).getLsbD i = ((BitVec.ofInt 16 (n : Int)).getLsbD i && !(BitVec.ofInt 16 (m : Int)).getLsbD i) := by
    rw [BitVec.getLsbD_and, BitVec.getLsbD_not]; simp [hi]
  rw [dotB_bit, dotB_bit, ← bit_get hi, ← bit_get hi, ← e1]
  exact dotB_vec
theorem hasF_dots {p : Nat → Nat → Bool} {x y : Nat} (hx : x < 12) (hy : y < 12) : hasF (dotsF p) x y = p x y := by
  rw [hasF, dotsF_nth hy, dotB_bit, rowN_bit]; simp [hx]
theorem VF.dots {f : List Int} (h : VF f) : dotsF (hasF f) = f := by
  refine (ext_nth (by rw [dotsF_length, h.W.len]) fun y hy => ?_)
  rw [dotsF_length] at hy
  obtain ⟨n, hn, hlt⟩ := okF_row h.ok h.W hy
  rw [dotsF_nth hy, hn]
  have := rowN_eq (q := fun x => hasF f x y) (n := n) (m := 12) hlt fun x hx => by rw [hasF, hn, dotB_bit]
  rw [← this]
theorem VF.ext {f g : List Int} (hf : VF f) (hg : VF g) (h : ∀ x y, x < 12 → y < 12 → hasF f x y = hasF g x y) : f = g := by
  rw [← hf.dots, ← hg.dots]
  exact dotsF_congr h
theorem mix_or {f g : List Int} (hf : VF f) (hg : VF g) {x y : Nat} (hx : x < 12) (hy : y < 12) : hasF (mixF orI f g) x y = (hasF f x y || hasF g x y) := by
  rw [hasF, mixF, nth_tabN hy]; exact or_dot (hf.row hy).1 (hg.row hy).1 (by omega)
theorem mix_less {f g : List Int} (hf : VF f) (hg : VF g) {x y : Nat} (hx : x < 12) (hy : y < 12) : hasF (mixF lessI f g) x y = (hasF f x y && !hasF g x y) := by
  rw [hasF, mixF, nth_tabN hy]; exact less_dot (hf.row hy).1 (hg.row hy).1 (by omega)
theorem mixV {op : Int → Int → Int} {f g : List Int} (hf : VF f) (hg : VF g) (h : ∀ a b, u16' a → u16' b → okRow a = true → okRow b = true → u16' (op a b) ∧ okRow (op a b) = true) : VF (mixF op f g) := by
  have key : ∀ i, i < 12 → u16' (nth (mixF op f g) i) ∧ okRow (nth (mixF op f g) i) = true := fun i hi => by
    rw [mixF, nth_tabN hi]
    exact h _ _ (hf.row hi).1 (hg.row hi).1 (hf.row hi).2 (hg.row hi).2
  exact ⟨⟨mixF_length, fun n hn => by obtain ⟨i, hi, rfl⟩ := mem_nth hn; rw [mixF_length] at hi; exact (key i hi).1⟩, okF_true mixF_length fun i hi => (key i hi).2⟩
theorem or_V {f g : List Int} (hf : VF f) (hg : VF g) : VF (mixF orI f g) := mixV hf hg fun _ _ h1 h2 h3 h4 => ⟨orI_ok, orI_row h1 h2 h3 h4⟩
theorem less_V {f g : List Int} (hf : VF f) (hg : VF g) : VF (mixF lessI f g) := mixV hf hg fun _ _ h1 h2 h3 _ => ⟨lessI_ok, lessI_row h1 h3⟩
theorem hasF_zero {x y : Nat} (hx : x < 12) (hy : y < 12) : hasF (zr 12 0) x y = false := by rw [← dotsF_none, hasF_dots hx hy]
theorem less_none {f g : List Int} (hf : VF f) (hg : VF g) (h : ∀ x y, x < 12 → y < 12 → hasF f x y = true → hasF g x y = true) : mixF lessI f g = zr 12 0 :=
  (less_V hf hg).ext .zero fun x y hx hy => by
    rw [mix_less hf hg hx hy, hasF_zero hx hy]
    cases h1 : hasF f x y with
    | false => rfl
    | true => rw [h x y hx hy h1]; rfl
/-- A list of bytes in memory. -/
structure By (H : Heap) (x : Value) (bs : List Int) : Prop where
  s : SlR H x 1 bs.length (cs .u8 bs)
  b : ∀ v ∈ bs, 0 ≤ v ∧ v ≤ 255
theorem By.pre {H G : Heap} {x : Value} {bs : List Int} (p : Pre H G) (h : By H x bs) : By G x bs := ⟨h.s.pre p, h.b⟩
/-- In a function that draws: the source, and a list of the call's own in the first new block. -/
structure LoG (G G' : Heap) (P k : Nat) (x : Value) (esz n : Nat) (vs : List Value) : Prop where
  src : Src G' P k
  ls : ∃ ver, x = slc G.length 0 ver n n ∧ G'[G.length]? = some ⟨vs, esz, ver, false⟩
  size : vs.length = n * esz
  len : G.length + 1 ≤ G'.length
  get : ∀ j, j < G.length → j ≠ P → G'[j]? = G[j]?
  lt : P < G.length
theorem LoG.mv {G G' G'' : Heap} {P k k' esz n : Nat} {x : Value} {vs : List Value} (h : LoG G G' P k x esz n vs) (m : Mv P G' G'') (s : Src G'' P k') : LoG G G'' P k' x esz n vs := by
  have := h.lt
  exact ⟨s, by obtain ⟨ver, e, g⟩ := h.ls; exact ⟨ver, e, by rw [m.get _ (by omega)]; exact g⟩, h.size, by rw [m.len]; exact h.len, fun j hj hp => by rw [m.get j hp]; exact h.get j hj hp, h.lt⟩
theorem LoG.new {G : Heap} {P k esz : Nat} (h : Src G P k) : LoG G (G ++ [⟨[], esz, 0, false⟩]) P k (slc G.length 0 0 0 0) esz 0 [] :=
  ⟨h.pre Pre.one, ⟨0, rfl, get_last⟩, by simp, by simp, fun j hj _ => Pre.one.get hj, h.lt⟩
theorem LoG.push {G G' : Heap} {P k esz n bytes : Nat} {x : Value} {vs c : List Value} (h : LoG G G' P k x esz n vs) (hc : c.length = esz) (hb : (n + 1) * bytes ≤ roomMax) :
    ∃ x' G'', ((srcOf esz (G' ++ [⟨c, esz, 0, false⟩]) (slc G'.length 0 0 1 1)).bind fun q => appendTo G.length true esz bytes (G' ++ [⟨c, esz, 0, false⟩]) x q.1 q.2) = some (x', G'') ∧ LoG G G'' P k x' esz (n + 1) (vs ++ c) := by
  have hl := h.lt
  have hlen := h.len
  have hsrc := h.src
  have hget := h.get
  have hs := h.size
  obtain ⟨ver, rfl, g⟩ := h.ls
  have gA : ∀ j, j < G'.length → (G' ++ [(⟨c, esz, 0, false⟩ : Blk)])[j]? = G'[j]? := fun j hj => List.getElem?_append_left hj
  have g' : (G' ++ [(⟨c, esz, 0, false⟩ : Blk)])[G.length]? = some ⟨vs, esz, ver, false⟩ := by rw [gA _ (by omega)]; exact g
  have e1 : srcOf esz (G' ++ [⟨c, esz, 0, false⟩]) (slc G'.length 0 0 1 1) = some (1, c) := by
    show (rd (G' ++ [⟨c, esz, 0, false⟩]) G'.length 0 0 (1 * esz)).map (fun cs => (1, cs)) = _
    rw [Nat.one_mul, rd_last rfl (by simpa using hc)]; rfl
  refine ⟨slc G.length 0 (ver + 1) (n + 1) (n + 1), (G' ++ [(⟨c, esz, 0, false⟩ : Blk)]).set G.length ⟨vs ++ c, esz, ver + 1, false⟩, ?_, ?_⟩
  · rw [e1, Option.bind_some]
    exact appendTo_grow g' rfl rfl (by simp [may]) rfl hs.symm (by omega) hb
  · exact ⟨hsrc.mv (by rw [List.getElem?_set_ne (by omega), gA _ (by omega)]) fun j hj => by rw [List.getElem?_set_ne (by omega), gA _ (by omega)], ⟨ver + 1, rfl, get_set g'⟩, by simp [hs, hc, Nat.succ_mul], by simp; omega,
      fun j hj hp => by rw [List.getElem?_set_ne (by omega), gA _ (by omega)]; exact hget j hj hp, hl⟩
/-- Keys of a drawn track: all behind one another, ahead of t. -/
structure KG (ks : List Ky) (t : Int) : Prop where
  r : ∀ i, i < ks.length → (0 ≤ (ky ks i).1 ∧ (ky ks i).1 < t) ∧ (-6 ≤ (ky ks i).2.1 ∧ (ky ks i).2.1 ≤ 6) ∧ -6 ≤ (ky ks i).2.2 ∧ (ky ks i).2.2 ≤ 6
  s : ∀ i, i + 1 < ks.length → (ky ks i).1 < (ky ks (i + 1)).1
theorem ky_push {ks : List Ky} {k : Ky} {i : Nat} : ky (ks ++ [k]) i = if i < ks.length then ky ks i else if i = ks.length then k else default := by
  unfold ky at0
  rw [List.getD_eq_getElem?_getD, List.getElem?_append]
  split
  · rw [List.getD_eq_getElem?_getD]
  · rename_i h
    split
    · rename_i h2; subst h2; simp
    · rw [List.getElem?_eq_none (by simp; omega)]; rfl
theorem KG.push {ks : List Ky} {t t' a b : Int} (h : KG ks t) (ht : 0 ≤ t) (htt : t < t') (ha : -6 ≤ a ∧ a ≤ 6) (hb : -6 ≤ b ∧ b ≤ 6) : KG (ks ++ [(t, a, b)]) t' := by
  refine ⟨fun i hi => ?_, fun i hi => ?_⟩
  · have hi : i < ks.length + 1 := by simpa using hi
    rw [ky_push]
    by_cases h1 : i < ks.length
    · rw [if_pos h1]; have := h.r i h1; exact ⟨by omega, this.2⟩
    · rw [if_neg h1, if_pos (by omega)]; exact ⟨⟨ht, htt⟩, ha, hb⟩
  · have hi : i + 1 < ks.length + 1 := by simpa using hi
    rw [ky_push, ky_push, if_pos (by omega)]
    by_cases h1 : i + 1 < ks.length
    · rw [if_pos h1]; exact h.s i h1
    · rw [if_neg h1, if_pos (by omega)]; exact (h.r i (by omega)).1.2
/-- A drawn track. -/
structure DT (ks : List Ky) : Prop where
  n1 : 1 ≤ ks.length
  n5 : ks.length ≤ 5
  ok : okTk ks = true
/-- A drawn part. -/
structure DP (s : Pt) : Prop where
  f : VF s.f
  e : 0 ≤ s.e ∧ s.e ≤ 3
  ks : DT s.ks
theorem DT.W {ks : List Ky} (h : DT ks) : KyW ks := fun k hk => by
  have V := okTk_V h.ok
  obtain ⟨i, hi, rfl⟩ := List.getElem_of_mem hk
  have := V.r i hi
  have e : ky ks i = ks[i] := Option.some.inj ((at0_get hi).symm.trans (List.getElem?_eq_getElem hi))
  rw [e] at this
  exact ⟨by omega, ⟨by omega, by omega⟩, ⟨by omega, by omega⟩⟩
theorem DP.ok {s : Pt} (h : DP s) : okPt s = true := by
  have := h.e
  simp [okPt, h.f.ok, h.ks.ok, in1, this]
theorem DP.W {s : Pt} (h : DP s) : PtW s := ⟨h.f.W.ok, ⟨by have := h.e; omega, by have := h.e; omega⟩, h.ks.W⟩
def lpD (b : List (List Int)) (n i : Nat) : Int := difF (fr b (i + n - 1)) (fr b i)
/-- The best of what was visited. -/
def LpI (b : List (List Int)) (o : Lp) (S : Nat → Nat → Prop) : Prop := match o with
  | none => ∀ n i, ¬ S n i
  | some (f, c, j) => S c f ∧ j = lpD b c f ∧ ∀ n i, S n i → j ≤ lpD b n i ∧ (lpD b n i = j → n < c ∨ (n = c ∧ f ≤ i))
theorem LpI.step {b : List (List Int)} {o : Lp} {S S' : Nat → Nat → Prop} {n i : Nat} (h : LpI b o S) (hS : ∀ n' i', S' n' i' ↔ S n' i' ∨ (n' = n ∧ i' = i)) (ho : ∀ n' i', S n' i' → n < n' ∨ (n = n' ∧ i' < i)) : LpI b (stepL b n i o) S' := by
  cases o with
  | none =>
    refine ⟨(hS n i).2 (.inr ⟨rfl, rfl⟩), rfl, fun n' i' hs => ?_⟩
    rcases (hS n' i').1 hs with h1 | ⟨rfl, rfl⟩
    · exact absurd h1 (h n' i')
    · exact ⟨Int.le_refl _, fun _ => .inr ⟨rfl, Nat.le_refl _⟩⟩
  | some q =>
    obtain ⟨f, c, j⟩ := q
    obtain ⟨h1, h2, h3⟩ := h
    show LpI b (if lpD b n i < j then some (i, n, lpD b n i) else some (f, c, j)) S'
    split
    · rename_i hlt
      refine ⟨(hS n i).2 (.inr ⟨rfl, rfl⟩), rfl, fun n' i' hs => ?_⟩
      rcases (hS n' i').1 hs with h4 | ⟨rfl, rfl⟩
      · have := (h3 n' i' h4).1
        exact ⟨by omega, fun he => by omega⟩
      · exact ⟨Int.le_refl _, fun _ => .inr ⟨rfl, Nat.le_refl _⟩⟩
    · rename_i hge
      refine ⟨(hS c f).2 (.inl h1), h2, fun n' i' hs => ?_⟩
      rcases (hS n' i').1 hs with h4 | ⟨rfl, rfl⟩
      · exact h3 n' i' h4
      · refine ⟨by omega, fun _ => ?_⟩
        rcases ho c f h1 with h5 | h5
        · exact .inl h5
        · exact .inr ⟨h5.1, by omega⟩
structure C1 (G : Heap) (x cx l1 l2 l3 : Value) (b c : List (List Int)) (frm : Nat) : Prop where
  bk : Bk G x b
  ck : Bk G cx c
  Vb : ∀ f ∈ b, VF f
  nb : b.length ≤ 1000
  c1 : 1 ≤ c.length
  cb : frm + c.length ≤ b.length
  sub : ∀ i, i < c.length → fr c i = fr b (frm + i)
  s1 : SlR G l1 1 (mcK b c 0 (mcN b c)).1.length (cs .i64 (mcK b c 0 (mcN b c)).1)
  s2 : SlR G l2 1 (mcK b c 1 (mcN b c)).1.length (cs .i64 (mcK b c 1 (mcN b c)).1)
  s3 : SlR G l3 2 (mcK b c 1 (mcN b c)).1.length (mvsC (mcK b c 1 (mcN b c)).2)
theorem C1.V {G : Heap} {x cx l1 l2 l3 : Value} {b c : List (List Int)} {frm : Nat} (h : C1 G x cx l1 l2 l3 b c frm) {i : Nat} (hi : i < c.length) : VF (fr c i) := by
  rw [h.sub i hi]
  have := h.cb
  exact h.Vb _ (at0_mem (by omega))
/-- What the walk knows all along. -/
structure K17 (H G : Heap) (x y : Value) (b : List (List Int)) (bs : List Int) (tw : Bool) (pv : Int) : Prop where
  P : Pre H G
  by' : By G y bs
  bk : Bk G x b
  V : ∀ f ∈ b, VF f
  nb : b.length ≤ 40
  tw' : tw = true → ∃ L, b = L ++ L
  pv' : 1 ≤ b.length → pv = findN (perP b) (b.length + 1)
theorem K17.pre {H G G' : Heap} {x y : Value} {b : List (List Int)} {bs : List Int} {tw : Bool} {pv : Int} (h : K17 H G x y b bs tw pv) (p : Pre G G') : K17 H G' x y b bs tw pv := ⟨h.P.trans p, h.by'.pre p, h.bk.pre p, h.V, h.nb, h.tw', h.pv'⟩
theorem Gr.pr {H G : Heap} {x : Value} {esz n : Nat} {vs : List Value} (g : Gr H G x esz n vs) : Pre H G := by
  obtain ⟨_, _, _, _, _, _, h⟩ := g; exact h
theorem LoG.app {G G' L : Heap} {P k esz n : Nat} {x : Value} {vs : List Value} (h : LoG G G' P k x esz n vs) : LoG G (G' ++ L) P k x esz n vs := by
  have hl := h.lt
  have hlen := h.len
  have g : ∀ j, j < G'.length → (G' ++ L)[j]? = G'[j]? := fun j hj => List.getElem?_append_left hj
  exact ⟨h.src.pre ⟨L, rfl⟩, by obtain ⟨ver, e, q⟩ := h.ls; exact ⟨ver, e, by rw [g _ (by omega)]; exact q⟩, h.size, by simp; omega, fun j hj hp => by rw [g _ (by omega)]; exact h.get j hj hp, hl⟩
/-- A drawn layer. -/
structure DLy (s : Ly) : Prop where
  W : LyW s
  ok : okLy s = true
  bx : -3 ≤ s.x ∧ s.x ≤ 3
  bz : -3 ≤ s.y ∧ s.y ≤ 3
  bd : 0 ≤ s.d ∧ s.d ≤ 8
theorem DLy.of {f g : List Int} {x y d : Int} (hf : VF f) (hg : VF g) (hx : -3 ≤ x ∧ x ≤ 3) (hy : -3 ≤ y ∧ y ≤ 3) (hd : 0 ≤ d ∧ d ≤ 8) : DLy ⟨f ++ mixF orI f g, x, y, d⟩ := by
  have V := or_V hf hg
  have e1 : inkL ⟨f ++ mixF orI f g, x, y, d⟩ = f := (join_sub hf.W.len V.W.len).1
  have e2 : mskL ⟨f ++ mixF orI f g, x, y, d⟩ = mixF orI f g := (join_sub hf.W.len V.W.len).2
  refine ⟨⟨by simp [hf.W.len, V.W.len], fun n hn => ?_, ⟨by simp only []; omega, by simp only []; omega⟩, ⟨by simp only []; omega, by simp only []; omega⟩, ⟨by simp only []; omega, by simp only []; omega⟩⟩, ?_, hx, hy, hd⟩
  · rcases List.mem_append.1 hn with h | h
    · exact hf.W.ok n h
    · exact V.W.ok n h
  · unfold okLy okCel
    rw [e1, e2, hf.ok, V.ok, less_none hf V fun u v hu hv h => by rw [mix_or hf hg hu hv, h]; rfl]
    simp [in1]; omega
/-- Side by side. -/
def Adj (u v u' v' : Nat) : Prop := (v = v' ∧ (u = u' + 1 ∨ u' = u + 1)) ∨ (u = u' ∧ (v = v' + 1 ∨ v' = v + 1))
theorem Adj.symm {u v u' v' : Nat} (h : Adj u v u' v') : Adj u' v' u v := by unfold Adj at *; omega
def Dot (f : List Int) (u v : Nat) : Prop := u < 12 ∧ v < 12 ∧ hasF f u v = true
/-- What hangs together. -/
inductive Conn (f : List Int) (x y : Nat) : Nat → Nat → Prop
  | base (h : Dot f x y) : Conn f x y x y
  | step {u v u' v' : Nat} (h : Conn f x y u v) (ha : Adj u' v' u v) (hd : Dot f u' v') : Conn f x y u' v'
theorem Conn.dot {f : List Int} {x y u v : Nat} (h : Conn f x y u v) : Dot f u v := by cases h <;> assumption
theorem Conn.trans {f : List Int} {x y u v a b : Nat} (h : Conn f x y u v) (h2 : Conn f u v a b) : Conn f x y a b := by
  induction h2 with
  | base _ => exact h
  | step _ ha hd ih => exact .step ih ha hd
theorem Conn.symm {f : List Int} {x y u v : Nat} (h : Conn f x y u v) : Conn f u v x y := by
  induction h with
  | base h => exact .base h
  | step h1 ha hd ih => exact Conn.trans (.step (.base hd) ha.symm h1.dot) ih
def isDig (c : UInt8) : Bool := decide (48 ≤ c.toNat ∧ c.toNat ≤ 57)
def dval (acc : Nat) : List UInt8 → Nat
  | [] => acc
  | c :: r => dval (acc * 10 + (c.toNat - 48)) r
theorem dval_snoc {d : UInt8} : ∀ (l : List UInt8) (acc : Nat), dval acc (l ++ [d]) = dval acc l * 10 + (d.toNat - 48)
  | [], _ => rfl
  | c :: r, acc => dval_snoc r _
theorem dval_le : ∀ (l : List UInt8) (acc : Nat), acc ≤ dval acc l
  | [], _ => Nat.le_refl _
  | c :: r, acc => Nat.le_trans (by omega) (dval_le r (acc * 10 + (c.toNat - 48)))
theorem ofNat_dig {d : Nat} (h : d < 10) : (UInt8.ofNat (48 + d)).toNat = 48 + d := by
  rw [UInt8.toNat_ofNat']
  exact Nat.mod_eq_of_lt (by omega)
theorem dec_small {n : Nat} (h : n < 10) : Lib.decDigits n = [UInt8.ofNat (48 + n)] := by rw [Lib.decDigits, dif_pos h]
theorem dec_big {n : Nat} (h : ¬ n < 10) : Lib.decDigits n = Lib.decDigits (n / 10) ++ [UInt8.ofNat (48 + n % 10)] := by rw [Lib.decDigits, dif_neg h]
theorem dec_val (n : Nat) : dval 0 (Lib.decDigits n) = n := by
  induction n using Nat.strongRecOn with
  | _ n ih =>
    by_cases h : n < 10
    · rw [dec_small h]
      show 0 * 10 + ((UInt8.ofNat (48 + n)).toNat - 48) = n
      rw [ofNat_dig h]; omega
    · rw [dec_big h, dval_snoc, ih _ (by omega), ofNat_dig (by omega)]; omega
theorem dec_dig (n : Nat) : ∀ c ∈ Lib.decDigits n, isDig c = true := by
  induction n using Nat.strongRecOn with
  | _ n ih =>
    by_cases h : n < 10
    · rw [dec_small h]
      intro c hc
      rw [List.mem_singleton.1 hc]
      unfold isDig
      rw [ofNat_dig h]; simp; omega
    · rw [dec_big h]
      intro c hc
      rcases List.mem_append.1 hc with hc | hc
      · exact ih _ (by omega) c hc
      · rw [List.mem_singleton.1 hc]
        unfold isDig
        rw [ofNat_dig (by omega)]; simp; omega
theorem dec_ne (n : Nat) : Lib.decDigits n ≠ [] := by
  by_cases h : n < 10
  · rw [dec_small h]; simp
  · rw [dec_big h]; simp
/-- No zero ahead. -/
theorem dec_head {n : Nat} (hn : n ≠ 0) : ∃ c r, Lib.decDigits n = c :: r ∧ c.toNat ≠ 48 := by
  induction n using Nat.strongRecOn with
  | _ n ih =>
    by_cases h : n < 10
    · rw [dec_small h]
      exact ⟨_, _, rfl, by rw [ofNat_dig h]; omega⟩
    · obtain ⟨c, r, h1, h2⟩ := ih (n / 10) (by omega) (by omega)
      rw [dec_big h, h1]
      exact ⟨c, _, rfl, h2⟩
/-- A numeral: digits, and no zero ahead of others. -/
def okNum (l : List UInt8) : Prop := l ≠ [] ∧ (∀ c ∈ l, isDig c = true) ∧ ((∃ r, l = 48 :: r) → l = [48])
theorem okNum_dec (n : Nat) : okNum (Lib.decDigits n) := by
  refine ⟨dec_ne n, dec_dig n, fun ⟨r, h⟩ => ?_⟩
  by_cases hn : n = 0
  · subst hn; rw [dec_small (by decide)]; rfl
  · obtain ⟨c, r', h1, h2⟩ := dec_head hn
    rw [h1] at h
    cases h
    exact absurd rfl h2
theorem dig_eq {d : UInt8} (h : isDig d = true) : UInt8.ofNat (48 + (d.toNat - 48)) = d := by
  unfold isDig at h
  simp at h
  apply UInt8.toNat_inj.1
  rw [ofNat_dig (by omega)]; omega
theorem dec_of (k : Nat) : ∀ l : List UInt8, l.length = k → okNum l → l = Lib.decDigits (dval 0 l) := by
  induction k with
  | zero =>
    intro l hl h
    exact absurd (List.length_eq_zero_iff.1 hl) h.1
  | succ k ih =>
    intro l hl ⟨h0, hd, hz⟩
    obtain ⟨a, d, rfl⟩ : ∃ a d, l = a ++ [d] := ⟨_, _, (List.dropLast_concat_getLast h0).symm⟩
    rw [dval_snoc]
    have hd0 : isDig d = true := hd d (by simp)
    have hd1 : 48 ≤ d.toNat ∧ d.toNat ≤ 57 := by unfold isDig at hd0; simpa using hd0
    by_cases ha : a = []
    · subst ha
      show [d] = Lib.decDigits (0 * 10 + (d.toNat - 48))
      rw [dec_small (by omega), Nat.zero_mul, Nat.zero_add, dig_eq hd0]
    · have hoa : okNum a := by
        refine ⟨ha, fun c hc => hd c (by simp [hc]), fun ⟨r, h⟩ => ?_⟩
        have := hz ⟨r ++ [d], by rw [h]; rfl⟩
        rw [h] at this
        simp at this
      have iha := ih a (by simp at hl; omega) hoa
      have hpos : dval 0 a ≠ 0 := by
        intro h
        rw [h] at iha
        have : a = [48] := by rw [iha, dec_small (by decide)]; rfl
        have := hz ⟨[d], by rw [this]; rfl⟩
        rw [‹a = [48]›] at this
        simp at this
      rw [dec_big (by omega), show (dval 0 a * 10 + (d.toNat - 48)) / 10 = dval 0 a by omega, show (dval 0 a * 10 + (d.toNat - 48)) % 10 = d.toNat - 48 by omega, ← iha, dig_eq hd0]
/-- What the spec reads as a number. -/
def numL (l : List UInt8) : Option Nat :=
  if l = [] ∨ 10 < l.length ∨ (l.getD 0 0 = 48 ∧ 1 < l.length) then none else if l.all isDig then some (dval 0 l) else none
theorem numL_iff {l : List UInt8} {n : Nat} : numL l = some n ↔ l = Lib.decDigits n ∧ l.length ≤ 10 := by
  unfold numL
  constructor
  · intro h
    split at h
    · cases h
    · rename_i hc
      split at h
      · rename_i hd
        cases h
        refine ⟨dec_of _ l rfl ⟨fun e => hc (.inl e), fun c hm => List.all_eq_true.1 hd c hm, fun ⟨r, hr⟩ => ?_⟩, by omega⟩
        subst hr
        cases r with
        | nil => rfl
        | cons a r => exact absurd (.inr (.inr ⟨rfl, by simp⟩)) hc
      · cases h
  · rintro ⟨rfl, hl⟩
    obtain ⟨h1, h2, h3⟩ := okNum_dec n
    rw [if_neg, if_pos (List.all_eq_true.2 h2), dec_val]
    rintro (h | h | ⟨h, h'⟩)
    · exact h1 h
    · omega
    · cases hd : Lib.decDigits n with
      | nil => exact h1 hd
      | cons c r =>
        rw [hd] at h h' h3
        have : c = 48 := h
        subst this
        have := h3 ⟨r, rfl⟩
        cases this
        simp at h'
theorem parseM {M : Nat} (hM : M < 18446744073709551616) : ∀ (l : List UInt8) (acc : Nat), (∀ c ∈ l, isDig c = true) → dval acc l ≤ M → Lib.parseUintM M acc l = .ok (dval acc l)
  | [], _, _, _ => rfl
  | c :: r, acc, hd, hm => by
    have h0 : 48 ≤ c.toNat ∧ c.toNat ≤ 57 := by have := hd c (by simp); unfold isDig at this; simpa using this
    have h1 := dval_le r (acc * 10 + (c.toNat - 48))
    have h2 : dval acc (c :: r) = dval (acc * 10 + (c.toNat - 48)) r := rfl
    rw [Lib.parseUintM, if_pos h0, if_neg (by omega), if_neg (by omega), h2]
    exact parseM hM r _ (fun c hc => hd c (by simp [hc])) (by omega)
theorem parse_dec {n : Nat} (hn : n < 9223372036854775808) : Lib.parseIntB 64 (Lib.decDigits n) = .ok (n : Int) ∧ (n ≠ 0 → Lib.parseIntB 64 (45 :: Lib.decDigits n) = .ok (-(n : Int))) := by
  obtain ⟨h1, h2, _⟩ := okNum_dec n
  have hp : Lib.parseUintB 64 (Lib.decDigits n) = .ok n := by
    unfold Lib.parseUintB
    rw [if_neg h1, parseM (by decide) _ _ h2 (by rw [dec_val]; omega), dec_val]
  constructor
  · cases hd : Lib.decDigits n with
    | nil => exact absurd hd h1
    | cons c r =>
      have h0 : 48 ≤ c.toNat ∧ c.toNat ≤ 57 := by have := h2 c (by rw [hd]; simp); unfold isDig at this; simpa using this
      rw [hd] at hp
      unfold Lib.parseIntB
      dsimp only
      rw [if_neg (by omega), hp]
      dsimp only
      rw [if_neg (by rintro ⟨_, h⟩; omega), if_neg (by rintro ⟨h, _⟩; omega), if_neg (by omega)]
  · intro hne
    unfold Lib.parseIntB
    dsimp only
    rw [if_pos (by decide), hp]
    dsimp only
    rw [if_neg (by rintro ⟨h, _⟩; exact h (by decide)), if_neg (by rintro ⟨_, h⟩; omega), if_pos (by decide)]
theorem parse_itoa {v : Int} (h1 : -9223372036854775808 < v) (h2 : v ≤ 9223372036854775807) : Lib.parseIntB 64 (Lib.itoa v) = .ok v := by
  unfold Lib.itoa
  split
  · rename_i h
    rw [(parse_dec (n := v.natAbs) (by omega)).2 (by omega)]
    congr 1; omega
  · rename_i h
    rw [(parse_dec (n := v.toNat) (by omega)).1]
    congr 1; omega
/-- A numeral in its plain form, between two bounds. -/
def rdIn (l : List UInt8) (lo hi : Int) : Option Int := match Lib.parseIntB 64 l with
  | .ok v => if (lo ≤ v ∧ v ≤ hi) ∧ Lib.itoa v = l then some v else none
  | _ => none
theorem rdIn_iff {l : List UInt8} {lo hi v : Int} (h1 : -9223372036854775808 < lo) (h2 : hi ≤ 9223372036854775807) : rdIn l lo hi = some v ↔ l = Lib.itoa v ∧ lo ≤ v ∧ v ≤ hi := by
  unfold rdIn
  constructor
  · intro h
    split at h
    · split at h
      · rename_i hc
        cases h
        exact ⟨hc.2.symm, hc.1⟩
      · cases h
    · cases h
  · rintro ⟨rfl, h3, h4⟩
    rw [parse_itoa (by omega) (by omega)]
    dsimp only
    rw [if_pos ⟨⟨h3, h4⟩, rfl⟩]
/-- A sign, and a number of at most m. -/
def sgL (l : List UInt8) (m : Nat) : Option Int :=
  if 1 < l.length ∧ l.getD 0 0 = 45 then match numL (l.drop 1) with
    | some n => if n ≤ m ∧ n ≠ 0 then some (-(n : Int)) else none
    | none => none
  else match numL l with
    | some n => if n ≤ m then some (n : Int) else none
    | none => none
theorem dec_len {n : Nat} (hn : n < 10000000000) : (Lib.decDigits n).length ≤ 10 := by
  rw [Lib.decDigits_length]
  rcases Nat.eq_zero_or_pos n with h | h
  · subst h; rw [Lib.nDigits_small (by decide)]; decide
  · have key : ∀ k n, n < 10 ^ (k + 1) → Lib.nDigits n ≤ k + 1 := by
      intro k
      induction k with
      | zero => intro n hn; rw [Lib.nDigits_small (by simpa using hn)]; exact Nat.le_refl _
      | succ k ih =>
        intro n hn
        by_cases h : n < 10
        · rw [Lib.nDigits_small h]; omega
        · rw [Lib.nDigits_big h]
          have := ih (n / 10) (by rw [Nat.pow_succ] at hn; omega)
          omega
    exact key 9 n (by simpa using hn)
theorem sgL_iff {l : List UInt8} {m : Nat} {v : Int} (hm : m < 10000000000) : sgL l m = some v ↔ l = Lib.itoa v ∧ -(m : Int) ≤ v ∧ v ≤ m := by
  unfold sgL
  constructor
  · intro h
    split at h
    · rename_i hc
      split at h
      · rename_i n hn
        split at h
        · rename_i hb
          cases h
          obtain ⟨h1, _⟩ := numL_iff.1 hn
          refine ⟨?_, by omega, by omega⟩
          unfold Lib.itoa
          rw [if_pos (by omega), show (-(n : Int)).natAbs = n by omega, ← h1]
          match l, hc with
          | c :: r, hc =>
            have : c = 45 := hc.2
            subst this
            rfl
        · cases h
      · cases h
    · split at h
      · rename_i n hn
        split at h
        · cases h
          obtain ⟨h1, _⟩ := numL_iff.1 hn
          refine ⟨?_, by omega, by omega⟩
          unfold Lib.itoa
          rw [if_neg (by omega), Int.toNat_natCast, ← h1]
        · cases h
      · cases h
  · rintro ⟨rfl, h1, h2⟩
    by_cases hv : v < 0
    · have e : Lib.itoa v = 45 :: Lib.decDigits v.natAbs := by unfold Lib.itoa; rw [if_pos hv]
      have hne := List.length_pos_iff.2 (dec_ne v.natAbs)
      rw [e, if_pos ⟨by simp; omega, rfl⟩]
      have : numL (List.drop 1 (45 :: Lib.decDigits v.natAbs)) = some v.natAbs := numL_iff.2 ⟨rfl, dec_len (by omega)⟩
      rw [this]
      dsimp only
      rw [if_pos (by omega)]
      congr 1; omega
    · have e : Lib.itoa v = Lib.decDigits v.toNat := by unfold Lib.itoa; rw [if_neg hv]
      have hd := dec_dig v.toNat
      rw [e, if_neg]
      · have : numL (Lib.decDigits v.toNat) = some v.toNat := numL_iff.2 ⟨rfl, dec_len (by omega)⟩
        rw [this]
        dsimp only
        rw [if_pos (by omega)]
        congr 1; omega
      · rintro ⟨_, h⟩
        cases hl : Lib.decDigits v.toNat with
        | nil => exact dec_ne _ hl
        | cons c r =>
          rw [hl] at h hd
          have : c = 45 := h
          subst this
          have := hd 45 (by simp)
          revert this; decide
theorem sgL_rdIn {l : List UInt8} {m : Nat} (hm : m < 10000000000) : sgL l m = rdIn l (-(m : Int)) m := by
  apply Option.ext
  intro v
  rw [sgL_iff hm, rdIn_iff (by omega) (by omega)]
@[simp] theorem str_size {l : List UInt8} : (⟨l.toArray⟩ : ByteArray).size = l.length := by rw [Lib.size_eq]
@[simp] theorem lensV_s {l : List UInt8} : lensV (str l) = some (.int .i64 l.length) := by unfold str; simp
theorem eqV_s {a b : List UInt8} : eqV .s (str a) (str b) = some (decide (a = b)) := by
  show some ((⟨a.toArray⟩ : ByteArray).toList == (⟨b.toArray⟩ : ByteArray).toList) = _
  rw [Lib.toList_data, Lib.toList_data]
  show some (a == b) = _
  by_cases h : a = b
  · simp [h]
  · simp [h]
@[simp] theorem eqV_s0 {a : List UInt8} : eqV .s (str a) (.string ⟨#[]⟩) = some (decide (a = [])) := eqV_s (b := [])
theorem idxsV_s {l : List UInt8} {v : Value} {j : Nat} (h : at' l.length v = some j) : idxsV (str l) v = some (.int .u8 (l.getD j 0).toNat) := by
  show (at' (⟨l.toArray⟩ : ByteArray).size v).map _ = _
  rw [str_size, h]
  rfl
def slcsV (x : Value) (lo hi : Option Value) : Option Value := match x with
  | .string s => (bnds s.size s.size lo hi).map fun (l, h) => .string (s.extract l h)
  | _ => none
theorem ev1_slcs {cl : Cl} {n0 : Nat} {wb : Bool} {e : Env} {H : Heap} {x : Opd} {lo hi : Option Opd} : ev1 cl n0 wb e H (.slcs x lo hi) = (slcsV (x.ev e) (lo.map (·.ev e)) (hi.map (·.ev e))).map (·, H) := rfl
theorem slcsV_s {l : List UInt8} {lo hi : Option Value} {a b : Nat} (h : bnds l.length l.length lo hi = some (a, b)) : slcsV (str l) lo hi = some (str ((l.drop a).take (b - a))) := by
  show (bnds (⟨l.toArray⟩ : ByteArray).size _ lo hi).map _ = _
  rw [str_size, h]
  show some (Value.string _) = _
  rw [Lib.extract_eq]
  rfl
@[simp] theorem old0_s {n0 : Nat} {l : List UInt8} : old0 n0 (str l) = true := rfl
@[simp] theorem old1_s {n0 : Nat} {l : List UInt8} : old1 n0 (str l) = true := rfl
@[simp] theorem finish_s {n0 : Nat} {H' : Heap} {l : List UInt8} : finish n0 H' [str l] = (str l, H'.take n0) := finish_1 rfl
@[simp] theorem cellsOf_s {l : List UInt8} : cellsOf (str l) = [str l] := rfl
@[simp] theorem eqV_in : eqV .i .nilIface .nilIface = some true := rfl
@[simp] theorem eqV_is {t : TypeId} {v : Value} : eqV .i (.iface t v) .nilIface = some false := rfl
theorem call522 {pu : Bool} {n : Int} {H : Heap} (h1 : -9223372036854775808 ≤ n) (h2 : n ≤ 9223372036854775807) : Call tab pu 522 [.int .i64 n, .int .i64 10] H = some (str (Lib.itoa n), H) := by
  rw [Call_ext t522 (.inr rfl)]
  show (if -9223372036854775808 ≤ n ∧ n ≤ 9223372036854775807 then some (str (Lib.itoa n), H) else none) = _
  rw [if_pos ⟨h1, h2⟩]
theorem call379 {pu : Bool} {n : Int} {H : Heap} (h1 : -9223372036854775808 ≤ n) (h2 : n ≤ 9223372036854775807) : Call tab pu 379 [.int .i64 n] H = some (str (Lib.itoa n), H) := by
  refine Call_wp t379 (.inr rfl) rfl ?_
  simp [c379, k379, call522 h1 h2]
theorem call485 {pu : Bool} {l : List UInt8} {c : UInt8} {H : Heap} (h : l.length ≤ 1000000) : Call tab pu 485 [str l, .string ⟨#[c]⟩] H = some (slc H.length 0 0 (spl c [] l).length (spl c [] l).length, H ++ [⟨(spl c [] l).map str, 1, 0, false⟩]) := by
  rw [Call_ext t485 (.inr rfl)]
  show (if (⟨l.toArray⟩ : ByteArray).size ≤ strMax ∧ (⟨#[c]⟩ : ByteArray).size = 1 then _ else _) = _
  rw [if_pos ⟨by rw [str_size]; exact h, rfl⟩]
  simp
theorem call377 {pu : Bool} {l : List UInt8} {c : UInt8} {H : Heap} (h : l.length ≤ 1000000) : Call tab pu 377 [str l, .string ⟨#[c]⟩] H = some (tup [str (cutc c l).1, str (cutc c l).2.1, .bool (cutc c l).2.2], H) := by
  rw [Call_ext t377 (.inr rfl)]
  show (if (⟨l.toArray⟩ : ByteArray).size ≤ strMax ∧ (⟨#[c]⟩ : ByteArray).size = 1 then _ else _) = _
  rw [if_pos ⟨by rw [str_size]; exact h, rfl⟩]
  simp
theorem call521 {pu : Bool} {l : List UInt8} {H : Heap} (h : l.length ≤ 1000000) : Call tab pu 521 [str l, .int .i64 10, .int .i64 64] H =
    some (match Lib.parseIntB 64 l with
      | .ok v => tup [.int .i64 v, .nilIface]
      | .range => tup [.int .i64 (Lib.intSat 64 l), .iface 0 .nilIface]
      | _ => tup [.int .i64 0, .iface 0 .nilIface], H) := by
  rw [Call_ext t521 (.inr rfl)]
  show (if (⟨l.toArray⟩ : ByteArray).size ≤ strMax then _ else _) = _
  rw [if_pos (by rw [str_size]; exact h)]
  show (match Lib.parseIntB 64 l.toArray.toList with
      | .ok v => some (tup [.int .i64 v, .nilIface], H)
      | .range => some (tup [.int .i64 (Lib.intSat 64 l.toArray.toList), .iface 0 .nilIface], H)
      | _ => some (tup [.int .i64 0, .iface 0 .nilIface], H)) = _
  rw [List.toList_toArray]
  cases Lib.parseIntB 64 l <;> rfl
/-- A decimal is read. -/
theorem call378 {pu : Bool} {l : List UInt8} {lo hi : Int} {H : Heap} (h : l.length ≤ 1000000) (h1 : -9223372036854775808 < lo) (h2 : hi ≤ 9223372036854775807) :
    ∃ v, Call tab pu 378 [str l, .int .i64 lo, .int .i64 hi] H = some (tup [.int .i64 v, .bool (rdIn l lo hi).isSome], H) ∧ ∀ u, rdIn l lo hi = some u → v = u := by
  have h5 := call521 (pu := false) (H := H) h
  rcases hp : Lib.parseIntB 64 l with v | _ | _
  · refine ⟨v, Call_wp t378 (.inr rfl) rfl ?_, fun u hu => ?_⟩
    · rw [hp] at h5
      dsimp only at h5
      by_cases hc : lo ≤ v ∧ v ≤ hi
      · have h6 := call379 (pu := true) (n := v) (H := H) (by omega) (by omega)
        have e : (rdIn l lo hi).isSome = decide (Lib.itoa v = l) := by
          unfold rdIn
          rw [hp]
          dsimp only
          by_cases hi : Lib.itoa v = l
          · rw [if_pos ⟨hc, hi⟩]; simp [hi]
          · rw [if_neg (fun h => hi h.2)]; simp [hi]
        simp [c378, k378, h5, call295, hc, h6, eqV_s, e, skip]
      · have e : (rdIn l lo hi).isSome = false := by
          unfold rdIn
          rw [hp]
          dsimp only
          rw [if_neg (fun h => hc h.1)]; rfl
        have hc' : decide (lo ≤ v ∧ v ≤ hi) = false := decide_eq_false hc
        simp [c378, k378, h5, call295, hc', e, skip]
    · unfold rdIn at hu
      rw [hp] at hu
      dsimp only at hu
      split at hu
      · cases hu; rfl
      · cases hu
  · refine ⟨0, Call_wp t378 (.inr rfl) rfl ?_, fun u hu => ?_⟩
    · have e : (rdIn l lo hi).isSome = false := by unfold rdIn; rw [hp]; rfl
      rw [hp] at h5
      simp [c378, k378, h5, e, skip]
    · unfold rdIn at hu
      rw [hp] at hu
      cases hu
  · refine ⟨Lib.intSat 64 l, Call_wp t378 (.inr rfl) rfl ?_, fun u hu => ?_⟩
    · have e : (rdIn l lo hi).isSome = false := by unfold rdIn; rw [hp]; rfl
      rw [hp] at h5
      simp [c378, k378, h5, e, skip]
    · unfold rdIn at hu
      rw [hp] at hu
      cases hu
theorem spl_len (c : UInt8) : ∀ (l cur : List UInt8), ∀ p ∈ spl c cur l, p.length ≤ cur.length + l.length
  | [], cur, p, hp => by
    have : p = cur := by simpa [spl] using hp
    subst this; simp
  | x :: r, cur, p, hp => by
    rw [spl] at hp
    split at hp
    · rcases List.mem_cons.1 hp with h | h
      · subst h; simp
      · have := spl_len c r [] p h
        simp at this ⊢; omega
    · have := spl_len c r _ p hp
      simp at this ⊢; omega
theorem spl_count (c : UInt8) : ∀ (l cur : List UInt8), (spl c cur l).length ≤ l.length + 1
  | [], cur => by simp [spl]
  | x :: r, cur => by
    rw [spl]
    split
    · have := spl_count c r []
      simp; omega
    · have := spl_count c r (cur ++ [x])
      simp; omega
theorem spl_two (c : UInt8) : ∀ (l cur : List UInt8), (∀ p ∈ spl c cur l, p ≠ []) → 2 * (spl c cur l).length ≤ l.length + cur.length + 1
  | [], cur, h => by
    have := h cur (by simp [spl])
    have := List.length_pos_iff.2 this
    simp [spl]; omega
  | x :: r, cur, h => by
    rw [spl] at h ⊢
    split
    · rename_i hx
      rw [if_pos hx] at h
      have h1 := List.length_pos_iff.2 (h cur (by simp))
      have := spl_two c r [] fun p hp => h p (by simp [hp])
      simp at this ⊢; omega
    · rename_i hx
      rw [if_neg hx] at h
      have := spl_two c r _ h
      simp at this ⊢; omega
/-- The words of a text. -/
def wordsL (l : List UInt8) : List (List UInt8) := if l = [] then [] else spl 32 [] l
theorem strs_ref {l : List (List UInt8)} : NoRef (l.map str) := fun v hv => by
  obtain ⟨s, _, rfl⟩ := List.mem_map.1 hv
  exact fun n => rfl
theorem call376 {pu : Bool} {l : List UInt8} {H : Heap} (h : l.length ≤ 1000000) : ∃ x L, Call tab pu 376 [str l] H = some (x, H ++ L) ∧ SlR (H ++ L) x 1 (wordsL l).length ((wordsL l).map str) := by
  by_cases h0 : l = []
  · refine ⟨.slice none 0 0, [], Call_wp t376 (.inr rfl) rfl ?_, ?_⟩
    · subst h0
      simp [c376, k376]
    · subst h0
      exact .of rfl (.inl ⟨rfl, rfl⟩)
  · have hg : Gr H (H ++ [⟨(spl 32 [] l).map str, 1, 0, false⟩]) (slc H.length 0 0 (spl 32 [] l).length (spl 32 [] l).length) 1 (spl 32 [] l).length ((spl 32 [] l).map str) :=
      ⟨_, _, rfl, get_last, Nat.le_refl _, by simp, Pre.one⟩
    refine ⟨slc H.length 0 0 (spl 32 [] l).length (spl 32 [] l).length, [⟨(spl 32 [] l).map str, 1, 0, false⟩], Call_wp t376 (.inr rfl) rfl ?_, ?_⟩
    rotate_left
    · unfold wordsL
      rw [if_neg h0]
      exact hg.sl
    · have hfin := hg.fin strs_ref
      simp [c376, k376, h0, call485 h, hfin]
theorem call481 {pu : Bool} {l : List UInt8} {c : UInt8} {H : Heap} (h : l.length ≤ 1000000) :
    Call tab pu 481 [str l, .int .u8 c.toNat] H = some (slc H.length 0 0 (spl c [] l).length (spl c [] l).length, H ++ [⟨(spl c [] l).map str, 1, 0, false⟩]) := by
  refine Call_wp t481 (.inr rfl) rfl ?_
  simp [c481, k481, fill, rep]
  refine WP_count 7 l.length l.length rfl (fun i e G => e 0 = str l ∧ e 1 = .int .u8 c.toNat ∧ ∃ (done : List (List UInt8)) (cur : List UInt8) (j : Nat), j + cur.length = i ∧ cur = (l.drop j).take (i - j) ∧ spl c [] l = done ++ spl c cur (l.drop i) ∧ done.length ≤ i ∧ e 6 = .int .i64 (j : Int) ∧
    ∃ g, e 5 = g ∧ Gr H G g 1 done.length (done.map str)) (by omega) ?_ ?_ (by simp) ⟨by simp, by simp, [], [], 0, rfl, by simp, by simp, Nat.le_refl _, by simp, _, by simp, Gr.new .refl⟩
  · rintro i e G _ hi hii e4 h7 ⟨h0, h1, done, cur, j, hj, hcur, hs, hd, h6, g, h5, hg⟩
    have hx : l.drop i = l.getD i 0 :: l.drop (i + 1) := by
      rw [List.drop_eq_getElem_cons hi]
      simp [hi]
    have q := idxsV_s (l := l) (v := .int .i64 i) (j := i) (at_nat hi)
    have hl : l[i]? = some (l.getD i 0) := by simp [hi]
    obtain ⟨y, hy⟩ : ∃ y, y = l.getD i 0 := ⟨_, rfl⟩
    rw [← hy] at hx q hl
    rw [hx, spl] at hs
    by_cases hc : y = c
    · have hb : bnds l.length l.length (some (.int .i64 (j : Int))) (some (.int .i64 (i : Int))) = some (j, i) := by
        simp only [bnds, bnd]
        rw [if_pos (by omega)]
        simp only [Option.map_some, Option.bind_some, Int.toNat_natCast]
        rw [if_pos (by omega)]
        simp
      have sl := slcsV_s hb
      rw [← hcur] at sl
      rw [if_pos hc] at hs
      subst hc
      have hf1 := fill_one (z := [.string ⟨#[]⟩]) (v := str cur) (esz := 1) rfl rfl
      obtain ⟨g', G', hpush, hg'⟩ := hg.push (c := [str cur]) (bytes := 16) rfl (by unfold roomMax; omega) (wb := false)
      simp [b481_1, h7, h0, h1, h6, h5, hii, ev1_idxs, q, ev1_slcs, sl, hf1, hpush, wbOf, e4]
      refine ⟨done ++ [cur], [], i + 1, rfl, by simp, by simp [hs], by simp; omega, by simp, ?_⟩
      simpa using hg'
    · rw [if_neg hc] at hs
      have hq : ¬ ((y.toNat : Int) = c.toNat) := fun h => hc (UInt8.toNat_inj.1 (by omega))
      have hq' : ((y.toNat : Int) == c.toNat) = false := by simpa using hq
      simp [b481_1, h7, h0, h1, h6, h5, hii, ev1_idxs, q, hq', wbOf, e4]
      refine ⟨done, cur ++ [y], j, by simp; omega, ?_, hs, by omega, rfl, hg⟩
      rw [show i + 1 - j = (i - j) + 1 by omega, List.take_add_one, ← hcur]
      congr 1
      rw [List.getElem?_drop, show j + (i - j) = i by omega, hl]
      rfl
  · rintro e G _ h7 ⟨h0, h1, done, cur, j, hj, hcur, hs, hd, h6, g, h5, hg⟩
    have hb : bnds l.length l.length (some (.int .i64 (j : Int))) none = some (j, l.length) := by
      simp only [bnds, bnd]
      rw [if_pos (by omega)]
      simp
    have sl := slcsV_s hb
    rw [← hcur] at sl
    have hf1 := fill_one (z := [.string ⟨#[]⟩]) (v := str cur) (esz := 1) rfl rfl
    obtain ⟨g', G', hpush, hg'⟩ := hg.push (c := [str cur]) (bytes := 16) rfl (by unfold roomMax; omega) (wb := false)
    rw [List.drop_length] at hs
    have e1 : done.map str ++ [str cur] = (spl c [] l).map str := by rw [hs]; simp [spl]
    have e2 : done.length + 1 = (spl c [] l).length := by rw [hs]; simp [spl]
    rw [e1, e2] at hg'
    have hfin := hg'.fin strs_ref
    simp [b481_1, h7, h0, h1, h6, h5, ev1_slcs, sl, hf1, hpush, wbOf, hfin]
theorem dval_lt : ∀ (l : List UInt8) (acc m : Nat), (∀ c ∈ l, isDig c = true) → acc < m → dval acc l < m * 10 ^ l.length := by
  intro l
  induction l with
  | nil =>
    intro acc m _ h
    show acc < m * 1
    omega
  | cons c r ih =>
    intro acc m h hm
    have h0 : 48 ≤ c.toNat ∧ c.toNat ≤ 57 := by have := h c (by simp); unfold isDig at this; simpa using this
    have h1 := ih (acc * 10 + (c.toNat - 48)) (m * 10) (fun c hc => h c (by simp [hc])) (by omega)
    rw [List.length_cons, Nat.pow_succ, Nat.mul_comm (10 ^ r.length), ← Nat.mul_assoc]
    exact h1
theorem take_snoc {l : List UInt8} {i : Nat} (hi : i < l.length) : l.take (i + 1) = l.take i ++ [l.getD i 0] := by
  rw [List.take_add_one]
  simp [hi]
theorem call484 {pu : Bool} {l : List UInt8} {H : Heap} : Call tab pu 484 [str l] H = some (match numL l with
    | some n => tup [.int .i64 n, .bool true]
    | none => tup [.int .i64 0, .bool false], H) := by
  refine Call_wp t484 (.inr rfl) rfl ?_
  by_cases h0 : l = []
  · have e : numL l = none := by rw [numL, if_pos (.inl h0)]
    simp [c484, k484, h0, numL, skip]
  · have hne := List.length_pos_iff.2 h0
    have q := idxsV_s (l := l) (v := .int .i64 0) (j := 0) (by simp [at', hne])
    have q48 : (((l.getD 0 0).toNat : Int) == 48) = decide (l.getD 0 0 = 48) := by
      by_cases h : l.getD 0 0 = 48
      · rw [h]; rfl
      · have : ¬ (l.getD 0 0).toNat = 48 := fun e => h (UInt8.toNat_inj.1 e)
        rw [decide_eq_false h]
        exact beq_eq_false_iff_ne.2 (by omega)
    obtain ⟨y, hy⟩ : ∃ y, y = l.getD 0 0 := ⟨_, rfl⟩
    by_cases h1 : 10 < l.length
    · have e : numL l = none := by rw [numL, if_pos (.inr (.inl h1))]
      have g1 : (10 : Int) < l.length := by omega
      simp [c484, k484, h0, g1, e, skip]
    · have g1 : ¬ (10 : Int) < l.length := by omega
      rw [← hy] at q q48
      by_cases h2 : l.getD 0 0 = 48 ∧ 1 < l.length
      · have e : numL l = none := by rw [numL, if_pos (.inr (.inr h2))]
        have g2 : (1 : Int) < l.length := by omega
        have h21 : y = 48 := hy.trans h2.1
        simp [c484, k484, h0, g1, ev1_idxs, q, q48, h21, g2, e, skip]
      · have hnum : numL l = if l.all isDig then some (dval 0 l) else none := by
          rw [numL, if_neg]
          rintro (h | h | h)
          · exact h0 h
          · exact h1 h
          · exact h2 h
        have hl : WK tab H.length (wbOf .pure) (.loop b484_1) [.blk 0, .seq (.seq (.reg [2, 3] [⟨none, (some 47), .mov (.t 4), []⟩, ⟨none, (some 2), .mov (.t 47), []⟩, ⟨none, (some 3), .mov (.c (.bool true)), []⟩]) .ret)]
            (upd (upd (upd (upd (upd (ini [str l]) 3 (.bool false)) 2 (.int .i64 0)) 22 (.bool false)) 4 (.int .i64 0)) 5 (.int .i64 0)) H fun x e' H' => (∀ i : Nat, ¬ x = Ex.exit i) ∧ finish H.length H' [e' 2, e' 3] = (match numL l with
              | some n => tup [.int .i64 n, .bool true]
              | none => tup [.int .i64 0, .bool false], H) := by
          refine WP_forH 5 l.length l.length rfl (by omega) (fun i e => e 0 = str l ∧ (∀ c ∈ l.take i, isDig c = true) ∧ e 4 = .int .i64 (dval 0 (l.take i) : Nat)) ?_ ?_ (by simp) ⟨by simp, by simp, by simp; rfl⟩
          · rintro i e hi hii e4 h5 ⟨h0', hd, h4⟩
            have q := idxsV_s (l := l) (v := .int .i64 i) (j := i) (at_nat hi)
            have ht := take_snoc hi
            have hm : l.getD i 0 ∈ l := by simp [hi]
            obtain ⟨y, hy⟩ : ∃ y, y = l.getD i 0 := ⟨_, rfl⟩
            rw [← hy] at q ht hm
            have hb := dval_lt (l.take i) 0 1 hd (by decide)
            have hb2 : 1 * 10 ^ (l.take i).length ≤ 10 ^ 10 := by rw [Nat.one_mul]; exact Nat.pow_le_pow_right (by decide) (by simp; omega)
            obtain ⟨D, hD⟩ : ∃ D, D = dval 0 (l.take i) := ⟨_, rfl⟩
            rw [← hD] at hb h4
            have hb3 : D < 10000000000 := by omega
            by_cases hlo : (y.toNat : Int) < 48
            · have hn : numL l = none := by
                rw [hnum, if_neg]
                intro h
                have := List.all_eq_true.1 h y hm
                unfold isDig at this
                simp at this; omega
              simp [b484_1, h5, h0', hii, ev1_idxs, q, hlo, hn, skip]
            · by_cases hhi : (57 : Int) < y.toNat
              · have hn : numL l = none := by
                  rw [hnum, if_neg]
                  intro h
                  have := List.all_eq_true.1 h y hm
                  unfold isDig at this
                  simp at this; omega
                simp [b484_1, h5, h0', hii, ev1_idxs, q, hlo, hhi, hn, skip]
              · have hdy : isDig y = true := by unfold isDig; simp; omega
                have w1 : IntKind.wrap .u8 ((y.toNat : Int) - 48) = ((y.toNat - 48 : Nat) : Int) := by rw [wrapu8 (by omega)]; omega
                have w2 : IntKind.wrap .i64 ((y.toNat - 48 : Nat) : Int) = ((y.toNat - 48 : Nat) : Int) := wrap64 (by have := y.toNat_lt; omega)
                have w3 : IntKind.wrap .i64 (10 * (D : Int)) = 10 * D := wrap64 (by omega)
                have w4 : IntKind.wrap .i64 (10 * (D : Int) + ((y.toNat - 48 : Nat) : Int)) = (dval 0 (l.take (i + 1)) : Nat) := by
                  rw [wrap64 (by have := y.toNat_lt; omega), ht, dval_snoc, ← hD]; omega
                simp [b484_1, h5, h0', h4, hii, ev1_idxs, q, hlo, hhi, w1, w2, w3, w4, e4, skip]
                intro c hc
                rw [ht] at hc
                rcases List.mem_append.1 hc with hc | hc
                · exact hd c hc
                · rw [List.mem_singleton.1 hc]; exact hdy
          · rintro e h5 ⟨h0', hd, h4⟩
            rw [List.take_length] at hd h4
            have hn : numL l = some (dval 0 l) := by rw [hnum, if_pos (List.all_eq_true.2 hd)]
            simp [b484_1, h5, h0', h4, hn]
        have hh : (decide (y = 48) && decide ((1 : Int) < l.length)) = false := by
          rw [Bool.and_eq_false_iff]
          by_cases hy48 : y = 48
          · exact .inr (decide_eq_false fun h => h2 ⟨hy ▸ hy48, by omega⟩)
          · exact .inl (decide_eq_false hy48)
        by_cases hy48 : y = 48
        · have g2 : ¬ (1 : Int) < l.length := fun h => h2 ⟨hy ▸ hy48, by omega⟩
          simp [c484, k484, h0, g1, ev1_idxs, q, q48, hy48, g2, skip]
          exact hl
        · simp [c484, k484, h0, g1, ev1_idxs, q, q48, hy48, skip]
          exact hl
theorem SlR.keepE {e esz n : Nat} {G G' : Heap} {x : Value} {vs : List Value} (h : SlR G x esz n vs) (k : KeepE e G G') (he : e ≠ esz) : SlR G' x esz n vs := by
  refine ⟨h.size, h.is.imp id fun ⟨b, off, ver, cap, h1, h2, h3, q, h4, h5, h6⟩ => ⟨b, off, ver, cap, h1, h2, ?_, q, k b q h4 (by omega), h5, h6⟩⟩
  unfold rd at h3 ⊢
  rw [h4] at h3
  rw [k b q h4 (by omega)]
  exact h3
theorem GrB.pushE {H G : Heap} {b : Nat} {x : Value} {esz n bytes : Nat} {vs c : List Value} (g : GrB H G b x esz n vs) (hc : c.length = esz) (hb : (n + 1) * bytes ≤ roomMax) {wb : Bool} :
    ∃ x' G', ((srcOf esz (G ++ [⟨c, esz, 0, false⟩]) (slc G.length 0 0 1 1)).bind fun q => appendTo H.length wb esz bytes (G ++ [⟨c, esz, 0, false⟩]) x q.1 q.2) = some (x', G') ∧ GrB H G' b x' esz (n + 1) (vs ++ c) ∧ KeepE esz G G' := by
  obtain ⟨x', G', h1, h2, h3⟩ := g.push hc hb (wb := wb)
  refine ⟨x', G', h1, h2, fun c k hk hne => ?_⟩
  obtain ⟨ver, _, g2, _⟩ := g
  have hcb : c ≠ b := fun e => by
    subst e
    rw [g2] at hk
    cases hk
    exact hne rfl
  rw [h3 c hcb (List.getElem?_eq_some_iff.1 hk).1]
  exact hk
theorem strs_get {G : Heap} {x : Value} {l : List (List UInt8)} (h : SlR G x 1 l.length (l.map str)) {i : Nat} (hi : i < l.length) :
    ∃ b off ver, idxAV 1 x (.int .i64 (i : Int)) = some (adr b off ver) ∧ rd G b off ver 1 = some [str (l.getD i [])] := by
  obtain ⟨b, off, ver, h1, h2⟩ := h.get1 hi
  refine ⟨b, off, ver, h1, ?_⟩
  rw [h2]
  unfold elem
  rw [Nat.mul_one]
  congr 1
  have : (l.map str).drop i = str (l.getD i []) :: (l.map str).drop (i + 1) := by
    rw [List.drop_eq_getElem_cons (by simpa using hi)]
    simp [hi]
  rw [this]; rfl
theorem call482 {pu : Bool} {l : List UInt8} {H : Heap} (hl : l.length ≤ 1000000) : Call tab pu 482 [str l] H = some (match sgL l 12 with
    | some v => tup [.int .i8 v, .bool true]
    | none => tup [.int .i8 0, .bool false], H) := by
  refine Call_wp t482 (.inr rfl) rfl ?_
  by_cases h1 : 1 < l.length
  · have g1 : (1 : Int) < l.length := by omega
    have q := idxsV_s (l := l) (v := .int .i64 0) (j := 0) (by show (if _ then _ else _) = _; rw [if_pos (by omega)]; rfl)
    have q45 : (((l.getD 0 0).toNat : Int) == 45) = decide (l.getD 0 0 = 45) := by
      by_cases h : l.getD 0 0 = 45
      · rw [h]; rfl
      · have : ¬ (l.getD 0 0).toNat = 45 := fun e => h (UInt8.toNat_inj.1 e)
        rw [decide_eq_false h]
        exact beq_eq_false_iff_ne.2 (by omega)
    have sl := slcsV_s (l := l) (lo := some (.int .i64 1)) (hi := none) (a := 1) (b := l.length) (by simp only [bnds, bnd]; rw [if_pos (by omega)]; rfl)
    rw [List.take_of_length_le (by simp)] at sl
    have hsg : sgL l 12 = if l.getD 0 0 = 45 then (match numL (l.drop 1) with
        | some n => if n ≤ 12 ∧ n ≠ 0 then some (-(n : Int)) else none
        | none => none) else (match numL l with
        | some n => if n ≤ 12 then some (n : Int) else none
        | none => none) := by
      unfold sgL
      by_cases h : l.getD 0 0 = 45
      · rw [if_pos ⟨h1, h⟩, if_pos h] <;> (cases numL (l.drop 1) <;> rfl)
      · rw [if_neg (fun e => h e.2), if_neg h] <;> (cases numL l <;> rfl)
    obtain ⟨y, hy⟩ : ∃ y, y = l.getD 0 0 := ⟨_, rfl⟩
    rw [← hy] at q q45 hsg
    by_cases hy45 : y = 45
    · rw [if_pos hy45] at hsg
      have h484 := call484 (pu := true) (l := l.drop 1) (H := H)
      rw [hsg]
      cases hn : numL (l.drop 1) with
      | none =>
        rw [hn] at h484
        dsimp only at h484 ⊢
        simp [c482, k482, g1, ev1_idxs, q, q45, hy45, ev1_slcs, sl, h484, skip, -List.drop_one]
      | some n =>
        rw [hn] at h484
        dsimp only at h484 ⊢
        by_cases h12 : n ≤ 12
        · have g2 : ¬ (12 : Int) < n := by omega
          by_cases h0 : n = 0
          · subst h0
            simp [c482, k482, g1, ev1_idxs, q, q45, hy45, ev1_slcs, sl, h484, skip, -List.drop_one]
          · have g3 : ((n : Int) == 0) = false := beq_eq_false_iff_ne.2 (by omega)
            have w1 : IntKind.wrap .i64 (-(n : Int)) = -(n : Int) := wrap64 (by omega)
            have w2 : IntKind.wrap .i8 (-(n : Int)) = -(n : Int) := wrap8 (by omega)
            rw [if_pos ⟨h12, h0⟩]
            simp [c482, k482, g1, ev1_idxs, q, q45, hy45, ev1_slcs, sl, h484, g2, g3, h0, w1, w2, skip, -List.drop_one]
        · have g2 : (12 : Int) < n := by omega
          rw [if_neg (fun h => h12 h.1)]
          simp [c482, k482, g1, ev1_idxs, q, q45, hy45, ev1_slcs, sl, h484, g2, skip, -List.drop_one]
    · rw [if_neg hy45] at hsg
      have h484 := call484 (pu := true) (l := l) (H := H)
      rw [hsg]
      cases hn : numL l with
      | none =>
        rw [hn] at h484
        dsimp only at h484 ⊢
        simp [c482, k482, g1, ev1_idxs, q, q45, hy45, h484, skip]
      | some n =>
        rw [hn] at h484
        dsimp only at h484 ⊢
        by_cases h12 : n ≤ 12
        · have g2 : ¬ (12 : Int) < n := by omega
          have w2 : IntKind.wrap .i8 (n : Int) = (n : Int) := wrap8 (by omega)
          rw [if_pos h12]
          simp [c482, k482, g1, ev1_idxs, q, q45, hy45, h484, g2, w2, skip]
        · have g2 : (12 : Int) < n := by omega
          rw [if_neg h12]
          simp [c482, k482, g1, ev1_idxs, q, q45, hy45, h484, g2, skip]
  · have g1 : ¬ (1 : Int) < l.length := by omega
    have h484 := call484 (pu := true) (l := l) (H := H)
    have hsg : sgL l 12 = (match numL l with
        | some n => if n ≤ 12 then some (n : Int) else none
        | none => none) := by
      unfold sgL
      rw [if_neg (fun e => h1 e.1)] <;> (cases numL l <;> rfl)
    rw [hsg]
    cases hn : numL l with
    | none =>
      rw [hn] at h484
      dsimp only at h484 ⊢
      simp [c482, k482, g1, h484, skip]
    | some n =>
      rw [hn] at h484
      dsimp only at h484 ⊢
      by_cases h12 : n ≤ 12
      · have g2 : ¬ (12 : Int) < n := by omega
        have w2 : IntKind.wrap .i8 (n : Int) = (n : Int) := wrap8 (by omega)
        rw [if_pos h12]
        simp [c482, k482, g1, h484, g2, w2, skip]
      · have g2 : (12 : Int) < n := by omega
        rw [if_neg h12]
        simp [c482, k482, g1, h484, g2, skip]
theorem cut_spl (c : UInt8) : ∀ (l cur : List UInt8), ((cutc c l).2.2 = false ∧ spl c cur l = [cur ++ l]) ∨ ((cutc c l).2.2 = true ∧ c ∈ l ∧ spl c cur l = (cur ++ (cutc c l).1) :: spl c [] (cutc c l).2.1)
  | [], cur => .inl ⟨rfl, by simp [spl]⟩
  | x :: r, cur => by
    rw [cutc, spl]
    by_cases h : x = c
    · rw [if_pos h, if_pos h]
      exact .inr ⟨rfl, by simp [h], by simp⟩
    · rw [if_neg h, if_neg h]
      rcases cut_spl c r (cur ++ [x]) with ⟨h1, h2⟩ | ⟨h1, h2, h3⟩
      · exact .inl ⟨h1, by rw [h2]; simp⟩
      · exact .inr ⟨h1, by simp [h2], by rw [h3]; simp⟩
theorem itoa_chars {v : Int} : ∀ c ∈ Lib.itoa v, isDig c = true ∨ c = 45 := by
  intro c hc
  unfold Lib.itoa at hc
  split at hc
  · rcases List.mem_cons.1 hc with h | h
    · exact .inr h
    · exact .inl (dec_dig _ c h)
  · exact .inl (dec_dig _ c hc)
theorem rdIn_no {l : List UInt8} {lo hi v : Int} {c : UInt8} (h1 : -9223372036854775808 < lo) (h2 : hi ≤ 9223372036854775807) (h : rdIn l lo hi = some v) (hc : isDig c = false) (hc2 : c ≠ 45) : c ∉ l := by
  intro hm
  rw [((rdIn_iff h1 h2).1 h).1] at hm
  rcases itoa_chars c hm with h | h
  · rw [hc] at h; cases h
  · exact hc2 h
/-- A move out of a word. -/
def mv2 (a b : Option Int) : Option (Int × Int) := match a, b with
  | some u, some v => some (u, v)
  | _, _ => none
def mvI (w : List UInt8) : Option (Int × Int) := if (cutc 47 w).2.2 = true then mv2 (rdIn (cutc 47 w).1 (-12) 12) (rdIn (cutc 47 w).2.1 (-12) 12) else none
theorem mvI_nil : mvI [] = none := rfl
theorem mvI_two {w p q : List UInt8} (h : spl 47 [] w = [p, q]) : mvI w = mv2 (sgL p 12) (sgL q 12) := by
  rw [sgL_rdIn (by decide), sgL_rdIn (by decide)]
  unfold mvI
  rcases cut_spl 47 w [] with ⟨h1, h2⟩ | ⟨h1, _, h2⟩
  · rw [h2] at h; cases h
  · rw [if_pos h1]
    rw [h2] at h
    rcases cut_spl 47 (cutc 47 w).2.1 [] with ⟨_, h3⟩ | ⟨_, _, h3⟩
    · rw [h3] at h
      cases h
      rfl
    · rw [h3] at h
      simp only [List.cons.injEq] at h
      exact absurd h.2.2 (spl_ne _ _ _)
theorem mvI_not {w : List UInt8} (h : (spl 47 [] w).length ≠ 2) : mvI w = none := by
  unfold mvI
  rcases cut_spl 47 w [] with ⟨h1, h2⟩ | ⟨h1, _, h2⟩
  · rw [if_neg (by rw [h1]; decide)]
  · rw [if_pos h1]
    rcases cut_spl 47 (cutc 47 w).2.1 [] with ⟨_, h3⟩ | ⟨_, h4, h3⟩
    · rw [h2, h3] at h
      exact absurd rfl h
    · cases hb : rdIn (cutc 47 w).2.1 (-12) 12 with
      | none => unfold mv2; split <;> simp_all
      | some v => exact absurd h4 (rdIn_no (by decide) (by decide) hb (by decide) (by decide))
def rmOk (l : List UInt8) : Bool := (wordsL l).all fun w => (mvI w).isSome
def mvD (w : List UInt8) : Int × Int := (mvI w).getD (0, 0)
def rmV (l : List UInt8) : ML := if rmOk l = true then (wordsL l).map mvD else []
def rmC (l : List UInt8) : Int := if rmOk l = true then 0 else 5
theorem rmV_len {l : List UInt8} : 2 * (rmV l).length ≤ l.length + 1 := by
  unfold rmV
  split
  · rename_i h
    rw [List.length_map]
    unfold rmOk at h
    unfold wordsL at h ⊢
    split
    · simp
    · rename_i h0
      rw [if_neg h0] at h
      have := spl_two 32 l [] fun p hp hn => by
        have := List.all_eq_true.1 h p hp
        rw [hn, mvI_nil] at this
        cases this
      simpa using this
  · simp
theorem words_len {l : List UInt8} : (wordsL l).length ≤ l.length + 1 := by
  unfold wordsL
  split
  · simp
  · exact spl_count 32 l []
theorem words_at {l : List UInt8} {i : Nat} (hi : i < (wordsL l).length) : (wordsL l).getD i [] ∈ wordsL l ∧ ((wordsL l).getD i []).length ≤ l.length := by
  have hm : (wordsL l).getD i [] ∈ wordsL l := by simp [hi]
  refine ⟨hm, ?_⟩
  generalize (wordsL l).getD i [] = w at hm
  unfold wordsL at hm
  split at hm
  · cases hm
  · simpa using spl_len 32 l [] w hm
theorem cut_len (c : UInt8) : ∀ l : List UInt8, (cutc c l).1.length ≤ l.length ∧ (cutc c l).2.1.length ≤ l.length
  | [] => ⟨Nat.le_refl _, Nat.le_refl _⟩
  | x :: r => by
    have := cut_len c r
    rw [cutc]
    split
    · simp
    · simp; omega
theorem call153 {pu : Bool} {l : List UInt8} (hl : l.length ≤ 1000000) {H : Heap} :
    ∃ r G' β, Call tab pu 153 [str l] H = some (tup [r, .int .i64 (rmC l)], G') ∧ Pre H G' ∧ Own G' r β H.length 2 (rmV l).length (mvsC (rmV l)) := by
  obtain ⟨G1, hG1⟩ : ∃ G1, G1 = H ++ [(⟨[], 2, 0, false⟩ : Blk)] := ⟨_, rfl⟩
  have p1 : Pre H G1 := by rw [hG1]; exact Pre.one
  obtain ⟨x, L, h376, hx⟩ := call376 (pu := true) (H := G1) hl
  have hg0 : GrB H (G1 ++ L) H.length (slc H.length 0 0 0 0) 2 0 [] := ⟨0, rfl, by rw [List.getElem?_append_left (by rw [hG1]; simp), hG1]; exact get_last, Nat.le_refl _, rfl, p1.app⟩
  have hwl := words_len (l := l)
  obtain ⟨R, hR⟩ : ∃ R : Value × Heap × Option Nat, R = if rmOk l = true then (slc H.length 0 0 (rmV l).length (rmV l).length, H ++ [⟨mvsC (rmV l), 2, 0, false⟩], some H.length) else (.slice none 0 0, H, none) := ⟨_, rfl⟩
  refine ⟨R.1, R.2.1, R.2.2, Call_wp t153 (.inr rfl) rfl ?_, ?_⟩
  rotate_left
  · rw [hR]
    split
    · exact ⟨Pre.one, own_new mvsC_length⟩
    · rename_i h
      rw [rmV, if_neg h]
      exact ⟨.refl, own_nil⟩
  simp [c153, k153, fill, rep, ← hG1, h376, hx.lenV]
  refine WP_count 18 (wordsL l).length (wordsL l).length rfl (fun i e G => e 16 = x ∧ e 17 = .int .i64 (wordsL l).length ∧ SlR G x 1 (wordsL l).length ((wordsL l).map str) ∧ (∀ w ∈ (wordsL l).take i, (mvI w).isSome = true) ∧
    ∃ g, e 4 = g ∧ GrB H G H.length g 2 i (mvsC (((wordsL l).take i).map mvD))) (by omega) ?_ ?_ (by simp) ⟨by simp, by simp, hx, by simp, slc H.length 0 0 0 0, by simp, hg0⟩
  · rintro i e G _ hi hii e4 h18 ⟨h16, h17, hs, hall, g, h4, hg⟩
    obtain ⟨b, off, ver, ha, hr⟩ := strs_get hs hi
    obtain ⟨hm, hwlen⟩ := words_at hi
    have htk : (wordsL l).take (i + 1) = (wordsL l).take i ++ [(wordsL l).getD i []] := by
      rw [List.take_add_one]
      simp [hi]
    obtain ⟨w, hw⟩ : ∃ w, w = (wordsL l).getD i [] := ⟨_, rfl⟩
    rw [← hw] at hr hm hwlen htk
    have hcl := cut_len 47 w
    have h377 := call377 (pu := false) (c := 47) (H := G) (l := w) (by omega)
    obtain ⟨u, hu, hu'⟩ := call378 (pu := true) (H := G) (l := (cutc 47 w).1) (lo := -12) (hi := 12) (by omega) (by omega) (by omega)
    obtain ⟨v, hv, hv'⟩ := call378 (pu := true) (H := G) (l := (cutc 47 w).2.1) (lo := -12) (hi := 12) (by omega) (by omega) (by omega)
    have hbad : mvI w = none → R = (.slice none 0 0, H, none) ∧ rmC l = 5 := by
      intro h
      have : ¬ rmOk l = true := fun h' => by
        have := List.all_eq_true.1 h' w hm
        rw [h] at this; cases this
      exact ⟨by rw [hR, if_neg this], by rw [rmC, if_neg this]⟩
    have hpre := hg.pr
    cases hf : (cutc 47 w).2.2 with
    | false =>
      obtain ⟨e1, e2⟩ := hbad (by unfold mvI; rw [if_neg (by rw [hf]; decide)])
      rw [hf] at h377
      simp [b153_1, h18, h16, h17, h4, hii, ha, hr, h377, hu, hv, skip, e1, e2, finish_nil2, hpre.take]
    | true =>
      rw [hf] at h377
      have hmv : mvI w = mv2 (rdIn (cutc 47 w).1 (-12) 12) (rdIn (cutc 47 w).2.1 (-12) 12) := by unfold mvI; rw [if_pos hf]
      cases h1 : rdIn (cutc 47 w).1 (-12) 12 with
      | none =>
        obtain ⟨e1, e2⟩ := hbad (by rw [hmv, h1]; rfl)
        rw [h1] at hu
        simp [b153_1, h18, h16, h17, h4, hii, ha, hr, h377, hu, hv, skip, e1, e2, finish_nil2, hpre.take]
      | some u0 =>
        cases h2 : rdIn (cutc 47 w).2.1 (-12) 12 with
        | none =>
          obtain ⟨e1, e2⟩ := hbad (by rw [hmv, h1, h2]; rfl)
          rw [h2] at hv
          rw [h1] at hu
          simp [b153_1, h18, h16, h17, h4, hii, ha, hr, h377, hu, hv, skip, e1, e2, finish_nil2, hpre.take]
        | some v0 =>
          obtain rfl := hu' u0 h1
          obtain rfl := hv' v0 h2
          have hb1 := ((rdIn_iff (by decide) (by decide)).1 h1).2
          have hb2 := ((rdIn_iff (by decide) (by decide)).1 h2).2
          have w1 : IntKind.wrap .i8 u = u := wrap8 (by omega)
          have w2 : IntKind.wrap .i8 v = v := wrap8 (by omega)
          rw [h1] at hu
          rw [h2] at hv
          have hsome : mvI w = some (u, v) := by rw [hmv, h1, h2]; rfl
          have hf1 := fill_one (z := [.int .i8 0, .int .i8 0]) (v := agg (mvC (u, v))) (esz := 2) rfl rfl
          obtain ⟨g', G', hpush, hg', hk⟩ := hg.pushE (c := mvC (u, v)) (bytes := 2) rfl (room2 (by omega)) (wb := false)
          have hmm : mvsC (((wordsL l).take i).map mvD) ++ mvC (u, v) = mvsC (((wordsL l).take (i + 1)).map mvD) := by
            rw [mvsC_one, htk, List.map_append]
            congr 2
            simp [mvD, hsome]
          rw [hmm] at hg'
          have hfill : fill [.int .i8 0, .int .i8 0] [(0, 1, .int .i8 u), (1, 1, .int .i8 v)] = some (mvC (u, v)) := rfl
          simp [b153_1, h18, h16, h17, h4, hii, ha, hr, h377, hu, hv, w1, w2, hfill, hf1, hpush, wbOf, e4, skip]
          refine ⟨hs.keepE hk (by decide), ?_, by simpa using hg'⟩
          intro w' hw'
          rw [htk] at hw'
          rcases List.mem_append.1 hw' with h | h
          · exact hall w' h
          · rw [List.mem_singleton.1 h, hsome]; rfl
  · rintro e G _ h18 ⟨h16, h17, hs, hall, g, h4, hg⟩
    rw [List.take_length] at hall hg
    have hok : rmOk l = true := List.all_eq_true.2 hall
    have hv : rmV l = (wordsL l).map mvD := by rw [rmV, if_pos hok]
    have hn : (rmV l).length = (wordsL l).length := by rw [hv, List.length_map]
    rw [← hv, ← hn] at hg
    have hfin := hg.gr.fin2 (c := 0) mvsC_flat
    have hc : rmC l = 0 := by rw [rmC, if_pos hok]
    rw [if_pos hok] at hR
    simp [b153_1, h18, h16, h17, h4, hfin, hc, hR]
theorem slr_new {G : Heap} {vs : List Value} {esz n : Nat} (h : vs.length = n * esz) : SlR (G ++ [⟨vs, esz, 0, false⟩]) (slc G.length 0 0 n n) esz n vs := (own_new h).sl
theorem call288 {pu : Bool} {l : List UInt8} (hl : l.length ≤ 1000000) {H : Heap} :
    Call tab pu 288 [str l] H = some (tup [slc H.length 0 0 (rmV l).length (rmV l).length, .int .i64 (rmC l)], H ++ [⟨mvsC (rmV l), 2, 0, false⟩]) := by
  obtain ⟨G1, hG1⟩ : ∃ G1, G1 = H ++ [(⟨[], 2, 0, false⟩ : Blk)] := ⟨_, rfl⟩
  have p1 : Pre H G1 := by rw [hG1]; exact Pre.one
  by_cases h0 : l = []
  · subst h0
    have hfin := (Gr.new (H := H) (esz := 2) .refl).fin2 (c := 0) (by intro v hv; simp at hv)
    refine Call_wp t288 (.inr rfl) rfl ?_
    simp [c288, k288, fill, rep, hfin]
    exact ⟨rfl, rfl⟩
  · have hws : wordsL l = spl 32 [] l := by unfold wordsL; rw [if_neg h0]
    have hwl := words_len (l := l)
    have h481 := call481 (pu := true) (c := 32) (H := G1) hl
    rw [← hws] at h481
    obtain ⟨G2, hG2⟩ : ∃ G2, G2 = G1 ++ [(⟨(wordsL l).map str, 1, 0, false⟩ : Blk)] := ⟨_, rfl⟩
    have hx : SlR G2 (slc G1.length 0 0 (wordsL l).length (wordsL l).length) 1 (wordsL l).length ((wordsL l).map str) := by rw [hG2]; exact slr_new (by simp)
    have hg0 : GrB H G2 H.length (slc H.length 0 0 0 0) 2 0 [] := ⟨0, rfl, by rw [hG2, List.getElem?_append_left (by rw [hG1]; simp), hG1]; exact get_last, Nat.le_refl _, rfl, by rw [hG2]; exact p1.app⟩
    rw [← hG2] at h481
    have hc32 : (UInt8.toNat 32 : Int) = 32 := rfl
    rw [hc32] at h481
    obtain ⟨x, hxe⟩ : ∃ x, x = slc G1.length 0 0 (wordsL l).length (wordsL l).length := ⟨_, rfl⟩
    rw [← hxe] at h481 hx
    refine Call_wp t288 (.inr rfl) rfl ?_
    simp [c288, k288, fill, rep, ← hG1, h0, h481]
    refine WP_count 6 (wordsL l).length (wordsL l).length rfl (fun i e G => e 5 = x ∧ SlR G x 1 (wordsL l).length ((wordsL l).map str) ∧ (∀ w ∈ (wordsL l).take i, (mvI w).isSome = true) ∧
      ∃ g, e 4 = g ∧ GrB H G H.length g 2 i (mvsC (((wordsL l).take i).map mvD))) (by omega) ?_ ?_ (by simp) ⟨by simp, hx, by simp, slc H.length 0 0 0 0, by simp, hg0⟩
    · rintro i e G _ hi hii e4 h6 ⟨h5, hs, hall, g, h4, hg⟩
      obtain ⟨b, off, ver, ha, hr⟩ := strs_get hs hi
      obtain ⟨hm, hwlen⟩ := words_at hi
      have htk : (wordsL l).take (i + 1) = (wordsL l).take i ++ [(wordsL l).getD i []] := by
        rw [List.take_add_one]
        simp [hi]
      obtain ⟨w, hw⟩ : ∃ w, w = (wordsL l).getD i [] := ⟨_, rfl⟩
      rw [← hw] at hr hm hwlen htk
      have h47 := call481 (pu := true) (c := 47) (H := G) (l := w) (by omega)
      have hc47 : (UInt8.toNat 47 : Int) = 47 := rfl
      rw [hc47] at h47
      have hbad : mvI w = none → rmV l = [] ∧ rmC l = 5 := by
        intro h
        have : ¬ rmOk l = true := fun h' => by
          have := List.all_eq_true.1 h' w hm
          rw [h] at this; cases this
        exact ⟨by rw [rmV, if_neg this], by rw [rmC, if_neg this]⟩
      have hpre := hg.pr
      obtain ⟨G', hG'⟩ : ∃ G', G' = G ++ [(⟨(spl 47 [] w).map str, 1, 0, false⟩ : Blk)] := ⟨_, rfl⟩
      rw [← hG'] at h47
      have pG : Pre G G' := by rw [hG']; exact Pre.one
      have hfail := (Gr.new (H := H) (esz := 2) (hpre.trans pG)).fin2 (c := 5) (by intro v hv; simp at hv)
      by_cases h2 : (spl 47 [] w).length = 2
      · obtain ⟨p, q, hpq⟩ : ∃ p q, spl 47 [] w = [p, q] := by
          match hh : spl 47 [] w, h2 with
          | [p, q], _ => exact ⟨p, q, rfl⟩
        have hlp := spl_len 47 w [] p (by rw [hpq]; simp)
        have hlq := spl_len 47 w [] q (by rw [hpq]; simp)
        simp only [List.length_nil, Nat.zero_add] at hlp hlq
        have hmv := mvI_two hpq
        rw [hpq] at h47 hG'
        have gl : G'[G.length]? = some ⟨[str p, str q], 1, 0, false⟩ := by rw [hG']; exact get_last
        have r0 : rd G' G.length 0 0 1 = some [str p] := by rw [rd_at gl rfl (by simp)]; rfl
        have r1 : rd G' G.length 1 0 1 = some [str q] := by rw [rd_at gl rfl (by simp)]; rfl
        have i0 : idxAV 1 (slc G.length 0 0 2 2) (.int .i64 0) = some (adr G.length 0 0) := rfl
        have i1 : idxAV 1 (slc G.length 0 0 2 2) (.int .i64 1) = some (adr G.length 1 0) := rfl
        have hp := call482 (pu := true) (H := G') (l := p) (by omega)
        have hq := call482 (pu := true) (H := G') (l := q) (by omega)
        simp only [List.length_cons, List.length_nil, Nat.zero_add, Nat.reduceAdd] at h47
        cases s1 : sgL p 12 with
        | none =>
          obtain ⟨e1, e2⟩ := hbad (by rw [hmv, s1]; rfl)
          rw [s1] at hp
          dsimp only at hp
          cases s2 : sgL q 12 <;> (rw [s2] at hq; dsimp only at hq; simp [b288_1, h6, h5, h4, hx.lenV, hii, ha, hr, h47, i0, i1, r0, r1, hp, hq, fill, rep, skip, hfail, e1, e2]; rfl)
        | some u =>
          cases s2 : sgL q 12 with
          | none =>
            obtain ⟨e1, e2⟩ := hbad (by rw [hmv, s1, s2]; rfl)
            rw [s1] at hp
            rw [s2] at hq
            dsimp only at hp hq
            simp [b288_1, h6, h5, h4, hx.lenV, hii, ha, hr, h47, i0, i1, r0, r1, hp, hq, fill, rep, skip, hfail, e1, e2]
            rfl
          | some v =>
            have hsome : mvI w = some (u, v) := by rw [hmv, s1, s2]; rfl
            rw [s1] at hp
            rw [s2] at hq
            dsimp only at hp hq
            have hf1 := fill_one (z := [.int .i8 0, .int .i8 0]) (v := agg (mvC (u, v))) (esz := 2) rfl rfl
            obtain ⟨g', G3, hpush, hg', hk⟩ := (hg.onto pG).pushE (c := mvC (u, v)) (bytes := 2) rfl (room2 (by omega)) (wb := false)
            have hmm : mvsC (((wordsL l).take i).map mvD) ++ mvC (u, v) = mvsC (((wordsL l).take (i + 1)).map mvD) := by
              rw [mvsC_one, htk, List.map_append]
              congr 2
              simp [mvD, hsome]
            rw [hmm] at hg'
            have hfill : fill [.int .i8 0, .int .i8 0] [(0, 1, .int .i8 u), (1, 1, .int .i8 v)] = some (mvC (u, v)) := rfl
            simp [b288_1, h6, h5, h4, hx.lenV, hii, ha, hr, h47, i0, i1, r0, r1, hp, hq, hfill, hf1, hpush, wbOf, e4, skip]
            refine ⟨(hs.pre pG).keepE hk (by decide), ?_, by simpa using hg'⟩
            intro w' hw'
            rw [htk] at hw'
            rcases List.mem_append.1 hw' with h | h
            · exact hall w' h
            · rw [List.mem_singleton.1 h, hsome]; rfl
      · obtain ⟨e1, e2⟩ := hbad (mvI_not h2)
        have h2' : (((spl 47 [] w).length : Int) != 2) = true := by
          rw [bne_iff_ne]; omega
        simp [b288_1, h6, h5, h4, hx.lenV, hii, ha, hr, h47, h2', fill, rep, hfail, e1, e2]
        rfl
    · rintro e G _ h6 ⟨h5, hs, hall, g, h4, hg⟩
      rw [List.take_length] at hall hg
      have hok : rmOk l = true := List.all_eq_true.2 hall
      have hv : rmV l = (wordsL l).map mvD := by rw [rmV, if_pos hok]
      have hn : (rmV l).length = (wordsL l).length := by rw [hv, List.length_map]
      rw [← hv, ← hn] at hg
      have hfin := hg.gr.fin2 (c := 0) mvsC_flat
      have hc : rmC l = 0 := by rw [rmC, if_pos hok]
      simp [b288_1, h6, h5, h4, hx.lenV, hfin, hc]
/-- The calls of a law from a text to a list. -/
theorem lsx_str {sp im eR mR hR wR : Nat} {args : List Value} {H : Heap} {eszR nR : Nat} {vsR : List Value} {c : Int} {msR : Int → Nat → Value}
    (hsp : ∀ G, ∃ r G' β, Call tab true sp args G = some (tup [r, .int .i64 c], G') ∧ Pre G G' ∧ Own G' r β G.length eszR nR vsR)
    (him : ∀ G, ∃ r G' β, Call tab true im args G = some (tup [r, .int .i64 c], G') ∧ Pre G G' ∧ Own G' r β G.length eszR nR vsR)
    (heq : EqF eR eszR nR vsR) (hmR : MkF mR eszR wR msR) (hhR : HdF hR eszR wR msR) (hnR : nR ≤ 1000000) :
    ∃ rs G1 ri G2 G3 r4 G4, Call tab true sp args H = some (tup [rs, .int .i64 c], G1) ∧ Call tab true im args G1 = some (tup [ri, .int .i64 c], G2) ∧ Call tab true eR [ri, rs] G2 = some (.bool true, G2) ∧
      (Call tab false mR [ri, .int .i64 101] G2).bind (elder H.length false G2) = some (.int .i64 (101 + (nR * wR : Nat)), G3) ∧ Call tab true hR [ri, .int .i64 101] G3 = some (.int .i64 (101 + (nR * wR : Nat)), G3) ∧
      Call tab true im args G3 = some (tup [r4, .int .i64 c], G4) ∧ Call tab true eR [r4, rs] G4 = some (.bool true, G4) ∧
      Call tab true hR [ri, .int .i64 101] G4 = some (.int .i64 (101 + (nR * wR : Nat)), G4) ∧ Pre H G4 := by
  obtain ⟨rs, G1, βs, w1, p1, os⟩ := hsp H
  obtain ⟨ri, G2, βi, w2, p2, oi⟩ := him G1
  have os2 := os.pre p2
  have e1 := heq G2 ri rs oi.sl os2.sl
  obtain ⟨G3, w4, s5, oi5⟩ := hmR G2 ri βi _ nR vsR 101 oi hnR (by omega) (by omega)
  have P2 := p1.trans p2
  have P3 : Pre H G3 := s5.pre P2 fun b hb => Nat.le_trans p1.len (oi.below b hb)
  have os5 : Own G3 rs βs H.length eszR nR vsR := os2.same s5 fun b hb he => by
    subst hb
    have h1 := os.lt
    have h2 := oi.below b he
    omega
  have w5 := hhR true G3 ri βi _ nR 101 oi5 hnR (by omega) (by omega)
  obtain ⟨r4, G4, β4, w6, p7, o4⟩ := him G3
  have os7 := os5.pre p7
  have oi7 := oi5.pre p7
  have e4 := heq G4 r4 rs o4.sl os7.sl
  have w7 := hhR true G4 ri βi _ nR 101 oi7 hnR (by omega) (by omega)
  refine ⟨rs, G1, ri, G2, G3, r4, G4, w1, w2, e1, ?_, w5, w6, e4, w7, P3.trans p7⟩
  rw [w4]; exact elder_pre P2 P3
theorem call58 {H : Heap} {l : List UInt8} : ∃ H', Call tab false 58 [str l] H = some (.bool true, H') := by
  refine ⟨H, Call_wp t58 (.inl rfl) rfl ?_⟩
  by_cases hbig : l.length ≤ 1000000
  · have h1 : ¬ (1000000 : Int) < l.length := by omega
    have hlen := rmV_len (l := l)
    obtain ⟨rs, G1, ri, G2, G3, r4, G4, q1, q2, e1, m2, d1, q3, e4, d2, P⟩ := lsx_str (H := H) (args := [str l]) (sp := 288) (im := 153) (c := rmC l)
      (fun G => ⟨_, _, _, call288 hbig, Pre.one, own_new mvsC_length⟩) (fun G => call153 hbig) (eqMv (l := rmV l) (by omega)) mark267 held268 (by omega)
    have hneg : ¬ ((101 : Int) + (((rmV l).length * 2 : Nat) : Int) < 0) := by omega
    simp [c58, k58, h1, wbOf, q1, q2, e1, m2, d1, q3, e4, d2, hneg, skip, P.take, -Int.natCast_add, -Int.natCast_mul]
  · have h1 : (1000000 : Int) < l.length := by omega
    simp [c58, k58, h1]
end Fb
