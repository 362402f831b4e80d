/- What each function computes. -/
import Derived.Test.YtkjlnflhimibdaaUse1
set_option linter.unusedVariables false
set_option linter.unusedSimpArgs false
namespace Fb
open Go
theorem prF_len {l : List Pt} {t : Int} {k : Nat} : (prF l t k).length = 12 := by
  cases k with
  | zero => rw [prF_zero]; simp
  | succ k => rw [prF_succ]; exact mixF_length
theorem okPts_get {l : List Pt} (h : okPts l = true) {i : Nat} (hi : i < l.length) : okPt (at0 l i) = true := allN_get (p := fun i => okPt (at0 l i)) h hi
theorem call436 {pu : Bool} {H : Heap} {x : Value} {l : List Pt} {t : Int} (hs : PtS H x l) (hw : PtsW l) (hk : okPts l = true) (ht : 0 ≤ t ∧ t ≤ 200) : Call tab pu 436 [x, .int .i64 t] H = some (iv .u16 (prF l t l.length), H) := by
  refine Call_wp t436 (.inr rfl) rfl ?_
  have hn := hw.n
  have hz12 := stc_zr (k := .u16) (n := 12) (l := zr 12 0) (by simp)
  simp [c436, k436, fill, zs_cs, agg_cs, hz12, hs.lenV]
  refine WP_forH 11 l.length _ rfl (by omega) (fun i e => e 1 = .int .i64 t ∧ e 4 = iv .u16 (zr 12 0) ∧ e 5 = iv .u16 (prF l t i) ∧ e 9 = x ∧ e 10 = .int .i64 l.length) ?_ ?_ (by simp) ⟨by simp, by simp, by simp [prF_zero], by simp, by simp⟩
  · rintro i e hi hii e4 h11 ⟨h1, h4, h5, h9, h10⟩
    obtain ⟨q, off, ver, y, ha, hr, hy⟩ := hs.get hi
    have c1 := call427 (pu := true) hy (hw.w _ (at0_mem hi)) (okPts_get hk hi) ht
    have hpl := prF_len (l := l) (t := t) (k := i)
    have c2 := call338 (pu := true) (H := H) hpl (ptFr_W (s := at0 l i) (t := t)).len
    rw [← prF_succ] at c2
    have hl := (at0 l i).len
    have hz : (zr 12 0).length = 12 := rfl
    simp only [ptC] at hr c1
    have st := stPall (a := .int .i8 0) (b := .slice none 0 0) (a' := .int .i8 (at0 l i).e) (b' := y) hz hl
    have hst3 : stc (iv .u16 (prF l t i)) 0 (cs .u16 (prF l t (i + 1))) = some (iv .u16 (prF l t (i + 1))) := stc_all (by rw [prF_len, prF_len])
    simp [b436_1, h11, h1, h4, h5, h9, h10, hii, z14, ptZ, ha, hr, ptT_len hl, st, hpl, ldPall hl, c1, c2, prF_len, hst3, e4]
  · rintro e h11 ⟨h1, h4, h5, h9, h10⟩
    have s3 := stc_zr (k := .u16) (n := 12) (l := prF l t l.length) prF_len
    simp [b436_1, h11, h10, h4, h5, prF_len, s3, agg_cs]
theorem call433 {pu : Bool} {H : Heap} {x : Value} {l : List Pt} {t : Int} (hs : PtS H x l) (hw : PtsW l) (hk : okPts l = true) (ht : 0 ≤ t ∧ t ≤ 200) : Call tab pu 433 [x, .int .i64 t] H = some (iv .u16 (prF l t l.length), H) := by
  refine Call_wp t433 (.inr rfl) rfl ?_
  have hn := hw.n
  obtain ⟨G1, hG1⟩ : ∃ G1, G1 = H ++ [(⟨cs .u16 (zr 12 0), 1, 0, false⟩ : Blk)] := ⟨_, rfl⟩
  have p1 : Pre H G1 := by rw [hG1]; exact Pre.one
  have g1 : G1[H.length]? = some ⟨cs .u16 (prF l t 0), 1, 0, false⟩ := by rw [hG1, prF_zero]; simp
  have hwr : wr H.length false G1 H.length 0 0 (cs .u16 (zr 12 0)) = some G1 := by
    rw [hG1, wr_last (b := ⟨cs .u16 (zr 12 0), 1, 0, false⟩) rfl rfl (Nat.le_refl _) (by simp)]
  simp [c433, k433, fill, zs_cs, agg_cs, ← hG1, hwr, wbOf]
  refine WP_count 6 l.length _ rfl (fun i e G => e 0 = x ∧ e 1 = .int .i64 t ∧ e 4 = iv .u16 (zr 12 0) ∧ e 5 = adr H.length 0 0 ∧ G[H.length]? = some ⟨cs .u16 (prF l t i), 1, 0, false⟩ ∧ Pre H G) (by omega) ?_ ?_ (by simp) ⟨by simp, by simp, by simp, by simp, g1, p1⟩
  · rintro i e G _ hi hii e4 h6 ⟨h0, h1, h4, h5, gC, hPG⟩
    obtain ⟨q, off, ver, y, ha, hr, hy⟩ := (hs.pre hPG).get hi
    have c1 := call423 (pu := true) (PtR.of hr hy) (hw.w _ (at0_mem hi)) (okPts_get hk hi) ht
    obtain ⟨Ga, hGa⟩ : ∃ Ga, Ga = G ++ [(⟨cs .u16 (zr 12 0), 1, 0, false⟩ : Blk)] := ⟨_, rfl⟩
    obtain ⟨Gb, hGb⟩ : ∃ Gb, Gb = G ++ [(⟨cs .u16 (ptFr (at0 l i) t), 1, 0, false⟩ : Blk)] := ⟨_, rfl⟩
    have pb : Pre G Gb := by rw [hGb]; exact Pre.one
    have hHG : H.length ≤ G.length := hPG.len
    have hwa : wr H.length false Ga G.length 0 0 (cs .u16 (ptFr (at0 l i) t)) = some Gb := by
      rw [hGa, wr_last (b := ⟨cs .u16 (zr 12 0), 1, 0, false⟩) rfl rfl hHG (by simp [ptFr_W.len]), hGb]
    have hlC := (List.getElem?_eq_some_iff.1 gC).1
    have hpl := prF_len (l := l) (t := t) (k := i)
    have gCb : Gb[H.length]? = some ⟨cs .u16 (prF l t i), 1, 0, false⟩ := by rw [pb.get hlC]; exact gC
    have rC : rd Gb H.length 0 0 12 = some (cs .u16 (prF l t i)) := by
      rw [rd_at gCb rfl (by simp [hpl])]; simp only [List.drop_zero]; rw [List.take_of_length_le (by simp [hpl])]
    have rN : rd Gb G.length 0 0 12 = some (cs .u16 (ptFr (at0 l i) t)) := by rw [hGb]; exact rd_last rfl (by simp [ptFr_W.len])
    have c3 := call337 (pu := true) hpl ptFr_W.len rC rN
    rw [← prF_succ] at c3
    obtain ⟨Gd, hGd⟩ : ∃ Gd, Gd = Gb.set H.length ⟨cs .u16 (prF l t (i + 1)), 1, 0, false⟩ := ⟨_, rfl⟩
    have hwd : wr H.length false Gb H.length 0 0 (cs .u16 (prF l t (i + 1))) = some Gd := by
      rw [wr_at gCb rfl rfl (by simp [may]) (by simp [prF_len]), hGd]
      have hdn : (cs .u16 (prF l t i)).drop 12 = [] := List.drop_eq_nil_of_le (by simp [prF_len])
      simp only [splice, List.take_zero, List.nil_append, Nat.zero_add, length_cs, prF_len, hdn, List.append_nil]
    simp [b433_1, h6, h0, h1, h4, h5, hs.lenV, hii, ha, c1, zs_cs, ← hGa, hwa, wbOf, ptFr_W.len, c3, prF_len, hwd, e4]
    exact ⟨by rw [hGd]; exact get_set gCb, by rw [hGd]; exact (hPG.trans pb).set (Nat.le_refl _)⟩
  · rintro e G _ h6 ⟨h0, h1, h4, h5, gC, hPG⟩
    have hpl := prF_len (l := l) (t := t) (k := l.length)
    have rC : rd G H.length 0 0 12 = some (cs .u16 (prF l t l.length)) := by
      rw [rd_at gC rfl (by simp [hpl])]; simp only [List.drop_zero]; rw [List.take_of_length_le (by simp [hpl])]
    have s3 := stc_zr (k := .u16) (n := 12) (l := prF l t l.length) hpl
    simp [b433_1, h6, h0, h4, h5, hs.lenV, rC, s3, hpl, hPG.take, agg_cs]
def faC (l : List Pt) (b : Bool) : Int := if okPts l = true then if b = true then if 6 < l.length then 3 else 0 else 2 else 1
def faR (l : List Pt) (t : Int) : Value := if faC l (in1 t 0 200) = 0 then tup [iv .u16 (prF l t l.length), .int .i64 0] else tup [iv .u16 (zr 12 0), .int .i64 (faC l (in1 t 0 200))]
theorem faC_ok {l : List Pt} {b : Bool} (h : faC l b = 0) : okPts l = true ∧ b = true ∧ l.length ≤ 6 := by
  unfold faC at h
  split at h
  · rename_i h1
    split at h
    · rename_i h2
      split at h
      · omega
      · exact ⟨h1, h2, by omega⟩
    · omega
  · omega
theorem in1_tick {t : Int} (h : in1 t 0 200 = true) : 0 ≤ t ∧ t ≤ 200 := by simpa [in1] using h
theorem call220 {pu : Bool} {H : Heap} {x : Value} {l : List Pt} {t : Int} (hs : PtS H x l) (hw : PtsW l) : Call tab pu 220 [x, .int .i64 t] H = some (faR l t, H) := by
  refine Call_wp t220 (.inr rfl) rfl ?_
  have c1 := call421 (pu := true) (b := in1 t 0 200) hs hw
  have e1 : (if okPts l = true then if in1 t 0 200 = true then if 6 < l.length then (3 : Int) else 0 else 2 else 1) = faC l (in1 t 0 200) := rfl
  rw [e1] at c1
  by_cases hc : faC l (in1 t 0 200) = 0
  · obtain ⟨h1, h2, h3⟩ := faC_ok hc
    have c2 := call433 (pu := true) hs hw h1 (in1_tick h2)
    have s3 := stc_zr (k := .u16) (n := 12) (l := prF l t l.length) prF_len
    simp [c220, k220, call432, c1, hc, c2, zs_cs, agg_cs, prF_len, s3, faR]
  · have hb : (faC l (in1 t 0 200) != 0) = true := by simpa using hc
    have hz12 := stc_zr (k := .u16) (n := 12) (l := zr 12 0) (by simp)
    simp [c220, k220, call432, c1, hb, hc, fill, zs_cs, agg_cs, hz12, faR]
theorem call222 {pu : Bool} {H : Heap} {x : Value} {l : List Pt} {t : Int} (hs : PtS H x l) (hw : PtsW l) : Call tab pu 222 [x, .int .i64 t] H = some (faR l t, H) := by
  refine Call_wp t222 (.inr rfl) rfl ?_
  have c1 := call425 (pu := true) hs hw
  have hz12 := stc_zr (k := .u16) (n := 12) (l := zr 12 0) (by simp)
  cases k1 : okPts l with
  | false =>
    have hc : faC l (in1 t 0 200) = 1 := by unfold faC; rw [k1]; rfl
    simp [c222, k222, c1, k1, fill, zs_cs, agg_cs, hz12, faR, hc]
  | true =>
    cases k2 : in1 t 0 200 with
    | false =>
      have hc : faC l (in1 t 0 200) = 2 := by unfold faC; rw [k1, k2]; rfl
      rw [k2] at hc
      simp [c222, k222, c1, k1, call435, k2, fill, zs_cs, agg_cs, hz12, faR, hc]
    | true =>
      by_cases h6 : 6 < l.length
      · have hc : faC l (in1 t 0 200) = 3 := by unfold faC; rw [k1, k2, if_pos rfl, if_pos rfl, if_pos h6]
        have h6' : (6 : Int) < l.length := by omega
        rw [k2] at hc
        simp [c222, k222, c1, k1, call435, k2, hs.lenV, h6, h6', fill, zs_cs, agg_cs, hz12, faR, hc]
      · have hc : faC l (in1 t 0 200) = 0 := by unfold faC; rw [k1, k2, if_pos rfl, if_pos rfl, if_neg h6]
        have h6' : ¬ (6 : Int) < l.length := by omega
        have c2 := call436 (pu := true) hs hw k1 (in1_tick k2)
        have s3 := stc_zr (k := .u16) (n := 12) (l := prF l t l.length) prF_len
        rw [k2] at hc
        simp [c222, k222, c1, k1, call435, k2, hs.lenV, h6, h6', c2, zs_cs, agg_cs, prF_len, s3, faR, hc]
/-- A copy of parts while marks are being written over it. -/
structure MkP (G G' : Heap) (b ver lo hi n : Nat) (y : Nat → Value) (m : Nat → Nat) : Prop where
  len : G'.length = G.length
  fr : ∀ j, j < lo ∨ hi ≤ j → G'[j]? = G[j]?
  inb : lo ≤ b ∧ b < hi
  out : ∃ vs, G'[b]? = some ⟨vs, 14, ver, false⟩ ∧ n * 14 ≤ vs.length ∧ ∀ i, i < n → vs[i * 14 + 13]? = some (y i)
  row : ∀ i, i < n → ∃ b' ver' cap' ws, y i = slc b' 0 ver' (m i) cap' ∧ lo ≤ b' ∧ b' < hi ∧ b' ≠ b ∧ G'[b']? = some ⟨ws, 3, ver', false⟩ ∧ m i * 3 ≤ ws.length
theorem MkP.cell {G G' : Heap} {b ver lo hi n n0 : Nat} {y : Nat → Value} {m : Nat → Nat} (h : MkP G G' b ver lo hi n y m) {k : Nat} {v : Value} (hk : k < n * 14) (h4 : k % 14 ≠ 13) (hv : old0 0 v = true) :
    ∃ G2, wr n0 true G' b k ver [v] = some G2 ∧ MkP G G2 b ver lo hi n y m := by
  obtain ⟨vs, hg, hl, hy⟩ := h.out
  refine ⟨_, wr_at hg rfl rfl (by simp [may, hv]) (by simp; omega), by simp [h.len], fun j hj => ?_, h.inb, ⟨_, get_set hg, ?_, fun i hi => ?_⟩, fun i hi => ?_⟩
  · have := h.inb
    rw [List.getElem?_set_ne (by omega)]
    exact h.fr j hj
  · simp only []
    rw [splice_one (by omega)]
    simpa using hl
  · simp only []
    rw [splice_one (by omega), List.getElem?_set_ne (by omega)]
    exact hy i hi
  · obtain ⟨b', ver', cap', ws, h1, h2, h3, h4, h5, h6⟩ := h.row i hi
    exact ⟨b', ver', cap', ws, h1, h2, h3, h4, by rw [List.getElem?_set_ne (by omega)]; exact h5, h6⟩
/-- What a function makes of parts: a list of its own, and a code. -/
def RsP (f : Nat) (extra : List Value) (l : List Pt) (eszR nR : Nat) (vsR : List Value) (c : Int) : Prop := ∀ (G : Heap) (y : Value), PtS G y l →
  ∃ r G' β, Call tab true f (y :: extra) G = some (tup [r, .int .i64 c], G') ∧ Pre G G' ∧ Own G' r β G.length eszR nR vsR
def spnB (a b : Int) : Bool := in1 a 0 200 && in1 b 0 200 && decide (a ≤ b)
theorem spnB_is {a b : Int} (h : spnB a b = true) : 0 ≤ a ∧ a ≤ b ∧ b ≤ 200 := by
  simp [spnB, in1] at h; omega
theorem call422 {pu : Bool} {H : Heap} {a b : Int} : Call tab pu 422 [.int .i64 a, .int .i64 b] H = some (.bool (spnB a b), H) := by
  refine Call_wp t422 (.inr rfl) rfl ?_
  cases k1 : in1 a 0 200 with
  | false => simp [c422, k422, call432, k1, skip, spnB]
  | true =>
    cases k2 : in1 b 0 200 with
    | false => simp [c422, k422, call432, k1, k2, skip, spnB]
    | true => simp [c422, k422, call432, k1, k2, spnB]
theorem call426 {pu : Bool} {H : Heap} {a b : Int} : Call tab pu 426 [.int .i64 a, .int .i64 b] H = some (.bool (spnB a b), H) := by
  refine Call_wp t426 (.inr rfl) rfl ?_
  cases k1 : in1 a 0 200 with
  | false => simp [c426, k426, call435, k1, skip, spnB]
  | true =>
    cases k2 : in1 b 0 200 with
    | false => simp [c426, k426, call435, k1, k2, skip, spnB]
    | true => simp [c426, k426, call435, k1, k2, spnB]
def plL (l : List Pt) (A k : Nat) : List (List Int) := itN (fun i r => r ++ [prF l (A + i : Nat) l.length]) [] k
theorem plL_zero {l : List Pt} {A : Nat} : plL l A 0 = [] := itN_zero
theorem plL_succ {l : List Pt} {A k : Nat} : plL l A (k + 1) = plL l A k ++ [prF l (A + k : Nat) l.length] := itN_succ
theorem plL_len {l : List Pt} {A k : Nat} : (plL l A k).length = k := by
  induction k with
  | zero => rw [plL_zero]; rfl
  | succ k ih => rw [plL_succ]; simp [ih]
def plC (l : List Pt) (a b : Int) : Int := if faC l (spnB a b) = 0 then if 40 < b - a + 1 then 3 else 0 else faC l (spnB a b)
def plR (l : List Pt) (a b : Int) : List (List Int) := if plC l a b = 0 then plL l a.toNat (b - a + 1).toNat else []
theorem plC_ok {l : List Pt} {a b : Int} (h : plC l a b = 0) : okPts l = true ∧ spnB a b = true ∧ l.length ≤ 6 ∧ b - a + 1 ≤ 40 := by
  unfold plC at h
  split at h
  · rename_i h1
    obtain ⟨p1, p2, p3⟩ := faC_ok h1
    split at h
    · omega
    · exact ⟨p1, p2, p3, by omega⟩
  · rename_i h1; exact absurd h h1
theorem bkC_push {l : List (List Int)} {f : List Int} : bkC l ++ cs .u16 f = bkC (l ++ [f]) := by rw [bkC, bkC, rowsC_app]; simp [rowsC, frC]
theorem plL_size {l : List Pt} {A k : Nat} : (bkC (plL l A k)).length = k * 12 := by
  induction k with
  | zero => rw [plL_zero]; rfl
  | succ k ih => rw [plL_succ, ← bkC_push, List.length_append, ih, length_cs, prF_len]; omega
theorem rs261 {l : List Pt} {a b : Int} (hw : PtsW l) : RsP 261 [.int .i64 a, .int .i64 b] l 12 (plR l a b).length (bkC (plR l a b)) (plC l a b) := by
  intro H x h
  have c2 := call421 (pu := true) (b := spnB a b) h hw
  have e1 : (if okPts l = true then if spnB a b = true then if 6 < l.length then (3 : Int) else 0 else 2 else 1) = faC l (spnB a b) := rfl
  rw [e1] at c2
  by_cases hc : plC l a b = 0
  · obtain ⟨h1, h2, h3, h4⟩ := plC_ok hc
    obtain ⟨s1, s2, s3⟩ := spnB_is h2
    have hf : faC l (spnB a b) = 0 := by unfold faC; rw [h1, h2, if_pos rfl, if_pos rfl, if_neg (by omega)]
    have w1 : IntKind.wrap .i64 (b - a) = b - a := wrap64 (by omega)
    have w2 : IntKind.wrap .i64 (b - a + 1) = b - a + 1 := wrap64 (by omega)
    have hgt : ¬ (40 < b - a + 1) := by omega
    have eR : plR l a b = plL l a.toNat (b - a + 1).toNat := by rw [plR, if_pos hc]
    obtain ⟨A, rfl⟩ := Int.eq_ofNat_of_zero_le s1
    obtain ⟨n, hn⟩ : ∃ n : Nat, b = (A : Int) + n := ⟨(b - A).toNat, by omega⟩
    subst hn
    have eT : plR l A (A + n) = plL l A (n + 1) := by rw [eR]; congr 1; omega
    rw [eT, plL_len, hc]
    refine ⟨slc H.length 0 0 (n + 1) (n + 1), H ++ [⟨bkC (plL l A (n + 1)), 12, 0, false⟩], some H.length, Call_wp t261 (.inr rfl) rfl ?_, Pre.one, own_new plL_size⟩
    simp [c261, k261, call422, c2, hf, w1, w2, hgt, fill, rep, zs_cs]
    refine WP_from 10 A (A + n + 1) _ rfl (fun i e G => e 0 = x ∧ e 2 = .int .i64 (A + n : Nat) ∧ ∃ g, e 9 = g ∧ Gr H G g 12 (i - A) (bkC (plL l A (i - A)))) (by omega) (by omega) ?_ ?_ (by simp) ⟨by simp, by simp, by simp [plL_zero, bkC, rowsC]; exact Gr.new .refl⟩
    · rintro i e G hai hi hii e4 h10 ⟨h0, h2, g, h9, hg⟩
      obtain ⟨k, rfl⟩ : ∃ k, i = A + k := ⟨i - A, by omega⟩
      rw [show A + k - A = k by omega] at hg
      rw [show A + k + 1 - A = k + 1 by omega]
      have c3 := call433 (pu := true) (t := ((A + k : Nat) : Int)) (h.pre hg.pre) hw h1 (by omega)
      obtain ⟨g', G', hpush, hg'⟩ := hg.push (c := cs .u16 (prF l (A + k : Nat) l.length)) (bytes := 24) (by simp [prF_len]) (room24 (by omega)) (wb := false)
      rw [bkC_push, ← plL_succ] at hg'
      have hle : ((A + k : Nat) : Int) ≤ ((A + n : Nat) : Int) := by omega
      simp [b261_1, h10, h0, h2, h9, hle, c3, zs_cs, prF_len, fillF prF_len, hpush, wbOf, e4, -Int.natCast_add]
      exact hg'
    · rintro e G h10 ⟨h0, h2, g, h9, hg⟩
      rw [show A + n + 1 - A = n + 1 by omega] at hg
      have hfin := hg.fin2 (c := 0) bkC_flat
      have hnle : ¬ ((A + n + 1 : Nat) : Int) ≤ ((A + n : Nat) : Int) := by omega
      simp [b261_1, h10, h2, h9, hnle, hfin, -Int.natCast_add]
  · have hfin := (Gr.new (H := H) (esz := 12) .refl).fin2 (c := plC l a b) (by intro v hv; simp at hv)
    have eR : plR l a b = [] := by rw [plR, if_neg hc]
    rw [eR]
    refine ⟨slc H.length 0 0 0 0, H ++ [⟨[], 12, 0, false⟩], some H.length, Call_wp t261 (.inr rfl) rfl ?_, Pre.one, own_new (n := 0) rfl⟩
    by_cases hf : faC l (spnB a b) = 0
    · obtain ⟨h1, h2, h3⟩ := faC_ok hf
      obtain ⟨s1, s2, s3⟩ := spnB_is h2
      have w1 : IntKind.wrap .i64 (b - a) = b - a := wrap64 (by omega)
      have w2 : IntKind.wrap .i64 (b - a + 1) = b - a + 1 := wrap64 (by omega)
      have hgt : 40 < b - a + 1 := by
        unfold plC at hc; rw [if_pos hf] at hc
        split at hc
        · assumption
        · exact absurd rfl hc
      have hp : plC l a b = 3 := by rw [plC, if_pos hf, if_pos hgt]
      rw [hp] at hfin ⊢
      simp [c261, k261, call422, c2, hf, w1, w2, hgt, fill, rep, zs_cs, hfin]
    · have hp : plC l a b = faC l (spnB a b) := by rw [plC, if_neg hf]
      rw [hp] at hfin ⊢
      have hb : (faC l (spnB a b) == 0) = false := by simpa using hf
      have hb2 : (faC l (spnB a b) != 0) = true := by simpa using hf
      simp [c261, k261, call422, c2, hb, hb2, fill, rep, zs_cs, hfin, skip]
theorem rs260 {l : List Pt} {a b : Int} (hw : PtsW l) : RsP 260 [.int .i64 a, .int .i64 b] l 12 (plR l a b).length (bkC (plR l a b)) (plC l a b) := by
  intro H x h
  have c1 := call425 (pu := true) h hw
  by_cases hc : plC l a b = 0
  · obtain ⟨h1, h2, h3, h4⟩ := plC_ok hc
    obtain ⟨s1, s2, s3⟩ := spnB_is h2
    have w1 : IntKind.wrap .i64 (b - a) = b - a := wrap64 (by omega)
    have w2 : IntKind.wrap .i64 (b - a + 1) = b - a + 1 := wrap64 (by omega)
    have hgt : ¬ (40 < b - a + 1) := by omega
    have h6 : ¬ (6 : Int) < l.length := by omega
    have h6' : ¬ 6 < l.length := by omega
    have eR : plR l a b = plL l a.toNat (b - a + 1).toNat := by rw [plR, if_pos hc]
    obtain ⟨A, rfl⟩ := Int.eq_ofNat_of_zero_le s1
    obtain ⟨n, hn⟩ : ∃ n : Nat, b = (A : Int) + n := ⟨(b - A).toNat, by omega⟩
    subst hn
    have eT : plR l A (A + n) = plL l A (n + 1) := by rw [eR]; congr 1; omega
    rw [eT, plL_len, hc]
    refine ⟨slc H.length 0 0 (n + 1) (n + 1), H ++ [⟨bkC (plL l A (n + 1)), 12, 0, false⟩], some H.length, Call_wp t260 (.inr rfl) rfl ?_, Pre.one, own_new plL_size⟩
    simp [c260, k260, c1, h1, call426, h2, h.lenV, h6, h6', w1, w2, hgt, fill, rep, zs_cs]
    refine WP_from 9 A (A + n + 1) _ rfl (fun i e G => e 0 = x ∧ e 2 = .int .i64 (A + n : Nat) ∧ ∃ g, e 8 = g ∧ Gr H G g 12 (i - A) (bkC (plL l A (i - A)))) (by omega) (by omega) ?_ ?_ (by simp) ⟨by simp, by simp, by simp [plL_zero, bkC, rowsC]; exact Gr.new .refl⟩
    · rintro i e G hai hi hii e4 h10 ⟨h0, h2, g, h9, hg⟩
      obtain ⟨k, rfl⟩ : ∃ k, i = A + k := ⟨i - A, by omega⟩
      rw [show A + k - A = k by omega] at hg
      rw [show A + k + 1 - A = k + 1 by omega]
      have c3 := call436 (pu := true) (t := ((A + k : Nat) : Int)) (h.pre hg.pre) hw h1 (by omega)
      obtain ⟨g', G', hpush, hg'⟩ := hg.push (c := cs .u16 (prF l (A + k : Nat) l.length)) (bytes := 24) (by simp [prF_len]) (room24 (by omega)) (wb := false)
      rw [bkC_push, ← plL_succ] at hg'
      have hle : ((A + k : Nat) : Int) ≤ ((A + n : Nat) : Int) := by omega
      simp [b260_1, h10, h0, h2, h9, hle, c3, zs_cs, prF_len, fillF prF_len, hpush, wbOf, e4, -Int.natCast_add]
      exact hg'
    · rintro e G h10 ⟨h0, h2, g, h9, hg⟩
      rw [show A + n + 1 - A = n + 1 by omega] at hg
      have hfin := hg.fin2 (c := 0) bkC_flat
      have hnle : ¬ ((A + n + 1 : Nat) : Int) ≤ ((A + n : Nat) : Int) := by omega
      simp [b260_1, h10, h2, h9, hnle, hfin, -Int.natCast_add]
  · have eR : plR l a b = [] := by rw [plR, if_neg hc]
    rw [eR]
    refine ⟨.slice none 0 0, H, none, Call_wp t260 (.inr rfl) rfl ?_, .refl, by simp [bkC, rowsC, Own]⟩
    cases k1 : okPts l with
    | false =>
      have hf : faC l (spnB a b) = 1 := by unfold faC; rw [k1]; rfl
      have hp : plC l a b = 1 := by rw [plC, if_neg (by omega), hf]
      simp [c260, k260, c1, k1, finish_nil2, hp]
    | true =>
      cases k2 : spnB a b with
      | false =>
        have hf : faC l (spnB a b) = 2 := by unfold faC; rw [k1, k2]; rfl
        have hp : plC l a b = 2 := by rw [plC, if_neg (by omega), hf]
        simp [c260, k260, c1, k1, call426, k2, finish_nil2, hp]
      | true =>
        obtain ⟨s1, s2, s3⟩ := spnB_is k2
        have w1 : IntKind.wrap .i64 (b - a) = b - a := wrap64 (by omega)
        have w2 : IntKind.wrap .i64 (b - a + 1) = b - a + 1 := wrap64 (by omega)
        by_cases h6 : 6 < l.length
        · have h6' : (6 : Int) < l.length := by omega
          have hf : faC l (spnB a b) = 3 := by unfold faC; rw [k1, k2, if_pos rfl, if_pos rfl, if_pos h6]
          have hp : plC l a b = 3 := by rw [plC, if_neg (by omega), hf]
          simp [c260, k260, c1, k1, call426, k2, h.lenV, h6, h6', skip, finish_nil2, hp]
        · have h6' : ¬ (6 : Int) < l.length := by omega
          have hf : faC l (spnB a b) = 0 := by unfold faC; rw [k1, k2, if_pos rfl, if_pos rfl, if_neg h6]
          have hgt : 40 < b - a + 1 := by
            unfold plC at hc; rw [if_pos hf] at hc
            split at hc
            · assumption
            · exact absurd rfl hc
          have hp : plC l a b = 3 := by rw [plC, if_pos hf, if_pos hgt]
          simp [c260, k260, c1, k1, call426, k2, h.lenV, h6, h6', w1, w2, hgt, finish_nil2, hp]
theorem andI_ok {a b : Int} : u16' (andI a b) := by
  have e0 : IntKind.bits .u16 = 16 := rfl
  unfold andI bitsOf
  simp only []
  have : (BitVec.ofInt (IntKind.bits .u16) a &&& BitVec.ofInt (IntKind.bits .u16) b).toNat < 2 ^ 16 := by rw [e0]; exact BitVec.isLt _
  rw [wrapu16 (by omega)]; omega
theorem andI_row {a b : Int} (ha : u16' a) (hb : u16' b) (h1 : okRow a = true) (h2 : okRow b = true) : okRow (andI a b) = true := by
  obtain ⟨n, rfl⟩ := Int.eq_ofNat_of_zero_le ha.1
  obtain ⟨m, rfl⟩ := Int.eq_ofNat_of_zero_le hb.1
  simp [okRow] at h1 h2 ⊢
  have e0 : IntKind.bits .u16 = 16 := rfl
  unfold andI bitsOf
  simp only []
  have e1 : (BitVec.ofInt (IntKind.bits .u16) (n : Int) &&& BitVec.ofInt (IntKind.bits .u16) (m : Int)).toNat = n &&& m := by
    rw [BitVec.toNat_and, e0, BitVec.ofInt_natCast, BitVec.ofInt_natCast, BitVec.toNat_ofNat, BitVec.toNat_ofNat, Nat.mod_eq_of_lt (show n < 2 ^ 16 by omega), Nat.mod_eq_of_lt (show m < 2 ^ 16 by omega)]
  have e2 : n &&& m < 2 ^ 12 := Nat.and_lt_two_pow n (show m < 2 ^ 12 by omega)
  rw [e1, wrapu16 (by omega)]; omega
theorem and_W {a b : List Int} : FrW (mixF andI a b) := mixF_W fun _ _ => andI_ok
theorem and_ok {a b : List Int} (ha : FrW a) (hb : FrW b) (h1 : okF a = true) (h2 : okF b = true) : okF (mixF andI a b) = true :=
  okF_true mixF_length fun i hi => by
    rw [mixF, nth_tabN hi]
    exact andI_row (ha.nth hi) (hb.nth hi) (List.all_eq_true.1 (show a.all okRow = true from h1) _ (nth_mem (by rw [ha.len]; exact hi))) (List.all_eq_true.1 (show b.all okRow = true from h2) _ (nth_mem (by rw [hb.len]; exact hi)))
theorem cntN_zero : ∀ v, v < 4096 → (cntN v = 0 ↔ v = 0) := by
  have : (List.range 4096).all (fun v => decide (cntN v = 0 ↔ v = 0)) = true := by decide +kernel
  intro v hv
  simpa using List.all_eq_true.1 this v (by simpa using hv)
theorem dotL_zrows {f : List Int} (hw : FrW f) (hk : okF f = true) {j : Nat} (hj : j ≤ 12) : (dotL f (j * 12)).length = 0 ↔ ∀ i, i < j → nth f i = 0 := by
  induction j with
  | zero =>
    rw [Nat.zero_mul, dotL_zero]
    exact ⟨fun _ i hi => by omega, fun _ => rfl⟩
  | succ j ih =>
    have ih := ih (by omega)
    obtain ⟨n, hn, hlt⟩ := okF_row hk hw (y := j) (by omega)
    have h1 := dotL_row (f := f) (y := j) (x := 12) (by omega)
    rw [row_cnt hn] at h1
    have h2 := cntN_zero n hlt
    rw [Nat.succ_mul, h1]
    constructor
    · intro h i hi
      by_cases hij : i < j
      · exact ih.1 (by omega) i hij
      · rw [show i = j by omega, hn]
        have := h2.1 (by omega)
        omega
    · intro h
      have h3 := ih.2 fun i hi => h i (by omega)
      have h4 := h j (by omega)
      have := h2.2 (by omega)
      omega
theorem cntF_zero {f : List Int} (hw : FrW f) (hk : okF f = true) : 0 < cntF f ↔ ¬ ∀ i, i < 12 → nth f i = 0 := by
  have := dotL_zrows hw hk (Nat.le_refl 12)
  rw [← this, show 12 * 12 = 144 from rfl]
  unfold cntF
  omega
def mtF (s1 s2 : Pt) (t : Int) : List Int := mixF andI (ptFr s1 t) (ptFr s2 t)
theorem mtF_W {s1 s2 : Pt} {t : Int} : FrW (mtF s1 s2 t) := and_W
theorem mtF_ok {s1 s2 : Pt} {t : Int} : okF (mtF s1 s2 t) = true := and_ok ptFr_W ptFr_W ptFr_ok ptFr_ok
def mtB (s1 s2 : Pt) (t : Int) : Bool := decide (0 < cntF (mtF s1 s2 t))
theorem mtB_true {s1 s2 : Pt} {t : Int} {j : Nat} (hj : j < 12) (h : nth (mtF s1 s2 t) j ≠ 0) : mtB s1 s2 t = true := by
  unfold mtB
  rw [decide_eq_true_eq, cntF_zero mtF_W mtF_ok]
  exact fun z => h (z j hj)
theorem mtB_false {s1 s2 : Pt} {t : Int} (h : ∀ i, i < 12 → nth (mtF s1 s2 t) i = 0) : mtB s1 s2 t = false := by
  unfold mtB
  rw [decide_eq_false_iff_not, cntF_zero mtF_W mtF_ok]
  exact fun z => z h
def mtL (s1 s2 : Pt) (A k : Nat) : List Int := itN (fun i r => if mtB s1 s2 (A + i : Nat) = true then r ++ [((A + i : Nat) : Int)] else r) [] k
theorem mtL_zero {s1 s2 : Pt} {A : Nat} : mtL s1 s2 A 0 = [] := itN_zero
theorem mtL_succ {s1 s2 : Pt} {A k : Nat} : mtL s1 s2 A (k + 1) = if mtB s1 s2 (A + k : Nat) = true then mtL s1 s2 A k ++ [((A + k : Nat) : Int)] else mtL s1 s2 A k := itN_succ
theorem mtL_len {s1 s2 : Pt} {A k : Nat} : (mtL s1 s2 A k).length ≤ k := by
  induction k with
  | zero => rw [mtL_zero]; exact Nat.le_refl _
  | succ k ih =>
    rw [mtL_succ]
    split
    · simp; exact ih
    · omega
def mtC (s1 s2 : Pt) (a b : Int) : Int := faC [s1, s2] (spnB a b)
def mtR (s1 s2 : Pt) (a b : Int) : List Int := if mtC s1 s2 a b = 0 then mtL s1 s2 a.toNat (b - a + 1).toNat else []
theorem two_pts {G : Heap} {s1 s2 : Pt} {y1 y2 : Value} (h1 : Kr G y1 s1) (h2 : Kr G y2 s2) : PtS (G ++ [⟨ptC s1 y1 ++ ptC s2 y2, 14, 0, false⟩]) (slc G.length 0 0 2 2) [s1, s2] := by
  have l1 := ptC_len (s := s1) (y := y1)
  have l2 := ptC_len (s := s2) (y := y2)
  refine ⟨ptC s1 y1 ++ ptC s2 y2, SlR.of (by simp [l1, l2]) (.inr ⟨_, 2, rfl, Nat.le_refl _, rd_last rfl (by simp [l1, l2]), _, get_last, rfl, rfl⟩), fun i hi => ?_⟩
  rcases i with _ | _ | i
  · refine ⟨y1, ?_, h1.pre Pre.one⟩
    show ((ptC s1 y1 ++ ptC s2 y2).drop (0 * 14)).take 14 = _
    rw [Nat.zero_mul, List.drop_zero, List.take_left' l1]; rfl
  · refine ⟨y2, ?_, h2.pre Pre.one⟩
    show ((ptC s1 y1 ++ ptC s2 y2).drop (1 * 14)).take 14 = _
    rw [Nat.one_mul, List.drop_left' l1, List.take_of_length_le (by omega)]; rfl
  · simp at hi; omega
theorem fill_pts {s1 s2 : Pt} {y1 y2 : Value} : fill (rep 2 ptZ) [(0, 14, agg (ptC s1 y1)), (14, 14, agg (ptC s2 y2))] = some (ptC s1 y1 ++ ptC s2 y2) := by
  have l1 := ptC_len (s := s1) (y := y1)
  have l2 := ptC_len (s := s2) (y := y2)
  have e1 : (rep 2 ptZ).length = 28 := rfl
  show (if (cellsOf (agg (ptC s1 y1))).length = 14 ∧ 0 + 14 ≤ (rep 2 ptZ).length then fill (splice (rep 2 ptZ) 0 (cellsOf (agg (ptC s1 y1)))) [(14, 14, agg (ptC s2 y2))] else none) = _
  rw [if_pos ⟨by simpa using l1, by rw [e1]; omega⟩]
  have e2 : splice (rep 2 ptZ) 0 (cellsOf (agg (ptC s1 y1))) = ptC s1 y1 ++ ptZ := by
    simp [splice, l1]
    rfl
  rw [e2]
  show (if (cellsOf (agg (ptC s2 y2))).length = 14 ∧ 14 + 14 ≤ (ptC s1 y1 ++ ptZ).length then fill (splice (ptC s1 y1 ++ ptZ) 14 (cellsOf (agg (ptC s2 y2)))) [] else none) = _
  rw [if_pos ⟨by simpa using l2, by simp [l1, ptZ_len]⟩]
  have e3 : splice (ptC s1 y1 ++ ptZ) 14 (cellsOf (agg (ptC s2 y2))) = ptC s1 y1 ++ ptC s2 y2 := by
    unfold splice
    rw [cellsOf_agg, List.take_left' l1, List.drop_eq_nil_of_le (by simp [l1, l2, ptZ_len]), List.append_nil]
  rw [e3]; rfl
theorem two_W {s1 s2 : Pt} (w1 : PtW s1) (w2 : PtW s2) (n1 : s1.ks.length ≤ 1000000) (n2 : s2.ks.length ≤ 1000000) : PtsW [s1, s2] :=
  ⟨fun s hs => by simp at hs; rcases hs with rfl | rfl <;> assumption, by simp, fun s hs => by simp at hs; rcases hs with rfl | rfl <;> assumption⟩
theorem okPts_two {s1 s2 : Pt} (h : okPts [s1, s2] = true) : okPt s1 = true ∧ okPt s2 = true := ⟨okPts_get h (i := 0) (by simp), okPts_get h (i := 1) (by simp)⟩
/-- What a function makes of two parts and a span. -/
def RsJ (f : Nat) (s1 s2 : Pt) (a b : Int) : Prop := ∀ (G : Heap) (y1 y2 : Value), Kr G y1 s1 → Kr G y2 s2 →
  ∃ r G' β, Call tab true f [agg (ptC s1 y1), agg (ptC s2 y2), .int .i64 a, .int .i64 b] G = some (tup [r, .int .i64 (mtC s1 s2 a b)], G') ∧ Pre G G' ∧ Own G' r β G.length 1 (mtR s1 s2 a b).length (cs .i64 (mtR s1 s2 a b))
theorem rs208 {s1 s2 : Pt} {a b : Int} (w1 : PtW s1) (w2 : PtW s2) (n1 : s1.ks.length ≤ 1000000) (n2 : s2.ks.length ≤ 1000000) : RsJ 208 s1 s2 a b := by
  intro H y1 y2 h1 h2
  have ld1 : ldc 14 true (agg (ptC s1 y1)) 0 = some (agg (ptC s1 y1)) := ldPall s1.len
  have ld2 : ldc 14 true (agg (ptC s2 y2)) 0 = some (agg (ptC s2 y2)) := ldPall s2.len
  obtain ⟨H1, hH1⟩ : ∃ H1, H1 = H ++ [(⟨ptC s1 y1 ++ ptC s2 y2, 14, 0, false⟩ : Blk)] := ⟨_, rfl⟩
  have hP : Pre H H1 := by rw [hH1]; exact Pre.one
  have hts : PtS H1 (slc H.length 0 0 2 2) [s1, s2] := by rw [hH1]; exact two_pts h1 h2
  have c1 := call425 (pu := true) hts (two_W w1 w2 n1 n2)
  by_cases hc : mtC s1 s2 a b = 0
  · obtain ⟨k1, k2, _⟩ := faC_ok hc
    obtain ⟨s1', s2', s3'⟩ := spnB_is k2
    obtain ⟨o1, o2⟩ := okPts_two k1
    have eR : mtR s1 s2 a b = mtL s1 s2 a.toNat (b - a + 1).toNat := by rw [mtR, if_pos hc]
    obtain ⟨A, rfl⟩ := Int.eq_ofNat_of_zero_le s1'
    obtain ⟨n, hn⟩ : ∃ n : Nat, b = (A : Int) + n := ⟨(b - A).toNat, by omega⟩
    subst hn
    have eT : mtR s1 s2 A (A + n) = mtL s1 s2 A (n + 1) := by rw [eR]; congr 1; omega
    rw [eT, hc]
    refine ⟨slc H.length 0 0 (mtL s1 s2 A (n + 1)).length (mtL s1 s2 A (n + 1)).length, H ++ [⟨cs .i64 (mtL s1 s2 A (n + 1)), 1, 0, false⟩], some H.length, Call_wp t208 (.inr rfl) rfl ?_, Pre.one, own_new (by simp)⟩
    have hf0 : fill (rep 0 [.int .i64 0]) [] = some [] := rfl
    simp [c208, k208, z14, ld1, ld2, fill_pts, ← hH1, c1, k1, call426, k2, hf0]
    refine WP_from 11 A (A + n + 1) _ rfl (fun i e G => e 4 = agg (ptC s1 y1) ∧ e 5 = agg (ptC s2 y2) ∧ e 3 = .int .i64 (A + n : Nat) ∧ ∃ g, e 10 = g ∧ Gr H G g 1 (mtL s1 s2 A (i - A)).length (cs .i64 (mtL s1 s2 A (i - A)))) (by omega) (by omega) ?_ ?_ (by simp) ⟨by simp, by simp, by simp, by simp [mtL_zero]; exact Gr.new hP⟩
    · rintro i e G hai hi hii e4 h11 ⟨h4, h5, h3, g, h10, hg⟩
      obtain ⟨k, rfl⟩ : ∃ k, i = A + k := ⟨i - A, by omega⟩
      rw [show A + k - A = k by omega] at hg
      rw [show A + k + 1 - A = k + 1 by omega]
      have q1 := call427 (pu := true) (t := ((A + k : Nat) : Int)) (h1.pre hg.pre) w1 o1 (by omega)
      have q2 := call427 (pu := true) (t := ((A + k : Nat) : Int)) (h2.pre hg.pre) w2 o2 (by omega)
      have q3 := call348 (pu := true) (H := G) (ptFr_W (s := s1) (t := ((A + k : Nat) : Int))).len (ptFr_W (s := s2) (t := ((A + k : Nat) : Int))).len
      have q4 := call393 (pu := true) (H := G) (mtF_W (s1 := s1) (s2 := s2) (t := ((A + k : Nat) : Int))) mtF_ok
      have e6 : mixF andI (ptFr s1 ((A + k : Nat) : Int)) (ptFr s2 ((A + k : Nat) : Int)) = mtF s1 s2 ((A + k : Nat) : Int) := rfl
      rw [e6] at q3
      have hle : ((A + k : Nat) : Int) ≤ ((A + n : Nat) : Int) := by omega
      have hml := mtL_len (s1 := s1) (s2 := s2) (A := A) (k := k)
      have hsucc := mtL_succ (s1 := s1) (s2 := s2) (A := A) (k := k)
      by_cases hB : 0 < cntF (mtF s1 s2 ((A + k : Nat) : Int))
      · have hb : mtB s1 s2 ((A + k : Nat) : Int) = true := by unfold mtB; exact decide_eq_true hB
        rw [if_pos hb] at hsucc
        obtain ⟨g', G', hpush, hg'⟩ := hg.push (c := [.int .i64 ((A + k : Nat) : Int)]) (bytes := 8) rfl (room8 (by omega)) (wb := false)
        have hf1 := fill_one (z := [.int .i64 0]) (v := .int .i64 ((A + k : Nat) : Int)) (esz := 1) rfl rfl
        rw [cs_push, ← hsucc] at hg'
        have hgl : (mtL s1 s2 A (k + 1)).length = (mtL s1 s2 A k).length + 1 := by rw [hsucc]; simp
        rw [← hgl] at hg'
        simp [b208_1, h11, h4, h5, h3, h10, hle, ld1, ld2, q1, q2, q3, q4, hB, hf1, hpush, wbOf, e4, -Int.natCast_add]
        exact hg'
      · have hb : ¬ mtB s1 s2 ((A + k : Nat) : Int) = true := by unfold mtB; rw [decide_eq_true_eq]; exact hB
        rw [if_neg hb] at hsucc
        simp [b208_1, h11, h4, h5, h3, h10, hle, ld1, ld2, q1, q2, q3, q4, hB, e4, hsucc, -Int.natCast_add]
        exact hg
    · rintro e G h11 ⟨h4, h5, h3, g, h10, hg⟩
      rw [show A + n + 1 - A = n + 1 by omega] at hg
      have hfin := hg.fin2 (c := 0) flat_cs
      have hnle : ¬ ((A + n + 1 : Nat) : Int) ≤ ((A + n : Nat) : Int) := by omega
      simp [b208_1, h11, h3, h10, hnle, hfin, -Int.natCast_add]
  · have eR : mtR s1 s2 a b = [] := by rw [mtR, if_neg hc]
    rw [eR]
    refine ⟨.slice none 0 0, H, none, Call_wp t208 (.inr rfl) rfl ?_, .refl, by simp [cs, Own]⟩
    cases k1 : okPts [s1, s2] with
    | false =>
      have hf : mtC s1 s2 a b = 1 := by unfold mtC faC; rw [k1]; rfl
      simp [c208, k208, z14, ld1, ld2, fill_pts, ← hH1, c1, k1, finish_nil2, hf, hP.take]
    | true =>
      cases k2 : spnB a b with
      | false =>
        have hf : mtC s1 s2 a b = 2 := by unfold mtC faC; rw [k1, k2]; rfl
        simp [c208, k208, z14, ld1, ld2, fill_pts, ← hH1, c1, k1, call426, k2, finish_nil2, hf, hP.take]
      | true =>
        exfalso; apply hc
        unfold mtC faC; rw [k1, k2]; rfl
theorem Gr.base {H H' G : Heap} {x : Value} {esz n : Nat} {vs : List Value} (g : Gr H' G x esz n vs) (p : Pre H H') : Gr H G x esz n vs := by
  obtain ⟨b, ver, rfl, h1, h2, h3, h4⟩ := g
  exact ⟨b, ver, rfl, h1, Nat.le_trans p.len h2, h3, p.trans h4⟩
theorem Gr.push' {H G : Heap} {x : Value} {esz n bytes n0 : Nat} {vs c : List Value} (g : Gr H G x esz n vs) (hn0 : n0 ≤ H.length) (hc : c.length = esz) (hb : (n + 1) * bytes ≤ roomMax) {wb : Bool} :
    ∃ x' G', ((srcOf esz (G ++ [⟨c, esz, 0, false⟩]) (slc G.length 0 0 1 1)).bind fun q => appendTo n0 wb esz bytes (G ++ [⟨c, esz, 0, false⟩]) x q.1 q.2) = some (x', G') ∧ Gr H G' x' esz (n + 1) (vs ++ c) := by
  obtain ⟨b, ver, rfl, h1, h2, h3, h4⟩ := g
  have h1' : (G ++ [(⟨c, esz, 0, false⟩ : Blk)])[b]? = some ⟨vs, esz, ver, false⟩ := by rw [List.getElem?_append_left (List.getElem?_eq_some_iff.1 h1).1]; exact h1
  have e1 : srcOf esz (G ++ [⟨c, esz, 0, false⟩]) (slc G.length 0 0 1 1) = some (1, c) := by
    show (rd (G ++ [⟨c, esz, 0, false⟩]) G.length 0 0 (1 * esz)).map (fun cs => (1, cs)) = _
    rw [Nat.one_mul, rd_last rfl (by simpa using hc)]; rfl
  refine ⟨slc b 0 (ver + 1) (n + 1) (n + 1), (G ++ [(⟨c, esz, 0, false⟩ : Blk)]).set b ⟨vs ++ c, esz, ver + 1, false⟩, ?_, b, ver + 1, rfl, get_set h1', h2, by simp [h3, hc, Nat.succ_mul], (h4.app).set h2⟩
  have h5 : n0 ≤ b := Nat.le_trans hn0 h2
  rw [e1, Option.bind_some]
  exact appendTo_grow h1' rfl rfl (by simp [may, h5]) rfl h3.symm (by omega) hb
theorem PtR.new {H G : Heap} {s : Pt} {y : Value} (h : Kr H y s) (p : Pre (H ++ [⟨ptC s y, 1, 0, false⟩]) G) : PtR G H.length 0 0 s y := by
  have hr : rd (H ++ [(⟨ptC s y, 1, 0, false⟩ : Blk)]) H.length 0 0 14 = some (ptC s y) := rd_last rfl ptC_len
  exact PtR.of (p.rd hr) ((h.pre Pre.one).pre p)
theorem rs206 {s1 s2 : Pt} {a b : Int} (w1 : PtW s1) (w2 : PtW s2) (n1 : s1.ks.length ≤ 1000000) (n2 : s2.ks.length ≤ 1000000) : RsJ 206 s1 s2 a b := by
  intro H y1 y2 h1 h2
  have l1 := ptC_len (s := s1) (y := y1)
  have l2 := ptC_len (s := s2) (y := y2)
  obtain ⟨H1, hH1⟩ : ∃ H1, H1 = H ++ [(⟨ptC s1 y1, 1, 0, false⟩ : Blk)] := ⟨_, rfl⟩
  obtain ⟨H2, hH2⟩ : ∃ H2, H2 = H1 ++ [(⟨ptC s2 y2, 1, 0, false⟩ : Blk)] := ⟨_, rfl⟩
  obtain ⟨H3, hH3⟩ : ∃ H3, H3 = H2 ++ [(⟨ptC s1 y1 ++ ptC s2 y2, 14, 0, false⟩ : Blk)] := ⟨_, rfl⟩
  have P1 : Pre H H1 := by rw [hH1]; exact Pre.one
  have P2 : Pre H1 H2 := by rw [hH2]; exact Pre.one
  have P3 : Pre H2 H3 := by rw [hH3]; exact Pre.one
  have P13 := P2.trans P3
  have P03 := P1.trans P13
  have rd1 : rd H2 H.length 0 0 14 = some (ptC s1 y1) := P2.rd (by rw [hH1]; exact rd_last rfl l1)
  have rd2 : rd H2 H1.length 0 0 14 = some (ptC s2 y2) := by rw [hH2]; exact rd_last rfl l2
  have h1' := h1.pre (P1.trans P2)
  have h2' := h2.pre (P1.trans P2)
  have hts : PtS H3 (slc H2.length 0 0 2 2) [s1, s2] := by rw [hH3]; exact two_pts h1' h2'
  have c1 := call421 (pu := true) (b := spnB a b) hts (two_W w1 w2 n1 n2)
  have e1 : (if okPts [s1, s2] = true then if spnB a b = true then if 6 < [s1, s2].length then (3 : Int) else 0 else 2 else 1) = mtC s1 s2 a b := rfl
  rw [e1] at c1
  have hf0 : fill (rep 0 [.int .i64 0]) [] = some [] := rfl
  by_cases hc : mtC s1 s2 a b = 0
  · obtain ⟨k1, k2, _⟩ := faC_ok hc
    obtain ⟨s1', s2', s3'⟩ := spnB_is k2
    obtain ⟨o1, o2⟩ := okPts_two k1
    have eR : mtR s1 s2 a b = mtL s1 s2 a.toNat (b - a + 1).toNat := by rw [mtR, if_pos hc]
    obtain ⟨A, rfl⟩ := Int.eq_ofNat_of_zero_le s1'
    obtain ⟨n, hn⟩ : ∃ n : Nat, b = (A : Int) + n := ⟨(b - A).toNat, by omega⟩
    subst hn
    have eT : mtR s1 s2 A (A + n) = mtL s1 s2 A (n + 1) := by rw [eR]; congr 1; omega
    rw [eT, hc]
    refine ⟨slc H.length 0 0 (mtL s1 s2 A (n + 1)).length (mtL s1 s2 A (n + 1)).length, H ++ [⟨cs .i64 (mtL s1 s2 A (n + 1)), 1, 0, false⟩], some H.length, Call_wp t206 (.inr rfl) rfl ?_, Pre.one, own_new (by simp)⟩
    simp [c206, k206, z14, l1, l2, ← hH1, ← hH2, rd1, rd2, fill_pts, ← hH3, call422, c1, hc, hf0]
    refine WP_from 12 A (A + n + 1) _ rfl (fun i e G => e 4 = adr H.length 0 0 ∧ e 5 = adr H1.length 0 0 ∧ e 3 = .int .i64 (A + n : Nat) ∧ ∃ g, e 11 = g ∧ Gr H3 G g 1 (mtL s1 s2 A (i - A)).length (cs .i64 (mtL s1 s2 A (i - A)))) (by omega) (by omega) ?_ ?_ (by simp) ⟨by simp, by simp, by simp, by simp [mtL_zero]; exact Gr.new .refl⟩
    · rintro i e G hai hi hii e4 h12 ⟨h4, h5, h3, g, h11, hg⟩
      obtain ⟨k, rfl⟩ : ∃ k, i = A + k := ⟨i - A, by omega⟩
      rw [show A + k - A = k by omega] at hg
      rw [show A + k + 1 - A = k + 1 by omega]
      have p1 : PtR G H.length 0 0 s1 y1 := PtR.new h1 (by rw [← hH1]; exact P13.trans hg.pre)
      have p2 : PtR G H1.length 0 0 s2 y2 := PtR.new (h2.pre P1) (by rw [← hH2]; exact P3.trans hg.pre)
      have q1 := call423 (pu := true) (t := ((A + k : Nat) : Int)) p1 w1 o1 (by omega)
      have q2 := call423 (pu := true) (t := ((A + k : Nat) : Int)) p2 w2 o2 (by omega)
      have f1 := (ptFr_W (s := s1) (t := ((A + k : Nat) : Int))).len
      have f2 := (ptFr_W (s := s2) (t := ((A + k : Nat) : Int))).len
      have g1 := stc_zr (k := .u16) (n := 12) (l := ptFr s1 ((A + k : Nat) : Int)) f1
      have g2 := stc_zr (k := .u16) (n := 12) (l := ptFr s2 ((A + k : Nat) : Int)) f2
      have hle : ((A + k : Nat) : Int) ≤ ((A + n : Nat) : Int) := by omega
      have hml := mtL_len (s1 := s1) (s2 := s2) (A := A) (k := k)
      have hsucc := mtL_succ (s1 := s1) (s2 := s2) (A := A) (k := k)
      have hmt : ∀ j, j < 12 → nth (mtF s1 s2 ((A + k : Nat) : Int)) j = andI (nth (ptFr s1 ((A + k : Nat) : Int)) j) (nth (ptFr s2 ((A + k : Nat) : Int)) j) := fun j hj => by rw [mtF, mixF, nth_tabN hj]
      have hB1 := fun j => mtB_true (s1 := s1) (s2 := s2) (t := ((A + k : Nat) : Int)) (j := j)
      have hB0 := mtB_false (s1 := s1) (s2 := s2) (t := ((A + k : Nat) : Int))
      generalize hFm : mtF s1 s2 ((A + k : Nat) : Int) = Fm at *
      generalize hF1 : ptFr s1 ((A + k : Nat) : Int) = F1 at *
      generalize hF2 : ptFr s2 ((A + k : Nat) : Int) = F2 at *
      simp [b206_2, h12, h4, h5, h3, h11, hle, q1, q2, zs_cs, agg_cs, f1, f2, g1, g2, -Int.natCast_add]
      refine WP_forH 15 12 12 rfl (by omega) (fun j e => e 4 = adr H.length 0 0 ∧ e 5 = adr H1.length 0 0 ∧ e 3 = .int .i64 (A + n : Nat) ∧ e 12 = .int .i64 (A + k : Nat) ∧ e 13 = iv .u16 F1 ∧ e 14 = iv .u16 F2 ∧ e 11 = g ∧ ∀ i, i < j → nth Fm i = 0) ?_ ?_ (by simp) ⟨by simp [h4], by simp [h5], by simp [h3], by simp [h12], by simp, by simp, by simp [h11], fun i hi => by omega⟩
      · rintro j e hj hjj e15 h15 ⟨h4, h5, h3, h12, h13, h14, h11, hz⟩
        have hm := hmt j hj
        by_cases h0 : nth Fm j = 0
        · rw [h0] at hm
          simp (disch := omega) [b206_1, h15, hjj, hj, h13, h14, f1, f2, andI_eq, ← hm, h4, h5, h3, h12, h11, e15, -Int.natCast_add]
          exact upto_succ hz h0
        · have hb := hB1 j hj h0
          rw [if_pos hb] at hsucc
          obtain ⟨g', G', hpush, hg'⟩ := hg.push' P03.len (c := [.int .i64 ((A + k : Nat) : Int)]) (bytes := 8) rfl (room8 (by omega)) (wb := false)
          have hf1 := fill_one (z := [.int .i64 0]) (v := .int .i64 ((A + k : Nat) : Int)) (esz := 1) rfl rfl
          rw [cs_push, ← hsucc] at hg'
          have hgl : (mtL s1 s2 A (k + 1)).length = (mtL s1 s2 A k).length + 1 := by rw [hsucc]; simp
          rw [← hgl] at hg'
          have hne : (nth Fm j != 0) = true := by simpa using h0
          rw [hm] at hne
          simp (disch := omega) [b206_1, h15, hjj, hj, h13, h14, f1, f2, andI_eq, hne, h4, h5, h3, h12, h11, hf1, hpush, wbOf, e4, -Int.natCast_add]
          exact hg'
      · rintro e h15 ⟨h4, h5, h3, h12, h13, h14, h11, hz⟩
        have hb := hB0 hz
        rw [hb, if_neg (by decide)] at hsucc
        simp [b206_1, h15, h4, h5, h3, h12, h11, e4, hsucc, -Int.natCast_add]
        exact hg
    · rintro e G h12 ⟨h4, h5, h3, g, h11, hg⟩
      rw [show A + n + 1 - A = n + 1 by omega] at hg
      have hfin := (hg.base P03).fin2 (c := 0) flat_cs
      have hnle : ¬ ((A + n + 1 : Nat) : Int) ≤ ((A + n : Nat) : Int) := by omega
      simp [b206_2, h12, h3, h11, hnle, hfin, -Int.natCast_add]
  · have eR : mtR s1 s2 a b = [] := by rw [mtR, if_neg hc]
    rw [eR]
    have hb : (mtC s1 s2 a b != 0) = true := by simpa using hc
    have hfin := (Gr.new (H := H) (G := H3) (esz := 1) P03).fin2 (c := mtC s1 s2 a b) (by intro v hv; simp at hv)
    refine ⟨slc H.length 0 0 0 0, H ++ [⟨[], 1, 0, false⟩], some H.length, Call_wp t206 (.inr rfl) rfl ?_, Pre.one, own_new (n := 0) rfl⟩
    simp [c206, k206, z14, l1, l2, ← hH1, ← hH2, rd1, rd2, fill_pts, ← hH3, call422, c1, hb, hf0, hfin]
/-- A source: a block of three cells; its bytes are elder. At most k bytes were taken. -/
def srB (x : Value) (i sd : Int) : Blk := ⟨[x, .int .i64 i, .int .u64 sd], 1, 0, false⟩
def Src (G : Heap) (P k : Nat) : Prop := ∃ x bs i sd, G[P]? = some (srB x i sd) ∧ SlR (G.take P) x 1 bs.length (cs .u8 bs) ∧ (∀ b ∈ bs, 0 ≤ b ∧ b ≤ 255) ∧ bs.length ≤ 1000000 ∧ 0 ≤ i ∧ i ≤ k
theorem pre_take {G G' : Heap} {n : Nat} (p : Pre G G') (hn : n ≤ G.length) : G'.take n = G.take n := by
  obtain ⟨L, rfl⟩ := p
  rw [List.take_append_of_le_length hn]
theorem Pre.takes {G : Heap} {n : Nat} : Pre (G.take n) G := ⟨G.drop n, (List.take_append_drop n G).symm⟩
theorem Src.lt {G : Heap} {P k : Nat} (h : Src G P k) : P < G.length := by
  obtain ⟨x, bs, i, sd, h1, _⟩ := h
  exact (List.getElem?_eq_some_iff.1 h1).1
theorem Src.le {G : Heap} {P k k' : Nat} (h : Src G P k) (hk : k ≤ k') : Src G P k' := by
  obtain ⟨x, bs, i, sd, h1, h2, h3, h4, h5, h6⟩ := h
  exact ⟨x, bs, i, sd, h1, h2, h3, h4, h5, by omega⟩
theorem Src.pre {G G' : Heap} {P k : Nat} (p : Pre G G') (h : Src G P k) : Src G' P k := by
  have hl := h.lt
  obtain ⟨x, bs, i, sd, h1, h2, h3⟩ := h
  exact ⟨x, bs, i, sd, by rw [p.get hl]; exact h1, by rw [pre_take p (Nat.le_of_lt hl)]; exact h2, h3⟩
/-- Nothing but the source's block has changed. -/
structure Mv (P : Nat) (G G' : Heap) : Prop where
  len : G'.length = G.length
  get : ∀ j, j ≠ P → G'[j]? = G[j]?
theorem Mv.refl {P : Nat} {G : Heap} : Mv P G G := ⟨rfl, fun _ _ => rfl⟩
theorem Mv.trans {P : Nat} {G G' G'' : Heap} (h : Mv P G G') (h' : Mv P G' G'') : Mv P G G'' := ⟨h'.len.trans h.len, fun j hj => (h'.get j hj).trans (h.get j hj)⟩
theorem Mv.set {P : Nat} {G : Heap} {k : Blk} : Mv P G (G.set P k) := ⟨by simp, fun j hj => List.getElem?_set_ne (Ne.symm hj)⟩
theorem Mv.take {P : Nat} {G G' : Heap} (h : Mv P G G') {n0 : Nat} (hn : n0 ≤ P) : G'.take n0 = G.take n0 := by
  apply List.ext_getElem?
  intro i
  rw [List.getElem?_take, List.getElem?_take]
  split
  · rw [h.get i (by omega)]
  · rfl
theorem Mv.rd {P : Nat} {G G' : Heap} (h : Mv P G G') {b off ver n : Nat} (hb : b ≠ P) : rd G' b off ver n = rd G b off ver n := by
  unfold Fb.rd
  rw [h.get b hb]
theorem Src.mv {P k : Nat} {G G' : Heap} (h : Src G P k) (hP : G'[P]? = G[P]?) (hj : ∀ j, j < P → G'[j]? = G[j]?) : Src G' P k := by
  obtain ⟨x, bs, i, sd, h1, h2, h3⟩ := h
  refine ⟨x, bs, i, sd, by rw [hP]; exact h1, ?_, h3⟩
  have : G'.take P = G.take P := by
    apply List.ext_getElem?
    intro j
    rw [List.getElem?_take, List.getElem?_take]
    split
    · exact hj j ‹_›
    · rfl
  rw [this]; exact h2
theorem Src.take {P k n : Nat} {G : Heap} (h : Src G P k) (hn : P < n) : Src (G.take n) P k :=
  h.mv (by rw [List.getElem?_take, if_pos hn]) fun j hj => by rw [List.getElem?_take, if_pos (by omega)]
theorem nthI_ok {bs : List Int} (h : ∀ b ∈ bs, 0 ≤ b ∧ b ≤ 255) {i : Nat} (hi : i < bs.length) : 0 ≤ nth bs i ∧ nth bs i ≤ 255 := h _ (nth_mem hi)
theorem and255 {x : Int} : 0 ≤ bitsOf .and .u64 x 255 ∧ bitsOf .and .u64 x 255 ≤ 255 := by
  have e0 : IntKind.bits .u64 = 64 := rfl
  unfold bitsOf
  simp only []
  have : (BitVec.ofInt (IntKind.bits .u64) x &&& BitVec.ofInt (IntKind.bits .u64) 255).toNat ≤ 255 := by
    rw [BitVec.toNat_and]
    exact Nat.and_le_right
  rw [wrapu64 (by omega)]; omega
theorem call550 {G : Heap} {P k : Nat} (h : Src G P k) (hk : k ≤ 1000000000000) : ∃ v G', Call tab false 550 [adr P 0 0] G = some (.int .i64 v, G') ∧ 0 ≤ v ∧ v ≤ 255 ∧ Mv P G G' ∧ Src G' P (k + 1) := by
  have key : ∃ r, Call tab false 550 [adr P 0 0] G = some r ∧ ∃ v G', r = (.int .i64 v, G') ∧ 0 ≤ v ∧ v ≤ 255 ∧ Mv P G G' ∧ Src G' P (k + 1) := by
    have hl := h.lt
    obtain ⟨x, bs, i, sd, h1, h2, h3, h4, h5, h6⟩ := h
    have hx : SlR G x 1 bs.length (cs .u8 bs) := h2.pre Pre.takes
    refine Call_ex t550 (.inl rfl) rfl ?_
    have r0 : ∀ i sd, rd (G.set P (srB x i sd)) P 0 0 1 = some [x] := fun i sd => rd_at (ver := 0) (get_set (k' := srB x i sd) h1) rfl (by simp [srB])
    have r1 : ∀ i sd, rd (G.set P (srB x i sd)) P 1 0 1 = some [.int .i64 i] := fun i sd => rd_at (ver := 0) (get_set (k' := srB x i sd) h1) rfl (by simp [srB])
    have r2 : ∀ i sd, rd (G.set P (srB x i sd)) P 2 0 1 = some [.int .u64 sd] := fun i sd => rd_at (ver := 0) (get_set (k' := srB x i sd) h1) rfl (by simp [srB])
    have w1 : ∀ i sd i', wr G.length true (G.set P (srB x i sd)) P 1 0 [.int .i64 i'] = some (G.set P (srB x i' sd)) := fun i sd i' => by
      have := wr_at (n0 := G.length) (wb := true) (off := 1) (vs := [.int .i64 i']) (ver := 0) (get_set (k' := srB x i sd) h1) rfl rfl (by simp [may]) (by simp [srB])
      rw [set_set] at this; exact this
    have w2 : ∀ i sd sd', wr G.length true (G.set P (srB x i sd)) P 2 0 [.int .u64 sd'] = some (G.set P (srB x i sd')) := fun i sd sd' => by
      have := wr_at (n0 := G.length) (wb := true) (off := 2) (vs := [.int .u64 sd']) (ver := 0) (get_set (k' := srB x i sd) h1) rfl rfl (by simp [may]) (by simp [srB])
      rw [set_set] at this; exact this
    have e9 : IntKind.wrap .i64 (i + 1) = i + 1 := wrap64 (by omega)
    have r0' := r0 i sd; have r1' := r1 i sd; have w1' := w1 i sd
    rw [set_self h1] at r0' r1' w1'
    have hS : ∀ sd', Src (G.set P (srB x (i + 1) sd')) P (k + 1) := fun sd' => ⟨x, bs, i + 1, sd', get_set h1, by rw [Mv.set.take (Nat.le_refl P)]; exact h2, h3, h4, by omega, by omega⟩
    obtain ⟨m, rfl⟩ := Int.eq_ofNat_of_zero_le h5
    by_cases hlt : m < bs.length
    · obtain ⟨q, off, ver, ha, hr⟩ := hx.get1 hlt
      rw [elem_i hlt] at hr
      have hb := nthI_ok h3 hlt
      have u1 : IntKind.wrap .i64 (nth bs m) = nth bs m := wrap64 (by omega)
      have hle : (m : Int) + 1 ≤ bs.length := by omega
      simp [c550, k550, r0', r1', hx.lenV, hlt, ha, hr, w1', e9, r0, r1, r2, w2, u1, hle, wbOf]
      exact ⟨_, _, ⟨rfl, rfl⟩, hb.1, hb.2, .set, hS _⟩
    · have hle : ¬ (m : Int) + 1 ≤ bs.length := by omega
      have hlt' : ¬ (m : Int) < bs.length := by omega
      have u2 : ∀ y, IntKind.wrap .i64 (bitsOf .and .u64 y 255) = bitsOf .and .u64 y 255 := fun y => wrap64 (by have := and255 (x := y); omega)
      have u3 : ∀ y, shiftOf .shr .u64 y 40 = some (.int .u64 (y.fdiv (2 ^ 40))) := fun y => rfl
      simp [c550, k550, r0', r1', hx.lenV, hlt, hlt', w1', e9, r0, r1, r2, w2, hle, wbOf, u2, u3]
      exact ⟨_, _, ⟨rfl, rfl⟩, and255.1, and255.2, .set, hS _⟩
  obtain ⟨r, hc, v, G', rfl, h⟩ := key
  exact ⟨v, G', hc, h⟩
theorem call459 {G : Heap} {P k : Nat} {n : Int} (h : Src G P k) (hk : k ≤ 100000000000) (hn : 1 ≤ n ∧ n ≤ 1000000) : ∃ v G', Call tab false 459 [adr P 0 0, .int .i64 n] G = some (.int .i64 v, G') ∧ (0 ≤ v ∧ v < n) ∧ Mv P G G' ∧ Src G' P (k + 2) := by
  have key : ∃ r, Call tab false 459 [adr P 0 0, .int .i64 n] G = some r ∧ ∃ v G', r = (.int .i64 v, G') ∧ (0 ≤ v ∧ v < n) ∧ Mv P G G' ∧ Src G' P (k + 2) := by
    refine Call_ex t459 (.inl rfl) rfl ?_
    by_cases h1 : n ≤ 1
    · simp [c459, k459, h1]
      exact ⟨_, _, ⟨rfl, rfl⟩, ⟨by omega, by omega⟩, .refl, h.le (by omega)⟩
    have hn0 : n ≠ 0 := by omega
    obtain ⟨v, G1, c1, v0, v1, m1, s1⟩ := call550 h (by omega)
    have hmod : ∀ a : Int, 0 ≤ a → a.tmod n = a % n ∧ 0 ≤ a % n ∧ a % n < n := fun a ha => ⟨Int.tmod_eq_emod_of_nonneg ha, Int.emod_nonneg _ hn0, Int.emod_lt_of_pos _ (by omega)⟩
    by_cases h2 : n > 200
    · obtain ⟨w, G2, c2, w0, w1, m2, s2⟩ := call550 s1 (by omega)
      have e1 : IntKind.wrap .i64 (v * 256) = v * 256 := wrap64 (by omega)
      have e2 : IntKind.wrap .i64 (v * 256 + w) = v * 256 + w := wrap64 (by omega)
      obtain ⟨g1, g2, g3⟩ := hmod (v * 256 + w) (by omega)
      have e3 : IntKind.wrap .i64 ((v * 256 + w) % n) = (v * 256 + w) % n := wrap64 (by omega)
      have m := m1.trans m2
      simp [c459, k459, h1, h2, c1, c2, wbOf, e1, e2, hn0, g1, e3]
      exact ⟨_, _, ⟨rfl, rfl⟩, ⟨g2, g3⟩, by rw [List.take_of_length_le (by rw [m.len]; exact Nat.le_refl _)]; exact ⟨m, s2⟩⟩
    · obtain ⟨g1, g2, g3⟩ := hmod v v0
      have e3 : IntKind.wrap .i64 (v % n) = v % n := wrap64 (by omega)
      have h2' : ¬ 200 < n := h2
      simp [c459, k459, h1, h2', c1, wbOf, hn0, g1, e3]
      exact ⟨_, _, ⟨rfl, rfl⟩, ⟨g2, g3⟩, by rw [List.take_of_length_le (by rw [m1.len]; exact Nat.le_refl _)]; exact ⟨m1, s1.le (by omega)⟩⟩
  obtain ⟨r, hc, v, G', rfl, h⟩ := key
  exact ⟨v, G', hc, h⟩
theorem call513 {G : Heap} {P k : Nat} {n : Int} (h : Src G P k) (hk : k ≤ 100000000000) (hn : 1 ≤ n ∧ n ≤ 1000000) : ∃ b G', Call tab false 513 [adr P 0 0, .int .i64 n] G = some (.bool b, G') ∧ Mv P G G' ∧ Src G' P (k + 2) := by
  obtain ⟨v, G', c, _, m, s⟩ := call459 h hk hn
  refine ⟨v == 0, G', Call_wp t513 (.inl rfl) rfl ?_, m, s⟩
  simp [c513, k513, c, wbOf]
  exact List.take_of_length_le (by rw [m.len]; exact Nat.le_refl _)
theorem SlR.old {H : Heap} {x : Value} {esz n : Nat} {vs : List Value} (h : SlR H x esz n vs) : old0 H.length x = true := by
  rcases h.is with ⟨rfl, _⟩ | ⟨b, off, ver, cap, rfl, _, _, k, hk, _⟩
  · rfl
  · rw [old0_slc]
    simpa using (List.getElem?_eq_some_iff.1 hk).1
theorem finish_adr {H G : Heap} {b ver : Nat} {k : Blk} (hp : Pre H G) (hb : H.length ≤ b) (hk : G[b]? = some k) (hv : ver = k.ver) (hr : k.ro = false) (ho : k.cells.all (old0 H.length) = true) :
    finish H.length G [adr b 0 ver] = (adr H.length 0 0, H ++ [{ k with ver := 0 }]) := by
  have h1 : old1 H.length (adr b 0 ver) = false := by
    show (decide (b < H.length)) = false
    simpa using hb
  have : pack H.length G [adr b 0 ver] [] [] = some ([adr H.length 0 0], [{ k with ver := 0 }]) := by
    rw [pack, if_neg (by rw [h1]; decide)]
    show (match G[b]? with
      | some k => if ([] : List Nat).contains b = false ∧ ver = k.ver ∧ k.ro = false ∧ k.cells.all (old0 H.length) = true then _ else none
      | none => none) = _
    rw [hk]
    simp only []
    rw [if_pos ⟨by simp, hv, hr, ho⟩]
    rfl
  rw [finish_some this, hp.take]; rfl
/-- A source anew. -/
theorem call315 {pu : Bool} {H : Heap} {x : Value} {bs : List Int} (hx : SlR H x 1 bs.length (cs .u8 bs)) (hb : ∀ b ∈ bs, 0 ≤ b ∧ b ≤ 255) (hn : bs.length ≤ 1000000) :
    Call tab pu 315 [x] H = some (adr H.length 0 0, H ++ [srB x 0 0]) ∧ Src (H ++ [srB x 0 0]) H.length 0 := by
  constructor
  · refine Call_wp t315 (.inr rfl) rfl ?_
    have hc : cellsOf x = [x] := by
      rcases hx.is with ⟨rfl, _⟩ | ⟨b, off, ver, cap, rfl, _⟩ <;> rfl
    have hf : fill [.slice none 0 0, .int .i64 0, .int .u64 0] [(0, 1, x)] = some [x, .int .i64 0, .int .u64 0] := by
      show (if (cellsOf x).length = 1 ∧ 0 + 1 ≤ 3 then fill (splice [.slice none 0 0, .int .i64 0, .int .u64 0] 0 (cellsOf x)) [] else none) = _
      rw [hc]; rfl
    have hfin := finish_adr (H := H) (G := H ++ [srB x 0 0]) (b := H.length) (ver := 0) Pre.one (Nat.le_refl _) get_last rfl rfl (by simp [srB, hx.old])
    have e1 : ({ srB x 0 0 with ver := 0 } : Blk) = srB x 0 0 := rfl
    rw [e1] at hfin
    simp only [srB] at hfin ⊢
    simp [c315, k315, hf, hfin]
  · refine ⟨x, bs, 0, 0, get_last, ?_, hb, hn, by omega, by omega⟩
    rw [List.take_left' rfl]
    exact hx
theorem fl_step {T : Tab} {n0 : Nat} {wb : Bool} {e : Env} {H H' : Heap} {Q : Ex → Env → Heap → Prop} {fs : List Fr} {d : Option Nat} {o : Op1} {r : List Stm} {e0 : Env} {outs : List Nat} {fl : List Opd} {v : Value}
    (h : apart e ⟨none, d, o, fl⟩ = true) (hv : ev1 (Call T) n0 wb e H o = some (v, H')) (hs : stays e H H' ⟨none, d, o, fl⟩ = true) :
    OK' T n0 wb (⟨none, d, o, fl⟩ :: r) e H e0 outs fs Q ↔ OK' T n0 wb r (put e d v) H' e0 outs fs Q := by
  unfold OK' OPS
  simp only [ops, wanted, h, hv, hs, if_true]
theorem orI_ok {a b : Int} : u16' (orI a b) := by
  have e0 : IntKind.bits .u16 = 16 := rfl
  unfold orI bitsOf
  simp only []
  have : (BitVec.ofInt (IntKind.bits .u16) a ||| BitVec.ofInt (IntKind.bits .u16) b).toNat < 2 ^ 16 := by rw [e0]; exact BitVec.isLt _
  rw [wrapu16 (by omega)]; omega
theorem orI_row {a b : Int} (ha : u16' a) (hb : u16' b) (h1 : okRow a = true) (h2 : okRow b = true) : okRow (orI a b) = true := by
  obtain ⟨n, rfl⟩ := Int.eq_ofNat_of_zero_le ha.1
  obtain ⟨m, rfl⟩ := Int.eq_ofNat_of_zero_le hb.1
  simp [okRow] at h1 h2 ⊢
  have e0 : IntKind.bits .u16 = 16 := rfl
  unfold orI bitsOf
  simp only []
  have e1 : (BitVec.ofInt (IntKind.bits .u16) (n : Int) ||| BitVec.ofInt (IntKind.bits .u16) (m : Int)).toNat = n ||| m := by
    rw [BitVec.toNat_or, e0, BitVec.ofInt_natCast, BitVec.ofInt_natCast, BitVec.toNat_ofNat, BitVec.toNat_ofNat, Nat.mod_eq_of_lt (show n < 2 ^ 16 by omega), Nat.mod_eq_of_lt (show m < 2 ^ 16 by omega)]
  have e2 : n ||| m < 2 ^ 12 := Nat.or_lt_two_pow (show n < 2 ^ 12 by omega) (show m < 2 ^ 12 by omega)
  rw [e1, wrapu16 (by omega)]; omega
/-- A valid frame. -/
structure VF (f : List Int) : Prop where
  W : FrW f
  ok : okF f = true
theorem VF.row {f : List Int} (h : VF f) {i : Nat} (hi : i < 12) : u16' (nth f i) ∧ okRow (nth f i) = true := ⟨h.W.nth hi, List.all_eq_true.1 (show f.all okRow = true from h.ok) _ (nth_mem (by rw [h.W.len]; exact hi))⟩
theorem VF.set {f : List Int} {i : Nat} {r : Int} (h : VF f) (hr : u16' r) (ho : okRow r = true) : VF (f.set i r) :=
  ⟨⟨by simp [h.W.len], fun n hn => (List.mem_or_eq_of_mem_set hn).elim (h.W.ok n) (fun e => by rw [e]; exact hr)⟩,
    List.all_eq_true.2 fun n hn => (List.mem_or_eq_of_mem_set hn).elim (fun h1 => List.all_eq_true.1 (show f.all okRow = true from h.ok) n h1) (fun e => by rw [e]; exact ho)⟩
theorem VF.zero : VF (zr 12 0) := ⟨⟨by simp, fun n hn => by simp [zr] at hn; subst hn; exact ⟨by omega, by omega⟩⟩, by decide⟩
theorem VF.put {f : List Int} {x y : Nat} (h : VF f) (hx : x < 12) (hy : y < 12) : VF (putF f x y) := by
  have hb := bit_ok hx
  obtain ⟨h1, h2⟩ := h.row hy
  exact h.set (orI_ok (a := nth f y) (b := bit x)) (orI_row h1 ⟨by omega, by omega⟩ h2 (by simp [okRow]; omega))
/-- In a function that draws: the source and a frame of its own. -/
structure Loc (G G' : Heap) (P k : Nat) (f : List Int) : Prop where
  src : Src G' P k
  fr : G'[G.length]? = some ⟨cs .u16 f, 1, 0, false⟩
  V : VF f
  len : G'.length = G.length + 1
  get : ∀ j, j < G.length → j ≠ P → G'[j]? = G[j]?
  lt : P < G.length
theorem Loc.mv {G G' G'' : Heap} {P k k' : Nat} {f : List Int} (h : Loc G G' P k f) (m : Mv P G' G'') (s : Src G'' P k') : Loc G G'' P k' f := by
  have := h.lt
  exact ⟨s, by rw [m.get _ (by omega)]; exact h.fr, h.V, by rw [m.len]; exact h.len, fun j hj hp => by rw [m.get j hp]; exact h.get j hj hp, h.lt⟩
theorem Loc.le {G G' : Heap} {P k k' : Nat} {f : List Int} (h : Loc G G' P k f) (hk : k ≤ k') : Loc G G' P k' f := ⟨h.src.le hk, h.fr, h.V, h.len, h.get, h.lt⟩
theorem Loc.set {G G' : Heap} {P k : Nat} {f g : List Int} (h : Loc G G' P k f) (hg : VF g) : Loc G (G'.set G.length ⟨cs .u16 g, 1, 0, false⟩) P k g := by
  have := h.lt
  exact ⟨h.src.mv (List.getElem?_set_ne (by omega)) fun j hj => List.getElem?_set_ne (by omega), get_set h.fr, hg, by simp [h.len], fun j hj hp => by rw [List.getElem?_set_ne (by omega)]; exact h.get j hj hp, h.lt⟩
theorem Loc.pick {G G' : Heap} {P k : Nat} {f : List Int} {n : Int} (h : Loc G G' P k f) (hk : k ≤ 100000000000) (hn : 1 ≤ n ∧ n ≤ 1000000) : ∃ v G'', Call tab false 459 [adr P 0 0, .int .i64 n] G' = some (.int .i64 v, G'') ∧ (0 ≤ v ∧ v < n) ∧ Loc G G'' P (k + 2) f ∧ G''[G.length]? = G'[G.length]? := by
  obtain ⟨v, G'', c, hv, m, s⟩ := call459 h.src hk hn
  exact ⟨v, G'', c, hv, h.mv m s, m.get _ (by have := h.lt; omega)⟩
theorem Loc.done {G G' : Heap} {P k : Nat} {f : List Int} (h : Loc G G' P k f) : Mv P G (G'.take G.length) ∧ Src (G'.take G.length) P k :=
  ⟨⟨by simp [h.len], fun j hj => by
    rw [List.getElem?_take]
    split
    · exact h.get j ‹_› hj
    · exact (List.getElem?_eq_none (by omega)).symm⟩, h.src.take h.lt⟩
def XY (u v : Value) : Prop := ∃ x y : Nat, x < 12 ∧ y < 12 ∧ u = .int .i64 x ∧ v = .int .i64 y
theorem XY.mk {x y : Int} (hx : 0 ≤ x ∧ x < 12) (hy : 0 ≤ y ∧ y < 12) : XY (.int .i64 x) (.int .i64 y) := by
  obtain ⟨a, rfl⟩ := Int.eq_ofNat_of_zero_le hx.1
  obtain ⟨b, rfl⟩ := Int.eq_ofNat_of_zero_le hy.1
  exact ⟨a, b, by omega, by omega, rfl, rfl⟩
theorem call368 {G : Heap} {P k : Nat} (h : Src G P k) (hk : k ≤ 10000000000) : ∃ f G', Call tab false 368 [adr P 0 0] G = some (iv .u16 f, G') ∧ VF f ∧ Mv P G G' ∧ Src G' P (k + 200) := by
  have key : ∃ r, Call tab false 368 [adr P 0 0] G = some r ∧ ∃ f G', r = (iv .u16 f, G') ∧ VF f ∧ Mv P G G' ∧ Src G' P (k + 200) := by
    refine Call_ex t368 (.inl rfl) rfl ?_
    have hl := h.lt
    obtain ⟨G1, hG1⟩ : ∃ G1, G1 = G ++ [(⟨cs .u16 (zr 12 0), 1, 0, false⟩ : Blk)] := ⟨_, rfl⟩
    have hwr : wr G.length true G1 G.length 0 0 (cs .u16 (zr 12 0)) = some G1 := by
      rw [hG1, wr_last (b := ⟨cs .u16 (zr 12 0), 1, 0, false⟩) rfl rfl (Nat.le_refl _) (by simp)]
    have L1 : Loc G G1 P k (zr 12 0) := by
      have p : Pre G G1 := by rw [hG1]; exact Pre.one
      exact ⟨h.pre p, by rw [hG1]; exact get_last, .zero, by rw [hG1]; simp, fun j hj _ => p.get hj, hl⟩
    obtain ⟨x, G2, c2, hx, L2, _⟩ := L1.pick (n := 12) (by omega) (by omega)
    obtain ⟨y, G3, c3, hy, L3, _⟩ := L2.pick (n := 12) (by omega) (by omega)
    obtain ⟨N, G4, c4, hN, L4, _⟩ := L3.pick (n := 14) (by omega) (by omega)
    obtain ⟨N, rfl⟩ := Int.eq_ofNat_of_zero_le hN.1
    obtain ⟨x, rfl⟩ := Int.eq_ofNat_of_zero_le hx.1
    obtain ⟨y, rfl⟩ := Int.eq_ofNat_of_zero_le hy.1
    simp [c368, k368, fill, zs_cs, agg_cs, ← hG1, hwr, wbOf, c2, c3, c4]
    refine WK_loop (fun i e G' => e 0 = adr P 0 0 ∧ e 2 = iv .u16 (zr 12 0) ∧ e 3 = adr G.length 0 0 ∧ XY (e 4) (e 5) ∧ e 6 = .int .i64 ((N - i : Nat) : Int) ∧ ∃ f, Loc G G' P (k + 6 + i * 8) f) N ?_ (Nat.zero_le _)
      ⟨by simp, by simp, by simp, by simp; exact .mk hx hy, by simp, _, by rw [Nat.zero_mul]; exact L4⟩
    rintro i e G' _ hi ⟨h0, h2, h3, ⟨x, y, hx, hy, h4, h5⟩, h6, f, L⟩
    by_cases hiN : i = N
    · subst hiN
      rw [Nat.sub_self] at h6
      obtain ⟨b, G5, c5, m5, s5⟩ := call513 (n := 8) L.src (by omega) (by omega)
      have L5 := L.mv m5 s5
      have fin : ∀ {G6 : Heap} {g : List Int} {k' : Nat}, Loc G G6 P k' g → k' ≤ k + 200 → ∃ r, some (iv .u16 g, G6.take G.length) = some r ∧ ∃ f G', r = (iv .u16 f, G') ∧ VF f ∧ Mv P G G' ∧ Src G' P (k + 200) := fun L6 hk' =>
        ⟨_, rfl, _, _, rfl, L6.V, L6.done.1, L6.done.2.le hk'⟩
      cases b with
      | false =>
        have hr := rd_at (off := 0) (n := 12) (ver := 0) L5.fr rfl (by simp [L5.V.W.len])
        simp [take_all, L5.V.W.len] at hr
        have s3 := stc_zr (k := .u16) (n := 12) (l := f) L5.V.W.len
        simp [b368_1, h0, h2, h3, h6, c5, wbOf, hr, s3, agg_cs, L5.V.W.len]
        exact ⟨_, _, ⟨rfl, rfl⟩, _, _, ⟨rfl, rfl⟩, L5.V, L5.done.1, L5.done.2.le (by omega)⟩
      | true =>
        simp [b368_1, h0, h2, h3, h6, c5, wbOf]
        refine WP_count 7 12 12 rfl (fun j e G' => e 0 = adr P 0 0 ∧ e 2 = iv .u16 (zr 12 0) ∧ e 3 = adr G.length 0 0 ∧ ∃ f, Loc G G' P (k + 6 + i * 8 + 2 + j * 2) f) (by omega) ?_ ?_ (by simp) ⟨by simp [h0], by simp [h2], by simp [h3], _, L5⟩
        · rintro j e G' _ hj hjj e4 h7 ⟨h0, h2, h3, g, L⟩
          obtain ⟨v, G6, c6, hv, L6, hget⟩ := L.pick (n := 4096) (by omega) (by omega)
          have hr := rd_at (off := 0) (n := 12) (ver := 0) L.fr rfl (by simp [L.V.W.len])
          simp [take_all, L.V.W.len] at hr
          have hr1 := rd_one hr hj
          rw [Nat.zero_add] at hr1
          have hw := wr_at (n0 := G.length) (wb := true) (off := j) (vs := [.int .u16 (orI (nth g j) v)]) (ver := 0) L6.fr rfl rfl (by simp [may]) (by simp [L6.V.W.len]; omega)
          have hsp : splice (cs .u16 g) j [.int .u16 (orI (nth g j) v)] = cs .u16 (g.set j (orI (nth g j) v)) := by rw [splice_one (by simp [L6.V.W.len]; omega)]; simp [cs, List.map_set]
          simp only [hsp] at hw
          obtain ⟨q1, q2⟩ := L6.V.row hj
          have uv : u16' v := ⟨by omega, by omega⟩
          have L7 := L6.set (L6.V.set (i := j) (orI_ok (a := nth g j) (b := v)) (orI_row q1 uv q2 (by simp [okRow]; omega)))
          simp [b368_2, h7, h0, h2, h3, hjj, hj, hr1]
          rw [fl_step (v := .int .i64 v) (H' := G6) (by simp [apart, blkOf, adr, mods]) (by simp [h0, c6]) (by simp [stays, blkOf, adr, hget])]
          have u1 : IntKind.wrap .u16 v = v := wrapu16 (by omega)
          have e9 : bitsOf .or .u16 (nth g j) v = orI (nth g j) v := rfl
          simp [h0, h2, h3, hj, u1, e9, hw, wbOf, h7, e4]
          exact ⟨_, L7.le (by omega)⟩
        · rintro e G' _ h7 ⟨h0, h2, h3, g, L⟩
          have hr := rd_at (off := 0) (n := 12) (ver := 0) L.fr rfl (by simp [L.V.W.len])
          simp [take_all, L.V.W.len] at hr
          have s3 := stc_zr (k := .u16) (n := 12) (l := g) L.V.W.len
          simp [b368_2, h7, h0, h2, h3, wbOf, hr, s3, agg_cs, L.V.W.len]
          exact ⟨_, _, ⟨rfl, rfl⟩, _, _, ⟨rfl, rfl⟩, L.V, L.done.1, L.done.2.le (by omega)⟩
    · have hpos : 0 < N - i := by omega
      have p1 := call305 L.fr L.V.W.len hx hy
      have L5 := L.set (L.V.put hx hy)
      obtain ⟨v, G6, c6, hv, L6, _⟩ := L5.pick (n := 6) (by omega) (by omega)
      have e6 : IntKind.wrap .i64 (((N - i : Nat) : Int) - 1) = ((N - (i + 1) : Nat) : Int) := by rw [wrap64 (by omega)]; omega
      have hiN' : i < N := by omega
      have fin : ∀ {x' y' : Int} {G7 : Heap}, (0 ≤ x' ∧ x' < 12) → (0 ≤ y' ∧ y' < 12) → Loc G G7 P (k + 6 + i * 8 + 6) (putF f x y) → XY (.int .i64 x') (.int .i64 y') ∧ ∃ f, Loc G G7 P (k + 6 + (i + 1) * 8) f := fun hx' hy' L7 => ⟨.mk hx' hy', _, L7.le (by omega)⟩
      have hmod : ∀ a : Int, 0 ≤ a → a ≤ 1000 → IntKind.wrap .i64 (a.tmod 12) = a.tmod 12 ∧ 0 ≤ a.tmod 12 ∧ a.tmod 12 < 12 := fun a ha hb => by
        have h1 : a.tmod 12 = a % 12 := Int.tmod_eq_emod_of_nonneg ha
        rw [h1]
        exact ⟨wrap64 (by omega), by omega, by omega⟩
      have hv' : v = 0 ∨ v = 1 ∨ v = 2 ∨ (v ≠ 0 ∧ v ≠ 1 ∧ v ≠ 2) := by omega
      rcases hv' with rfl | rfl | rfl | ⟨v0, v1, v2⟩
      · obtain ⟨x', G7, c7, hx', L7, _⟩ := L6.pick (n := 12) (by omega) (by omega)
        obtain ⟨y', G8, c8, hy', L8, _⟩ := L7.pick (n := 12) (by omega) (by omega)
        simp [b368_1, h0, h2, h3, h4, h5, h6, hpos, p1, c6, c7, c8, e6, wbOf]
        exact ⟨hiN', fin hx' hy' (L8.le (by omega))⟩
      · obtain ⟨m1, m2⟩ := hmod ((x : Int) + 1) (by omega) (by omega)
        have e7 : IntKind.wrap .i64 ((x : Int) + 1) = (x : Int) + 1 := wrap64 (by omega)
        simp [b368_1, h0, h2, h3, h4, h5, h6, hpos, p1, c6, e6, e7, m1, wbOf]
        exact ⟨hiN', fin m2 ⟨by omega, by omega⟩ (L6.le (by omega))⟩
      · obtain ⟨m1, m2⟩ := hmod ((x : Int) + 1) (by omega) (by omega)
        have e7 : IntKind.wrap .i64 ((x : Int) + 1) = (x : Int) + 1 := wrap64 (by omega)
        simp [b368_1, h0, h2, h3, h4, h5, h6, hpos, p1, c6, e6, e7, m1, wbOf]
        exact ⟨hiN', fin m2 ⟨by omega, by omega⟩ (L6.le (by omega))⟩
      · obtain ⟨w, G7, c7, hw, L7, _⟩ := L6.pick (n := 3) (by omega) (by omega)
        obtain ⟨m1, m2⟩ := hmod ((y : Int) + w + 11) (by omega) (by omega)
        have v0 : (v == 0) = false := by simpa using v0
        have v1 : (v == 1) = false := by simpa using v1
        have v2 : (v == 2) = false := by simpa using v2
        have e7 : IntKind.wrap .i64 ((y : Int) + w) = (y : Int) + w := wrap64 (by omega)
        have e8 : IntKind.wrap .i64 ((y : Int) + w + 11) = (y : Int) + w + 11 := wrap64 (by omega)
        simp [b368_1, h0, h2, h3, h4, h5, h6, hpos, p1, c6, c7, e6, e7, e8, m1, v0, v1, v2, wbOf]
        exact ⟨hiN', fin ⟨by omega, by omega⟩ m2 (L7.le (by omega))⟩
  obtain ⟨r, hc, v, G', rfl, h⟩ := key
  exact ⟨v, G', hc, h⟩
structure Lo2 (G G' : Heap) (P k : Nat) (x : Value) (L : List (List Int)) (f : List Int) : Prop where
  src : Src G' P k
  ls : ∃ ver, x = slc G.length 0 ver L.length L.length ∧ G'[G.length]? = some ⟨bkC L, 12, ver, false⟩
  VL : ∀ g ∈ L, VF g
  fr : G'[G.length + 1]? = some ⟨cs .u16 f, 1, 0, false⟩
  V : VF f
  len : G.length + 2 ≤ G'.length
  get : ∀ j, j < G.length → j ≠ P → G'[j]? = G[j]?
  lt : P < G.length
theorem Lo2.mv {G G' G'' : Heap} {P k k' : Nat} {x : Value} {L : List (List Int)} {f : List Int} (h : Lo2 G G' P k x L f) (m : Mv P G' G'') (s : Src G'' P k') : Lo2 G G'' P k' x L f := by
  have := h.lt
  exact ⟨s, by obtain ⟨ver, e, g⟩ := h.ls; exact ⟨ver, e, by rw [m.get _ (by omega)]; exact g⟩, h.VL, by rw [m.get _ (by omega)]; exact h.fr, h.V, by rw [m.len]; exact h.len, fun j hj hp => by rw [m.get j hp]; exact h.get j hj hp, h.lt⟩
theorem Lo2.le {G G' : Heap} {P k k' : Nat} {x : Value} {L : List (List Int)} {f : List Int} (h : Lo2 G G' P k x L f) (hk : k ≤ k') : Lo2 G G' P k' x L f := ⟨h.src.le hk, h.ls, h.VL, h.fr, h.V, h.len, h.get, h.lt⟩
theorem Lo2.set {G G' : Heap} {P k : Nat} {x : Value} {L : List (List Int)} {f g : List Int} (h : Lo2 G G' P k x L f) (hg : VF g) : wr G.length true G' (G.length + 1) 0 0 (cs .u16 g) = some (G'.set (G.length + 1) ⟨cs .u16 g, 1, 0, false⟩) ∧ Lo2 G (G'.set (G.length + 1) ⟨cs .u16 g, 1, 0, false⟩) P k x L g := by
  have hl := h.lt
  have hlen := h.len
  have hw := wr_at (n0 := G.length) (wb := true) (off := 0) (vs := cs .u16 g) (ver := 0) h.fr rfl rfl (by simp [may]) (by simp [h.V.W.len, hg.W.len])
  have hsp : splice (cs .u16 f) 0 (cs .u16 g) = cs .u16 g := by
    unfold splice
    rw [List.take_zero, List.nil_append, Nat.zero_add, List.drop_eq_nil_of_le (by simp [h.V.W.len, hg.W.len]), List.append_nil]
  simp only [hsp] at hw
  exact ⟨hw, h.src.mv (List.getElem?_set_ne (by omega)) fun j hj => List.getElem?_set_ne (by omega), by obtain ⟨ver, e, g⟩ := h.ls; exact ⟨ver, e, by rw [List.getElem?_set_ne (by omega)]; exact g⟩, h.VL, get_set h.fr, hg, by simpa using hlen,
    fun j hj hp => by rw [List.getElem?_set_ne (by omega)]; exact h.get j hj hp, hl⟩
theorem Lo2.pick {G G' : Heap} {P k : Nat} {x : Value} {L : List (List Int)} {f : List Int} {n : Int} (h : Lo2 G G' P k x L f) (hk : k ≤ 100000000000) (hn : 1 ≤ n ∧ n ≤ 1000000) : ∃ v G'', Call tab false 459 [adr P 0 0, .int .i64 n] G' = some (.int .i64 v, G'') ∧ (0 ≤ v ∧ v < n) ∧ Lo2 G G'' P (k + 2) x L f := by
  obtain ⟨v, G'', c, hv, m, s⟩ := call459 h.src hk hn
  exact ⟨v, G'', c, hv, h.mv m s⟩
theorem vl_size {L : List (List Int)} (h : ∀ g ∈ L, VF g) : (bkC L).length = L.length * 12 := bkC_length fun f hf => (h f hf).W
theorem Lo2.push {G G' : Heap} {P k : Nat} {x : Value} {L : List (List Int)} {f : List Int} (h : Lo2 G G' P k x L f) (hn : L.length ≤ 1000000) :
    ∃ x' G'', ((srcOf 12 (G' ++ [⟨cs .u16 f, 12, 0, false⟩]) (slc G'.length 0 0 1 1)).bind fun q => appendTo G.length true 12 24 (G' ++ [⟨cs .u16 f, 12, 0, false⟩]) x q.1 q.2) = some (x', G'') ∧ Lo2 G G'' P k x' (L ++ [f]) f := by
  have hl := h.lt
  have hlen := h.len
  have hf := h.V.W.len
  have hs := vl_size h.VL
  have hfr := h.fr
  have hsrc := h.src
  have hget := h.get
  obtain ⟨ver, rfl, g⟩ := h.ls
  have gA : ∀ j, j < G'.length → (G' ++ [(⟨cs .u16 f, 12, 0, false⟩ : Blk)])[j]? = G'[j]? := fun j hj => List.getElem?_append_left hj
  have g' : (G' ++ [(⟨cs .u16 f, 12, 0, false⟩ : Blk)])[G.length]? = some ⟨bkC L, 12, ver, false⟩ := by rw [gA _ (by omega)]; exact g
  have e1 : srcOf 12 (G' ++ [⟨cs .u16 f, 12, 0, false⟩]) (slc G'.length 0 0 1 1) = some (1, cs .u16 f) := by
    show (rd (G' ++ [⟨cs .u16 f, 12, 0, false⟩]) G'.length 0 0 (1 * 12)).map (fun cs => (1, cs)) = _
    rw [Nat.one_mul, rd_last rfl (by simpa using hf)]; rfl
  have e2 : (L ++ [f]).length = L.length + 1 := by simp
  refine ⟨slc G.length 0 (ver + 1) (L.length + 1) (L.length + 1), (G' ++ [(⟨cs .u16 f, 12, 0, false⟩ : Blk)]).set G.length ⟨bkC L ++ cs .u16 f, 12, ver + 1, false⟩, ?_, ?_⟩
  · rw [e1, Option.bind_some]
    exact appendTo_grow g' rfl rfl (by simp [may]) rfl hs.symm (by omega) (room24 (by omega))
  · refine ⟨hsrc.mv (by rw [List.getElem?_set_ne (by omega), gA _ (by omega)]) fun j hj => by rw [List.getElem?_set_ne (by omega), gA _ (by omega)], ⟨ver + 1, by rw [e2], by rw [get_set g', bkC_push]⟩, fun g hg => ?_, by rw [List.getElem?_set_ne (by omega), gA _ (by omega)]; exact hfr, h.V, by simp; omega, fun j hj hp => by rw [List.getElem?_set_ne (by omega), gA _ (by omega)]; exact hget j hj hp, hl⟩
    rcases List.mem_append.1 hg with h1 | h1
    · exact h.VL g h1
    · rw [List.mem_singleton.1 h1]; exact h.V
theorem finish_slc' {H G : Heap} {b ver len cap : Nat} {k : Blk} (hb : H.length ≤ b) (hk : G[b]? = some k) (hv : ver = k.ver) (hr : k.ro = false) (ho : k.cells.all (old0 H.length) = true) :
    finish H.length G [slc b 0 ver len cap] = (slc H.length 0 0 len cap, G.take H.length ++ [{ k with ver := 0 }]) := by
  have hne : old1 H.length (slc b 0 ver len cap) = false := by
    show (true && decide (b < H.length)) = false
    simp; omega
  have : pack H.length G [slc b 0 ver len cap] [] [] = some ([slc H.length 0 0 len cap], [{ k with ver := 0 }]) := by
    rw [pack, if_neg (by rw [hne]; decide)]
    show (match G[b]? with
      | some k => if ([] : List Nat).contains b = false ∧ ver = k.ver ∧ k.ro = false ∧ k.cells.all (old0 H.length) = true then _ else none
      | none => none) = _
    rw [hk]
    simp only []
    rw [if_pos ⟨by simp, hv, hr, ho⟩]
    rfl
  rw [finish_some this]; rfl
theorem Lo2.done {G G' : Heap} {P k : Nat} {x : Value} {L : List (List Int)} {f : List Int} (h : Lo2 G G' P k x L f) :
    finish G.length G' [x] = (slc G.length 0 0 L.length L.length, G'.take G.length ++ [⟨bkC L, 12, 0, false⟩]) ∧ Mv P G (G'.take G.length) ∧ Src (G'.take G.length) P k := by
  have hlen := h.len
  refine ⟨?_, ⟨by simp; omega, fun j hj => ?_⟩, h.src.take h.lt⟩
  · obtain ⟨ver, rfl, g⟩ := h.ls
    rw [finish_slc' (Nat.le_refl _) g rfl rfl bkC_flat.all]
  · rw [List.getElem?_take]
    split
    · exact h.get j ‹_› hj
    · exact (List.getElem?_eq_none (by omega)).symm
/-- In a function that draws: the source, and blocks of the call's own behind. -/
structure Lo0 (G G' : Heap) (P k : Nat) : Prop where
  src : Src G' P k
  len : G.length ≤ G'.length
  get : ∀ j, j < G.length → j ≠ P → G'[j]? = G[j]?
  lt : P < G.length
theorem Lo0.mv {G G' G'' : Heap} {P k k' : Nat} (h : Lo0 G G' P k) (m : Mv P G' G'') (s : Src G'' P k') : Lo0 G G'' P k' :=
  ⟨s, by rw [m.len]; exact h.len, fun j hj hp => by rw [m.get j hp]; exact h.get j hj hp, h.lt⟩
theorem Lo0.pre {G G' G'' : Heap} {P k : Nat} (h : Lo0 G G' P k) (p : Pre G' G'') : Lo0 G G'' P k := by
  have h1 := h.len
  exact ⟨h.src.pre p, Nat.le_trans h1 p.len, fun j hj hp => by rw [p.get (by omega)]; exact h.get j hj hp, h.lt⟩
theorem Lo0.le {G G' : Heap} {P k k' : Nat} (h : Lo0 G G' P k) (hk : k ≤ k') : Lo0 G G' P k' := ⟨h.src.le hk, h.len, h.get, h.lt⟩
theorem Lo0.done {G G' : Heap} {P k : Nat} (h : Lo0 G G' P k) : Mv P G (G'.take G.length) ∧ Src (G'.take G.length) P k := by
  have h1 := h.len
  refine ⟨⟨by simp; omega, fun j hj => ?_⟩, h.src.take h.lt⟩
  rw [List.getElem?_take]
  split
  · exact h.get j ‹_› hj
  · exact (List.getElem?_eq_none (by omega)).symm
/-- Valid light. -/
structure VL (l : List Int) : Prop where
  len : l.length = 144
  ok : okAll l = true
theorem VL.i16 {l : List Int} (h : VL l) : ∀ n ∈ l, i16 n := fun n hn => by
  have := List.all_eq_true.1 (show l.all okL = true from h.ok) n hn
  simp [okL] at this
  exact ⟨by omega, by omega⟩
theorem VL.set {l : List Int} {i : Nat} {v : Int} (h : VL l) (hv : 0 ≤ v ∧ v ≤ 1000) : VL (l.set i v) :=
  ⟨by simp [h.len], List.all_eq_true.2 fun n hn => (List.mem_or_eq_of_mem_set hn).elim (fun h1 => List.all_eq_true.1 (show l.all okL = true from h.ok) n h1) (fun e => by rw [e]; simpa [okL] using hv)⟩
theorem VL.zero : VL (zr 144 0) := ⟨by simp, by decide⟩
theorem bit_get {n : Nat} {i : Nat} (h : i < 16) : (BitVec.ofInt 16 (n : Int)).getLsbD i = n.testBit i := by
  rw [BitVec.ofInt_natCast, BitVec.getLsbD_ofNat]
  simp [h]
theorem dotB_vec {v : BitVec 16} {i : Nat} : dotB (IntKind.wrap .u16 (v.toNat : Int)) i = v.getLsbD i := by
  have := v.isLt
  rw [wrapu16 (by omega), dotB_bit]
  exact BitVec.testBit_toNat v
theorem or_dot {a b : Int} (ha : u16' a) (hb : u16' b) {i : Nat} (hi : i < 16) : dotB (orI a b) i = (dotB a i || dotB b i) := by
  obtain ⟨n, rfl⟩ := Int.eq_ofNat_of_zero_le ha.1
  obtain ⟨m, rfl⟩ := Int.eq_ofNat_of_zero_le hb.1
  rw [dotB_bit, dotB_bit, ← bit_get hi, ← bit_get hi, ← BitVec.getLsbD_or]
  exact dotB_vec
theorem hasF_dots {p : Nat → Nat → Bool} {x y : Nat} (hx : x < 12) (hy : y < 12) : hasF (dotsF p) x y = p x y := by
  rw [hasF, dotsF_nth hy, dotB_bit, rowN_bit]; simp [hx]
theorem VF.dots {f : List Int} (h : VF f) : dotsF (hasF f) = f := by
  refine (ext_nth (by rw [dotsF_length, h.W.len]) fun y hy => ?_)
  rw [dotsF_length] at hy
  obtain ⟨n, hn, hlt⟩ := okF_row h.ok h.W hy
  rw [dotsF_nth hy, hn]
  have := rowN_eq (q := fun x => hasF f x y) (n := n) (m := 12) hlt fun x hx => by rw [hasF, hn, dotB_bit]
  rw [← this]
theorem VF.ext {f g : List Int} (hf : VF f) (hg : VF g) (h : ∀ x y, x < 12 → y < 12 → hasF f x y = hasF g x y) : f = g := by
  rw [← hf.dots, ← hg.dots]
  exact dotsF_congr h
theorem mix_or {f g : List Int} (hf : VF f) (hg : VF g) {x y : Nat} (hx : x < 12) (hy : y < 12) : hasF (mixF orI f g) x y = (hasF f x y || hasF g x y) := by
  rw [hasF, mixF, nth_tabN hy]; exact or_dot (hf.row hy).1 (hg.row hy).1 (by omega)
theorem mixV {op : Int → Int → Int} {f g : List Int} (hf : VF f) (hg : VF g) (h : ∀ a b, u16' a → u16' b → okRow a = true → okRow b = true → u16' (op a b) ∧ okRow (op a b) = true) : VF (mixF op f g) := by
  have key : ∀ i, i < 12 → u16' (nth (mixF op f g) i) ∧ okRow (nth (mixF op f g) i) = true := fun i hi => by
    rw [mixF, nth_tabN hi]
    exact h _ _ (hf.row hi).1 (hg.row hi).1 (hf.row hi).2 (hg.row hi).2
  exact ⟨⟨mixF_length, fun n hn => by obtain ⟨i, hi, rfl⟩ := mem_nth hn; rw [mixF_length] at hi; exact (key i hi).1⟩, okF_true mixF_length fun i hi => (key i hi).2⟩
theorem and_V {f g : List Int} (hf : VF f) (hg : VF g) : VF (mixF andI f g) := mixV hf hg fun _ _ h1 h2 h3 h4 => ⟨andI_ok, andI_row h1 h2 h3 h4⟩
theorem or_V {f g : List Int} (hf : VF f) (hg : VF g) : VF (mixF orI f g) := mixV hf hg fun _ _ h1 h2 h3 h4 => ⟨orI_ok, orI_row h1 h2 h3 h4⟩
theorem hasF_zero {x y : Nat} (hx : x < 12) (hy : y < 12) : hasF (zr 12 0) x y = false := by rw [← dotsF_none, hasF_dots hx hy]
/-- A list of bytes in memory. -/
structure By (H : Heap) (x : Value) (bs : List Int) : Prop where
  s : SlR H x 1 bs.length (cs .u8 bs)
  b : ∀ v ∈ bs, 0 ≤ v ∧ v ≤ 255
theorem By.pre {H G : Heap} {x : Value} {bs : List Int} (p : Pre H G) (h : By H x bs) : By G x bs := ⟨h.s.pre p, h.b⟩
theorem call169 {pu : Bool} {H : Heap} {x : Value} {bs : List Int} (hx : By H x bs) : Call tab pu 169 [x] H = some (.bool (decide (4096 < bs.length)), H) := by
  refine Call_wp t169 (.inr rfl) rfl ?_
  simp [c169, k169, hx.s.lenV]
  omega
theorem call327 {pu : Bool} {H : Heap} {p q o o' v v' : Nat} {a b : List Int} (ha : VF a) (hb : VF b) (h1 : rd H p o v 12 = some (cs .u16 a)) (h2 : rd H q o' v' 12 = some (cs .u16 b)) : Call tab pu 327 [adr p o v, adr q o' v'] H = some (.int .i64 0, H) := by
  refine Call_wp t327 (.inr rfl) rfl ?_
  simp [c327, k327, call359 ha.W.len h1, call359 hb.W.len h2, ha.ok, hb.ok]
/-- In a function that draws: the source, and a list of the call's own in the first new block. -/
structure LoG (G G' : Heap) (P k : Nat) (x : Value) (esz n : Nat) (vs : List Value) : Prop where
  src : Src G' P k
  ls : ∃ ver, x = slc G.length 0 ver n n ∧ G'[G.length]? = some ⟨vs, esz, ver, false⟩
  size : vs.length = n * esz
  len : G.length + 1 ≤ G'.length
  get : ∀ j, j < G.length → j ≠ P → G'[j]? = G[j]?
  lt : P < G.length
theorem LoG.mv {G G' G'' : Heap} {P k k' esz n : Nat} {x : Value} {vs : List Value} (h : LoG G G' P k x esz n vs) (m : Mv P G' G'') (s : Src G'' P k') : LoG G G'' P k' x esz n vs := by
  have := h.lt
  exact ⟨s, by obtain ⟨ver, e, g⟩ := h.ls; exact ⟨ver, e, by rw [m.get _ (by omega)]; exact g⟩, h.size, by rw [m.len]; exact h.len, fun j hj hp => by rw [m.get j hp]; exact h.get j hj hp, h.lt⟩
theorem LoG.le {G G' : Heap} {P k k' esz n : Nat} {x : Value} {vs : List Value} (h : LoG G G' P k x esz n vs) (hk : k ≤ k') : LoG G G' P k' x esz n vs := ⟨h.src.le hk, h.ls, h.size, h.len, h.get, h.lt⟩
theorem LoG.pick {G G' : Heap} {P k esz m : Nat} {x : Value} {vs : List Value} {n : Int} (h : LoG G G' P k x esz m vs) (hk : k ≤ 100000000000) (hn : 1 ≤ n ∧ n ≤ 1000000) : ∃ v G'', Call tab false 459 [adr P 0 0, .int .i64 n] G' = some (.int .i64 v, G'') ∧ (0 ≤ v ∧ v < n) ∧ LoG G G'' P (k + 2) x esz m vs := by
  obtain ⟨v, G'', c, hv, mv, s⟩ := call459 h.src hk hn
  exact ⟨v, G'', c, hv, h.mv mv s⟩
theorem LoG.new {G : Heap} {P k esz : Nat} (h : Src G P k) : LoG G (G ++ [⟨[], esz, 0, false⟩]) P k (slc G.length 0 0 0 0) esz 0 [] :=
  ⟨h.pre Pre.one, ⟨0, rfl, get_last⟩, by simp, by simp, fun j hj _ => Pre.one.get hj, h.lt⟩
theorem LoG.push {G G' : Heap} {P k esz n bytes : Nat} {x : Value} {vs c : List Value} (h : LoG G G' P k x esz n vs) (hc : c.length = esz) (hb : (n + 1) * bytes ≤ roomMax) :
    ∃ x' G'', ((srcOf esz (G' ++ [⟨c, esz, 0, false⟩]) (slc G'.length 0 0 1 1)).bind fun q => appendTo G.length true esz bytes (G' ++ [⟨c, esz, 0, false⟩]) x q.1 q.2) = some (x', G'') ∧ LoG G G'' P k x' esz (n + 1) (vs ++ c) := by
  have hl := h.lt
  have hlen := h.len
  have hsrc := h.src
  have hget := h.get
  have hs := h.size
  obtain ⟨ver, rfl, g⟩ := h.ls
  have gA : ∀ j, j < G'.length → (G' ++ [(⟨c, esz, 0, false⟩ : Blk)])[j]? = G'[j]? := fun j hj => List.getElem?_append_left hj
  have g' : (G' ++ [(⟨c, esz, 0, false⟩ : Blk)])[G.length]? = some ⟨vs, esz, ver, false⟩ := by rw [gA _ (by omega)]; exact g
  have e1 : srcOf esz (G' ++ [⟨c, esz, 0, false⟩]) (slc G'.length 0 0 1 1) = some (1, c) := by
    show (rd (G' ++ [⟨c, esz, 0, false⟩]) G'.length 0 0 (1 * esz)).map (fun cs => (1, cs)) = _
    rw [Nat.one_mul, rd_last rfl (by simpa using hc)]; rfl
  refine ⟨slc G.length 0 (ver + 1) (n + 1) (n + 1), (G' ++ [(⟨c, esz, 0, false⟩ : Blk)]).set G.length ⟨vs ++ c, esz, ver + 1, false⟩, ?_, ?_⟩
  · rw [e1, Option.bind_some]
    exact appendTo_grow g' rfl rfl (by simp [may]) rfl hs.symm (by omega) hb
  · exact ⟨hsrc.mv (by rw [List.getElem?_set_ne (by omega), gA _ (by omega)]) fun j hj => by rw [List.getElem?_set_ne (by omega), gA _ (by omega)], ⟨ver + 1, rfl, get_set g'⟩, by simp [hs, hc, Nat.succ_mul], by simp; omega,
      fun j hj hp => by rw [List.getElem?_set_ne (by omega), gA _ (by omega)]; exact hget j hj hp, hl⟩
theorem LoG.cell {G G' : Heap} {P k esz n i : Nat} {x v : Value} {vs : List Value} (h : LoG G G' P k x esz n vs) (hi : i < n * esz) (hv : old0 0 v = true) {ver : Nat} (hx : x = slc G.length 0 ver n n) :
    ∃ G'', wr G.length true G' G.length i ver [v] = some G'' ∧ LoG G G'' P k x esz n (vs.set i v) := by
  have hl := h.lt
  have hs := h.size
  obtain ⟨ver', e, g⟩ := h.ls
  rw [hx] at e
  have hve : ver = ver' := by
    have := e
    simp [slc] at this
    exact this
  subst hve
  have hw := wr_at (n0 := G.length) (wb := true) (off := i) (vs := [v]) (ver := ver) g rfl rfl (by simp [may]) (by simp; omega)
  simp only [splice_one (show i < vs.length by omega)] at hw
  exact ⟨_, hw, h.src.mv (List.getElem?_set_ne (by omega)) fun j hj => List.getElem?_set_ne (by omega), ⟨ver, hx, get_set g⟩, by simpa using hs, by simpa using h.len, fun j hj hp => by rw [List.getElem?_set_ne (by omega)]; exact h.get j hj hp, hl⟩
theorem LoG.rd {G G' : Heap} {P k esz n o m : Nat} {x : Value} {vs : List Value} (h : LoG G G' P k x esz n vs) {ver : Nat} (hx : x = slc G.length 0 ver n n) (ho : o + m ≤ n * esz) : Fb.rd G' G.length o ver m = some ((vs.drop o).take m) := by
  obtain ⟨ver', e, g⟩ := h.ls
  rw [hx] at e
  have hve : ver = ver' := by
    have := e
    simp [slc] at this
    exact this
  subst hve
  exact rd_at (ver := ver) g rfl (by rw [h.size]; exact ho)
theorem LoG.done {G G' : Heap} {P k esz n : Nat} {x : Value} {vs : List Value} (h : LoG G G' P k x esz n vs) (hf : NoRef vs) :
    finish G.length G' [x] = (slc G.length 0 0 n n, G'.take G.length ++ [⟨vs, esz, 0, false⟩]) ∧ Mv P G (G'.take G.length) ∧ Src (G'.take G.length) P k := by
  have hlen := h.len
  refine ⟨?_, ⟨by simp; omega, fun j hj => ?_⟩, h.src.take h.lt⟩
  · obtain ⟨ver, rfl, g⟩ := h.ls
    rw [finish_slc' (Nat.le_refl _) g rfl rfl hf.all]
  · rw [List.getElem?_take]
    split
    · exact h.get j ‹_› hj
    · exact (List.getElem?_eq_none (by omega)).symm
theorem keys_list {n : Nat} {p : Nat → Ky → Prop} : ∀ {vs : List Value}, vs.length = n * 3 → (∀ i, i < n → ∃ k, elem vs 3 i = kyC k ∧ p i k) → ∃ ks : List Ky, ks.length = n ∧ vs = kysC ks ∧ ∀ i, i < n → p i (ky ks i) := by
  induction n generalizing p with
  | zero => intro vs hl _; exact ⟨[], rfl, List.length_eq_zero_iff.1 (by omega), fun i hi => by omega⟩
  | succ n ih =>
    intro vs hl h
    obtain ⟨k, e, hp⟩ := h 0 (by omega)
    obtain ⟨ks, h1, h2, h3⟩ := ih (p := fun i => p (i + 1)) (vs := vs.drop 3) (by simp; omega) fun i hi => by
      obtain ⟨k, e, hp⟩ := h (i + 1) (by omega)
      refine ⟨k, ?_, hp⟩
      rw [← e]
      unfold elem
      rw [List.drop_drop, Nat.succ_mul, Nat.add_comm]
    refine ⟨k :: ks, by simp [h1], ?_, fun i hi => ?_⟩
    · show vs = kyC k ++ kysC ks
      rw [← h2, ← e]
      unfold elem
      rw [Nat.zero_mul, List.drop_zero, List.take_append_drop]
    · cases i with
      | zero => exact hp
      | succ i => exact h3 i (by omega)
/-- Keys of a drawn track: all behind one another, ahead of t. -/
structure KG (ks : List Ky) (t : Int) : Prop where
  r : ∀ i, i < ks.length → (0 ≤ (ky ks i).1 ∧ (ky ks i).1 < t) ∧ (-6 ≤ (ky ks i).2.1 ∧ (ky ks i).2.1 ≤ 6) ∧ -6 ≤ (ky ks i).2.2 ∧ (ky ks i).2.2 ≤ 6
  s : ∀ i, i + 1 < ks.length → (ky ks i).1 < (ky ks (i + 1)).1
theorem ky_push {ks : List Ky} {k : Ky} {i : Nat} : ky (ks ++ [k]) i = if i < ks.length then ky ks i else if i = ks.length then k else default := by
  unfold ky at0
  rw [List.getD_eq_getElem?_getD, List.getElem?_append]
  split
  · rw [List.getD_eq_getElem?_getD]
  · rename_i h
    split
    · rename_i h2; subst h2; simp
    · rw [List.getElem?_eq_none (by simp; omega)]; rfl
theorem KG.push {ks : List Ky} {t t' a b : Int} (h : KG ks t) (ht : 0 ≤ t) (htt : t < t') (ha : -6 ≤ a ∧ a ≤ 6) (hb : -6 ≤ b ∧ b ≤ 6) : KG (ks ++ [(t, a, b)]) t' := by
  refine ⟨fun i hi => ?_, fun i hi => ?_⟩
  · have hi : i < ks.length + 1 := by simpa using hi
    rw [ky_push]
    by_cases h1 : i < ks.length
    · rw [if_pos h1]; have := h.r i h1; exact ⟨by omega, this.2⟩
    · rw [if_neg h1, if_pos (by omega)]; exact ⟨⟨ht, htt⟩, ha, hb⟩
  · have hi : i + 1 < ks.length + 1 := by simpa using hi
    rw [ky_push, ky_push, if_pos (by omega)]
    by_cases h1 : i + 1 < ks.length
    · rw [if_pos h1]; exact h.s i h1
    · rw [if_neg h1, if_pos (by omega)]; exact (h.r i (by omega)).1.2
theorem kysC_push {ks : List Ky} {k : Ky} : kysC ks ++ kyC k = kysC (ks ++ [k]) := by rw [kysC, kysC, rowsC_app]; simp [rowsC]
/-- Valid tracks by their keys. -/
theorem okTk_of {ks : List Ky} (h1 : 1 ≤ ks.length) (h2 : ks.length ≤ 20) (hr : ∀ i, i < ks.length → (0 ≤ (ky ks i).1 ∧ (ky ks i).1 ≤ 200) ∧ (-24 ≤ (ky ks i).2.1 ∧ (ky ks i).2.1 ≤ 24) ∧ -24 ≤ (ky ks i).2.2 ∧ (ky ks i).2.2 ≤ 24)
    (hs : ∀ i, i + 1 < ks.length → (ky ks i).1 < (ky ks (i + 1)).1) : okTk ks = true := by
  have e1 : in1 ks.length 1 20 = true := by simp [in1]; omega
  unfold okTk
  rw [e1, Bool.and_true]
  refine allN_true fun i hi => ?_
  have := hr i hi
  have e2 : (decide (i = 0) || decide ((ky ks (i - 1)).1 < (ky ks i).1)) = true := by
    by_cases h0 : i = 0
    · simp [h0]
    · have := hs (i - 1) (by omega)
      rw [show i - 1 + 1 = i by omega] at this
      simp [this]
  unfold kyB
  rw [e2, Bool.and_true]
  simp [in1, this]
theorem room4' {n : Nat} (h : n ≤ 1000000) : (n + 1) * 4 ≤ roomMax := by have : roomMax = 140737488355328 := rfl; omega
/-- A drawn track. -/
structure DT (ks : List Ky) : Prop where
  n1 : 1 ≤ ks.length
  n5 : ks.length ≤ 5
  ok : okTk ks = true
theorem KG.DT {ks : List Ky} {t : Int} (h : KG ks t) (h1 : 1 ≤ ks.length) (h5 : ks.length ≤ 5) (ht : t ≤ 100) : DT ks :=
  ⟨h1, h5, okTk_of h1 (by omega) (fun i hi => by have := h.r i hi; omega) h.s⟩
end Fb
