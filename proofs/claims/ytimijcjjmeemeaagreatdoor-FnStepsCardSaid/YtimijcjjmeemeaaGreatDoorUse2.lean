/- What each function computes. -/
import Derived.Test.YtimijcjjmeemeaaGreatDoorUse1
set_option linter.unusedVariables false
set_option linter.unusedSimpArgs false
namespace Fb
open Go
theorem call418 {pu : Bool} {H : Heap} {x : Value} {l : List Sted} (h : StS H x l) (hw : StsW l) (hk : okSts l = true) : Call tab pu 418 [x] H = some (slc H.length 0 0 l.length l.length, H ++ [⟨bkC (decL l l.length), 12, 0, false⟩]) := by
  refine Call_wp t418 (.inr rfl) rfl ?_
  have hn := hw.n
  have hn40 := okSts_len hk
  have hz := stc_zr (k := .u16) (n := 12) (l := zr 12 0) (by simp)
  simp [c418, k418, fill, rep, zs_cs]
  refine WP_count 4 l.length l.length rfl (fun i e G => e 0 = x ∧ ∃ g, e 3 = g ∧ Gr H G g 12 i (bkC (decL l i))) (by omega) ?_ ?_ (by simp) (by simp [decL_zero, bkC, rowsC]; exact Gr.new .refl)
  · rintro i e G _ hi hii e4 h4 ⟨h0, g, h3, hg⟩
    obtain ⟨q, off, ver, y, ha, hrd, hrw⟩ := (h.pre hg.pre).get hi
    simp only [stC] at hrd
    have hok := okSts_get hk hi
    have hrb := okSt_rows hok
    have hBW : BkW (decL l i) := fun f hf => (decL_ok hk (by omega) f hf).1
    have hsl : Bk G g (decL l i) := by
      have := hg.sl
      unfold Bk
      rw [decL_len]
      exact this
    have hwst := hw.w _ (at0_mem hi)
    have hr6 := hw.r _ (at0_mem hi)
    have hdec : decF (at0 l i) (decL l i) = rowsX (baseF (at0 l i) (decL l i)) (at0 l i) (at0 l i).rows.length := rfl
    have hdl : (decF (at0 l i) (decL l i)).length = 12 := by rw [hdec]; exact rowsX_length baseF_ok.1.len
    obtain ⟨g', G', hpush, hg'⟩ := hg.push (c := cs .u16 (decF (at0 l i) (decL l i))) (bytes := 24) (by simp [hdl]) (room24 (by omega)) (wb := false)
    have hbk : bkC (decL l i) ++ cs .u16 (decF (at0 l i) (decL l i)) = bkC (decL l (i + 1)) := by rw [decL_succ, bkC, bkC, rowsC_app]; simp [rowsC, frC]
    rw [hbk] at hg'
    have hBl := (baseF_ok (s := at0 l i) (v := decL l i)).1.len
    have ha2 := okSt_a hok
    have hc : IntKind.wrap .i64 (at0 l i).c = (at0 l i).c := wrap64 (by have := hwst.c; omega)
    have hd : IntKind.wrap .i64 (at0 l i).d = (at0 l i).d := wrap64 (by have := hwst.d; omega)
    cases hz0 : (at0 l i).a == 0 with
    | true =>
      have hb : baseF (at0 l i) (decL l i) = zr 12 0 := by rw [baseF, if_pos hz0]
      have hz1 : ((at0 l i).a == 1) = false := by have := eq_of_beq hz0; simp [this]
      have hz2 : ((at0 l i).a == 2) = false := by have := eq_of_beq hz0; simp [this]
      simp [b418_2, h0, h4, hii, h.lenV, ha, hrd, stc5, ldc5a, hz1, hz2, zs_cs, agg_cs, fill, hz, wbOf]
      refine inner418 (B := zr 12 0) (by simp) hrw hrb hr6 (by simp; exact h0) (by simp; exact h3) (by simp; exact h4) (by simp [stC]) (by simp) (by simp) fun e' q0 q3 q4 q6 => ?_
      rw [← hb, ← hdec] at q6
      simp [q0, q3, q4, q6, zs_cs, hdl, fillF hdl, hpush, e4]
      exact hg'
    | false =>
      obtain ⟨m, hm, hmi⟩ := depB hk hi hz0
      obtain ⟨q2, off2, ver2, ha2', hr2⟩ := Bk.get hsl hBW (i := m) (by rw [decL_len]; exact hmi)
      rw [idxAV_k (k' := .i8)] at ha2'
      obtain ⟨fw, fo⟩ := decL_ok hk (k := i) (by omega) (fr (decL l i) m) (at0_mem (by rw [decL_len]; exact hmi))
      have hb : baseF (at0 l i) (decL l i) = shF (fr (decL l i) m) (at0 l i).c (at0 l i).d := by rw [baseF, if_neg (by rw [hz0]; decide), hm]; rfl
      have hzl := stc_zr (k := .u16) (n := 12) (l := shF (fr (decL l i) m) (at0 l i).c (at0 l i).d) shF_length
      cases hz1 : (at0 l i).a == 1 with
      | true =>
        obtain ⟨ec, ed⟩ := okSt_still hok hz1
        rw [ec, ed, shF_still fw fo] at hb
        have hzl := stc_zr (k := .u16) (n := 12) (l := fr (decL l i) m) fw.len
        simp [b418_2, h0, h3, h4, hii, h.lenV, ha, hrd, stc5, ldc5a, ldc5b, hz1, hm, ha2', hr2, zs_cs, agg_cs, fill, hz, hzl, fw.len, wbOf]
        refine inner418 (B := fr (decL l i) m) fw.len hrw hrb hr6 (by simp; exact h0) (by simp; exact h3) (by simp; exact h4) (by simp [stC, hm]) (by simp) (by simp) fun e' q0 q3 q4 q6 => ?_
        rw [← hb, ← hdec] at q6
        simp [q0, q3, q4, q6, zs_cs, hdl, fillF hdl, hpush, e4]
        exact hg'
      | false =>
        have hz2 : ((at0 l i).a == 2) = true := by
          simp at hz0 hz1 ⊢; omega
        have hcl := call355 (pu := true) (dx := (at0 l i).c) (dy := (at0 l i).d) fw hr2 (by have := hwst.c; omega) (by have := hwst.d; omega)
        simp [b418_2, h0, h3, h4, hii, h.lenV, ha, hrd, stc5, ldc5a, ldc5b, ldc5c, ldc5d, hz1, hz2, hm, ha2', hc, hd, hcl, zs_cs, agg_cs, fill, hz, hzl, shF_length, wbOf]
        refine inner418 (B := shF (fr (decL l i) m) (at0 l i).c (at0 l i).d) shF_length hrw hrb hr6 (by simp; exact h0) (by simp; exact h3) (by simp; exact h4) (by simp [stC, hm]) (by simp) (by simp) fun e' q0 q3 q4 q6 => ?_
        rw [← hb, ← hdec] at q6
        simp [q0, q3, q4, q6, zs_cs, hdl, fillF hdl, hpush, e4]
        exact hg'
  · rintro e G _ h4 ⟨h0, g, h3, hg⟩
    have hfin := hg.fin bkC_flat
    simp [b418_2, h4, h0, h.lenV, h3, hfin]
/-- The rows of a step, put over a frame: the impl. -/
theorem inner419 {n0 : Nat} {G : Heap} {s : Sted} {y x g : Value} {i n : Int} {B : List Int} (hB : B.length = 12) (hrw : Rw G y s) (hs : rowsB s = true) (hn : s.rows.length ≤ 1000000) {fs : List Fr} {Q : Ex → Env → Heap → Prop} {e : Env}
    (h0 : e 10 = x) (h3 : e 3 = g) (h4 : e 12 = .int .i64 i) (h5 : e 11 = .int .i64 n) (h33 : e 33 = y) (h34 : e 34 = .int .i64 s.rows.length) (h6 : e 6 = iv .u16 B) (h7 : e 35 = .int .i64 0)
    (hq : ∀ e', e' 10 = x → e' 3 = g → e' 12 = .int .i64 i → e' 11 = .int .i64 n → e' 6 = iv .u16 (rowsX B s s.rows.length) → KK tab n0 false (.exit 2) fs e' G Q) : WK tab n0 false (.loop b419_1) fs e G Q := by
  refine WP_forH 35 s.rows.length _ rfl (by omega) (fun k e => e 10 = x ∧ e 3 = g ∧ e 12 = .int .i64 i ∧ e 11 = .int .i64 n ∧ e 33 = y ∧ e 34 = .int .i64 s.rows.length ∧ e 6 = iv .u16 (rowsX B s k)) ?_ ?_ h7 ⟨h0, h3, h4, h5, h33, h34, by rw [rowsX_zero]; exact h6⟩
  · rintro k e hk hkk e4 h7 ⟨h0, h3, h4, h5, h33, h34, h6⟩
    obtain ⟨q, off, ver, ha, hr, hr1, hr2⟩ := Rw.at hrw hk
    obtain ⟨m, hm, hm12, u, o⟩ := rowB_get (allN_get (p := rowB s) hs hk)
    have hl := rowsX_length (s := s) (k := k) hB
    have hst : (rowsX B s k).set m (xorI (nth (rowsX B s k) m) (rw' s k).2) = rowsX B s (k + 1) := by rw [rowsX_succ, rowX, hm]; rfl
    have e9 := stc_at (k := .u16) (l := rowsX B s k) (by omega) hst
    rw [hm] at hr
    simp (disch := omega) [b419_1, h0, h3, h4, h5, h33, h34, h6, h7, hkk, ha, hr, stc2c, ldc2, ldc2b, hm12, hl, xorI_eq, e9, e4]
  · rintro e h7 ⟨h0, h3, h4, h5, h33, h34, h6⟩
    simp [b419_1, h34, h7]
    exact hq _ (by simp [h0]) (by simp [h3]) (by simp [h4]) (by simp [h5]) (by simp [h6])
theorem call419 {pu : Bool} {H : Heap} {x : Value} {l : List Sted} (h : StS H x l) (hw : StsW l) (hk : okSts l = true) : Call tab pu 419 [x] H = some (slc H.length 0 0 l.length l.length, H ++ [⟨bkC (decL l l.length), 12, 0, false⟩]) := by
  refine Call_wp t419 (.inr rfl) rfl ?_
  have hn := hw.n
  have hn40 := okSts_len hk
  have hz := stc_zr (k := .u16) (n := 12) (l := zr 12 0) (by simp)
  simp [c419, k419, fill, rep, zs_cs, h.lenV]
  refine WP_count 12 l.length l.length rfl (fun i e G => e 10 = x ∧ e 11 = .int .i64 l.length ∧ ∃ g, e 3 = g ∧ Gr H G g 12 i (bkC (decL l i))) (by omega) ?_ ?_ (by simp) (by simp [decL_zero, bkC, rowsC]; exact Gr.new .refl)
  · rintro i e G _ hi hii e4 h4 ⟨h0, h11, g, h3, hg⟩
    obtain ⟨q, off, ver, y, ha, hrd, hrw⟩ := (h.pre hg.pre).get hi
    simp only [stC] at hrd
    have hok := okSts_get hk hi
    have hrb := okSt_rows hok
    have hBW : BkW (decL l i) := fun f hf => (decL_ok hk (by omega) f hf).1
    have hsl : Bk G g (decL l i) := by
      have := hg.sl
      unfold Bk
      rw [decL_len]
      exact this
    have hwst := hw.w _ (at0_mem hi)
    have hr6 := hw.r _ (at0_mem hi)
    have hdec : decF (at0 l i) (decL l i) = rowsX (baseF (at0 l i) (decL l i)) (at0 l i) (at0 l i).rows.length := rfl
    have hdl : (decF (at0 l i) (decL l i)).length = 12 := by rw [hdec]; exact rowsX_length baseF_ok.1.len
    obtain ⟨g', G', hpush, hg'⟩ := hg.push (c := cs .u16 (decF (at0 l i) (decL l i))) (bytes := 24) (by simp [hdl]) (room24 (by omega)) (wb := false)
    have hbk : bkC (decL l i) ++ cs .u16 (decF (at0 l i) (decL l i)) = bkC (decL l (i + 1)) := by rw [decL_succ, bkC, bkC, rowsC_app]; simp [rowsC, frC]
    rw [hbk] at hg'
    have hc : IntKind.wrap .i64 (at0 l i).c = (at0 l i).c := wrap64 (by have := hwst.c; omega)
    have hd : IntKind.wrap .i64 (at0 l i).d = (at0 l i).d := wrap64 (by have := hwst.d; omega)
    cases hz0 : (at0 l i).a == 0 with
    | true =>
      have hb : baseF (at0 l i) (decL l i) = zr 12 0 := by rw [baseF, if_pos hz0]
      have hz1 := bne_F hz0
      simp [b419_2, h0, h11, h4, hii, ha, hrd, stc5, ldc5a, ldc5e, SlR.lenV hrw, hz1, zs_cs, agg_cs, fill, hz, wbOf]
      refine inner419 (B := zr 12 0) (by simp) hrw hrb hr6 (by simp; exact h0) (by simp; exact h3) (by simp; exact h4) (by simp; exact h11) (by simp) (by simp) (by simp) (by simp) fun e' q0 q3 q4 q11 q6 => ?_
      rw [← hb, ← hdec] at q6
      simp [q0, q3, q4, q11, q6, zs_cs, hdl, fillF hdl, hpush, e4]
      exact hg'
    | false =>
      have hz1 := bne_T hz0
      obtain ⟨m, hm, hmi⟩ := depB hk hi hz0
      obtain ⟨q2, off2, ver2, ha2', hr2⟩ := Bk.get hsl hBW (i := m) (by rw [decL_len]; exact hmi)
      rw [idxAV_k (k' := .i8)] at ha2'
      obtain ⟨fw, fo⟩ := decL_ok hk (k := i) (by omega) (fr (decL l i) m) (at0_mem (by rw [decL_len]; exact hmi))
      have hb : baseF (at0 l i) (decL l i) = shF (fr (decL l i) m) (at0 l i).c (at0 l i).d := by rw [baseF, if_neg (by rw [hz0]; decide), hm]; rfl
      have hzl := stc_zr (k := .u16) (n := 12) (l := shF (fr (decL l i) m) (at0 l i).c (at0 l i).d) shF_length
      have hcl := call358 (pu := true) (H := G) (dx := (at0 l i).c) (dy := (at0 l i).d) fw fo (by have := hwst.c; omega) (by have := hwst.d; omega)
      simp [b419_2, h0, h11, h3, h4, hii, ha, hrd, stc5, ldc5a, ldc5b, ldc5c, ldc5d, ldc5e, SlR.lenV hrw, hz1, hm, ha2', hr2, hc, hd, hcl, zs_cs, agg_cs, fill, hz, hzl, shF_length, wbOf]
      refine inner419 (B := shF (fr (decL l i) m) (at0 l i).c (at0 l i).d) shF_length hrw hrb hr6 (by simp; exact h0) (by simp; exact h3) (by simp; exact h4) (by simp; exact h11) (by simp) (by simp) (by simp) (by simp) fun e' q0 q3 q4 q11 q6 => ?_
      rw [← hb, ← hdec] at q6
      simp [q0, q3, q4, q11, q6, zs_cs, hdl, fillF hdl, hpush, e4]
      exact hg'
  · rintro e G _ h4 ⟨h0, h11, g, h3, hg⟩
    have hfin := hg.fin bkC_flat
    simp [b419_2, h4, h11, h3, hfin]
def decR (l : List Sted) : List (List Int) := if okSts l = true then decL l l.length else []
theorem decR_own {H : Heap} {l : List Sted} (hk : okSts l = true) : Own (H ++ [⟨bkC (decL l l.length), 12, 0, false⟩]) (slc H.length 0 0 l.length l.length) (some H.length) H.length 12 (decR l).length (bkC (decR l)) := by
  have e1 : decR l = decL l l.length := by simp [decR, hk]
  rw [e1, decL_len]
  exact own_new (by rw [bkC_length fun f hf => (decL_ok hk (Nat.le_refl _) f hf).1, decL_len])
theorem rs203 {l : List Sted} (hw : StsW l) : RsT 203 [] l 12 (decR l).length (bkC (decR l)) (depC l) := by
  intro H x h
  cases hk : okSts l with
  | false =>
    have hfin := (Gr.new (H := H) (esz := 12) .refl).fin2 (c := 1) (by intro v hv; simp at hv)
    refine ⟨slc H.length 0 0 0 0, H ++ [⟨[], 12, 0, false⟩], some H.length, Call_wp t203 (.inr rfl) rfl ?_, Pre.one, ?_⟩
    · simp [c203, k203, call386 h hw, hk, fill, rep, hfin, depC]
    · simp [decR, hk, bkC, rowsC]; exact own_new (n := 0) rfl
  | true =>
    refine ⟨slc H.length 0 0 l.length l.length, H ++ [⟨bkC (decL l l.length), 12, 0, false⟩], some H.length, Call_wp t203 (.inr rfl) rfl ?_, Pre.one, decR_own hk⟩
    have hbl := bkC_length (b := decL l l.length) fun f hf => (decL_ok hk (Nat.le_refl _) f hf).1
    rw [decL_len] at hbl
    have hg : Gr H (H ++ [⟨bkC (decL l l.length), 12, 0, false⟩]) (slc H.length 0 0 l.length l.length) 12 l.length (bkC (decL l l.length)) := ⟨_, _, rfl, get_last, Nat.le_refl _, hbl, Pre.one⟩
    have hfin := hg.fin2 (c := 0) bkC_flat
    simp [c203, k203, call386 h hw, hk, call418 h hw hk, hfin, depC]
def sameBk (D b : List (List Int)) : Bool := ((D.length : Int) == b.length) && allN (fun i => decide (fr D i = fr b i)) D.length
theorem Bk.frs {H : Heap} {x : Value} {b : List (List Int)} (h : Bk H x b) (hw : BkW b) : FrS H x b.length (fr b) := SlR.frs h fun i hi => ⟨bkC_elem hw hi, (hw.fr hi).len⟩
theorem same341 {pu : Bool} {H : Heap} {x y : Value} {D b : List (List Int)} (hx : Bk H x D) (hy : Bk H y b) (hw : BkW D) (hw' : BkW b) (hn : D.length ≤ 1000000) : Call tab pu 341 [x, y] H = some (.bool (sameBk D b), H) := by
  by_cases hl : D.length = b.length
  · have hy' := hy.frs hw'
    rw [← hl] at hy'
    rw [call341 (hx.frs hw) hy' hn]
    simp [sameBk, hl]
  · have hle : (((D.length : Int)) == b.length) = false := beq_false_of_ne fun h => hl (by omega)
    refine Call_wp t341 (.inr rfl) rfl ?_
    simp [c341, k341, SlR.lenV hx, SlR.lenV hy, bne_T hle, hle, sameBk]
def bothB (b : List (List Int)) (l : List Sted) : Bool := okB b && okSts l
def chkR (b : List (List Int)) (l : List Sted) : Value := if bothB b l = true then tup [.bool (sameBk (decL l l.length) b), .int .i64 0] else tup [.bool false, .int .i64 1]
theorem decW {l : List Sted} (hk : okSts l = true) : BkW (decL l l.length) := fun f hf => (decL_ok hk (Nat.le_refl _) f hf).1
theorem dec_bk {H : Heap} {l : List Sted} (hk : okSts l = true) : Bk (H ++ [⟨bkC (decL l l.length), 12, 0, false⟩]) (slc H.length 0 0 l.length l.length) (decL l l.length) := by
  have := (own_new (H := H) (esz := 12) (n := l.length) (vs := bkC (decL l l.length)) (by rw [bkC_length (decW hk), decL_len])).sl
  unfold Bk
  rw [decL_len]
  exact this
theorem call225 {pu : Bool} {H : Heap} {x y : Value} {b : List (List Int)} {l : List Sted} (hb : Bk H x b) (hw : BkW b) (hn : b.length ≤ 1000000) (h : StS H y l) (hl : StsW l) : Call tab pu 225 [x, y] H = some (chkR b l, H) := by
  refine Call_wp t225 (.inr rfl) rfl ?_
  have h1 := call316 (pu := true) hb hw (by omega)
  have h2 := call163 (pu := true) h hl
  cases k1 : okB b with
  | false => simp [c225, k225, h1, k1, skip, chkR, bothB]
  | true =>
    cases k2 : okSts l with
    | false => simp [c225, k225, h1, k1, h2, k2, chkR, bothB]
    | true =>
      have hc := same341 (pu := true) (dec_bk (H := H) k2) (hb.pre Pre.one) (decW k2) hw (by rw [decL_len]; exact hl.n)
      simp [c225, k225, h1, k1, h2, k2, call419 h hl k2, hc, chkR, bothB]
/-- Where a book and the book of steps first differ. -/
def unlB (b D : List (List Int)) (i : Nat) : Bool := decide (b.length ≤ i) || decide (D.length ≤ i) || !decide (fr b i = fr D i)
def unlR (b : List (List Int)) (l : List Sted) : Value :=
  if bothB b l = true then if 0 ≤ findN (unlB b (decL l l.length)) (max b.length l.length) then tup [.int .i64 (findN (unlB b (decL l l.length)) (max b.length l.length)), .int .i64 0] else tup [.int .i64 0, .int .i64 6] else tup [.int .i64 0, .int .i64 1]
theorem call218 {pu : Bool} {H : Heap} {x y : Value} {b : List (List Int)} {l : List Sted} (hb : Bk H x b) (hw : BkW b) (hn : b.length ≤ 1000000) (h : StS H y l) (hl : StsW l) : Call tab pu 218 [x, y] H = some (unlR b l, H) := by
  refine Call_wp t218 (.inr rfl) rfl ?_
  have h1 := call316 (pu := true) hb hw (by omega)
  have h2 := call163 (pu := true) h hl
  cases k1 : okB b with
  | false => simp [c218, k218, h1, k1, skip, unlR, bothB]
  | true =>
    cases k2 : okSts l with
    | false => simp [c218, k218, h1, k1, h2, k2, unlR, bothB]
    | true =>
      have hD := dec_bk (H := H) k2
      have hDW := decW k2
      have hb' : Bk (H ++ [⟨bkC (decL l l.length), 12, 0, false⟩]) x b := SlR.pre Pre.one hb
      have hln := hl.n
      have hDl : (decL l l.length).length = l.length := decL_len
      have hlb := SlR.lenV hb'
      have hmx : (if (l.length : Int) > (b.length : Int) then (l.length : Int) else (b.length : Int)) = ((max b.length l.length : Nat) : Int) := by split <;> omega
      have hmx' : (if b.length < l.length then (l.length : Int) else (b.length : Int)) = ((max b.length l.length : Nat) : Int) := by split <;> omega
      simp [c218, k218, h1, k1, h2, k2, call419 h hl k2, hlb, hmx']
      generalize hDD : decL l l.length = D at *
      generalize hN : max b.length l.length = N at *
      generalize hG : H ++ [(⟨bkC D, 12, 0, false⟩ : Blk)] = G at *
      have hGt : List.take H.length G = H := by rw [← hG]; simp
      have hlD := SlR.lenV hD
      rw [hDl] at hlD
      refine WP_forH 23 N N rfl (by omega) (fun i e => e 0 = x ∧ e 22 = .int .i64 N ∧ e 6 = slc H.length 0 0 l.length l.length ∧ ∀ j, j < i → unlB b D j = false) ?_ ?_ (by simp) ⟨by simp, by simp, by simp, fun j hj => by omega⟩
      · rintro i e hi hii e4 h7 ⟨h0, h22, h6, hp⟩
        have hcond : i < b.length ∨ i < l.length := by omega
        have hret : unlB b D i = true → findN (unlB b D) N = (i : Int) := fun hu => findN_some hi hp hu
        by_cases hib : i < b.length
        · by_cases hil : i < l.length
          · obtain ⟨q, off, ver, ha, hr⟩ := Bk.get hb' hw hib
            obtain ⟨q', off', ver', ha', hr'⟩ := Bk.get hD hDW (i := i) (by omega)
            have l1 := (hw.fr hib).len
            have l2 := (hDW.fr (i := i) (by omega)).len
            have g1 : ¬ b.length ≤ i := by omega
            have g2 : ¬ l.length ≤ i := by omega
            cases hd : decide (fr b i = fr D i) with
            | true =>
              have hu : unlB b D i = false := by simp [unlB, hDl, g1, g2, hd, -decide_eq_true_eq, -decide_eq_false_iff_not]
              simp [b218_1, h7, h0, h22, h6, hii, hlb, hib, skip, g1, g2, ha, ha', hr, hr', agg_cs, eqV_iv l1 l2, hd, e4, -idxAV_slc, -decide_eq_true_eq, -decide_eq_false_iff_not]
              exact upto_succ hp hu
            | false =>
              have hu : unlB b D i = true := by simp [unlB, hd, -decide_eq_true_eq, -decide_eq_false_iff_not]
              simp [b218_1, h7, h0, h22, h6, hii, hlb, hib, skip, g1, g2, ha, ha', hr, hr', agg_cs, eqV_iv l1 l2, hd, unlR, bothB, k1, k2, hDD, hN, hret hu, hGt, -idxAV_slc, -decide_eq_true_eq, -decide_eq_false_iff_not]
          · have g1 : ¬ b.length ≤ i := by omega
            have g2 : l.length ≤ i := by omega
            have hu : unlB b D i = true := by simp [unlB, hDl, g2]
            simp [b218_1, h7, h0, h22, h6, hii, hlb, hib, skip, g1, g2, unlR, bothB, k1, k2, hDD, hN, hret hu, hGt]
        · have hil : i < l.length := by omega
          have g1 : b.length ≤ i := by omega
          have hu : unlB b D i = true := by simp [unlB, g1]
          simp [b218_1, h7, h0, h22, h6, hii, hlb, hib, hil, skip, g1, unlR, bothB, k1, k2, hDD, hN, hret hu, hGt]
      · rintro e h7 ⟨h0, h22, h6, hp⟩
        have hf : findN (unlB b D) N = -1 := findN_none hp
        simp [b218_1, h7, h22, unlR, bothB, k1, k2, hDD, hN, hf, hGt]
def chgL (f g : List Int) (k : Nat) : List (Int × Int) := itN (fun y v => if (nth f y != nth g y) = true then v ++ [((y : Int), xorI (nth f y) (nth g y))] else v) [] k
theorem chsC_push {l : List (Int × Int)} {m : Int × Int} : chsC l ++ chC m = chsC (l ++ [m]) := by rw [chsC, chsC, rowsC_app]; simp [rowsC]
/-- A list that has grown, or is none yet. -/
def GrN (H G : Heap) (x : Value) (esz n : Nat) (vs : List Value) : Prop := Gr H G x esz n vs ∨ (x = .slice none 0 0 ∧ n = 0 ∧ vs = [] ∧ Pre H G)
theorem GrN.pre {H G : Heap} {x : Value} {esz n : Nat} {vs : List Value} (g : GrN H G x esz n vs) : Pre H G := by
  rcases g with g | ⟨_, _, _, p⟩
  · exact g.pre
  · exact p
theorem GrN.sl {H G : Heap} {x : Value} {esz n : Nat} {vs : List Value} (g : GrN H G x esz n vs) : SlR G x esz n vs := by
  rcases g with g | ⟨rfl, rfl, rfl, _⟩
  · exact g.sl
  · exact ⟨by simp, .inl ⟨rfl, rfl⟩⟩
theorem GrN.push {H G : Heap} {x : Value} {esz n bytes : Nat} {vs c : List Value} (g : GrN H G x esz n vs) (hc : c.length = esz) (hb : (n + 1) * bytes ≤ roomMax) {wb : Bool} :
    ∃ x' G', ((srcOf esz (G ++ [⟨c, esz, 0, false⟩]) (slc G.length 0 0 1 1)).bind fun q => appendTo H.length wb esz bytes (G ++ [⟨c, esz, 0, false⟩]) x q.1 q.2) = some (x', G') ∧ GrN H G' x' esz (n + 1) (vs ++ c) := by
  rcases g with g | ⟨rfl, rfl, rfl, p⟩
  · obtain ⟨x', G', h1, h2⟩ := g.push hc hb (wb := wb)
    exact ⟨x', G', h1, .inl h2⟩
  · have e1 : srcOf esz (G ++ [⟨c, esz, 0, false⟩]) (slc G.length 0 0 1 1) = some (1, c) := by
      show (rd (G ++ [⟨c, esz, 0, false⟩]) G.length 0 0 (1 * esz)).map (fun cs => (1, cs)) = _
      rw [Nat.one_mul, rd_last rfl (by simpa using hc)]; rfl
    refine ⟨slc (G ++ [(⟨c, esz, 0, false⟩ : Blk)]).length 0 0 1 1, G ++ [(⟨c, esz, 0, false⟩ : Blk)] ++ [⟨c, esz, 0, false⟩], ?_, .inl ⟨_, 0, rfl, get_last, ?_, by simp [hc], (p.app).app⟩⟩
    · rw [e1, Option.bind_some]
      unfold appendTo
      simp only []
      rw [if_neg (by decide), if_pos (by simpa using hb)]
    · have := p.len
      simp; omega
theorem GrN.old {H G : Heap} {x : Value} {esz n : Nat} {vs : List Value} (g : GrN H G x esz n vs) : x = .slice none 0 0 ∨ old0 H.length x = false := by
  rcases g with ⟨b, ver, rfl, _, h, _⟩ | ⟨rfl, _⟩
  · right; rw [old0_slc]; simp; omega
  · exact .inl rfl
/-- The better of a step and a slide. -/
def stepB (f g : List Int) (base : Int) (s : Sted) (dx dy : Int) : Sted :=
  if (dx == 0 && dy == 0) = true then s else if 4 + 3 * ((chgL (shF f dx dy) g 12).length : Int) < stCost s then ⟨2, base, dx, dy, chgL (shF f dx dy) g 12⟩ else s
def inB (f g : List Int) (base dx : Int) (s : Sted) (k : Nat) : Sted := itN (fun j s => stepB f g base s dx ((j : Int) - 12)) s k
def outB (f g : List Int) (base : Int) (k : Nat) : Sted := itN (fun i s => inB f g base ((i : Int) - 12) s 25) ⟨1, base, 0, 0, chgL f g 12⟩ k
def okS (s : Sted) : Prop := 0 ≤ s.a ∧ s.a ≤ 2 ∧ s.rows.length ≤ 12
/-- A step in a block of its own. -/
structure StO (H G : Heap) (P : Nat) (s : Sted) (y : Value) : Prop where
  pre : Pre H G
  ge : H.length ≤ P
  blk : G[P]? = some ⟨stC s y, 1, 0, false⟩
  row : ∃ b, y = slc b 0 0 s.rows.length s.rows.length ∧ H.length ≤ b ∧ b ≠ P ∧ G[b]? = some ⟨chsC s.rows, 2, 0, false⟩
theorem StO.rw {H G : Heap} {P : Nat} {s : Sted} {y : Value} (h : StO H G P s y) : Rw G y s := by
  obtain ⟨b, rfl, _, _, hg⟩ := h.row
  exact ⟨chsC_length, .inr ⟨b, 0, 0, _, rfl, Nat.le_refl _, by rw [rd_at hg rfl (by simp only []; rw [chsC_length]; omega)]; simp only [List.drop_zero]; rw [List.take_of_length_le (by rw [chsC_length]; exact Nat.le_refl _)], _, hg, rfl, rfl⟩⟩
theorem StO.rd {H G : Heap} {P : Nat} {s : Sted} {y : Value} (h : StO H G P s y) : rd G P 0 0 5 = some (stC s y) := by
  rw [rd_at h.blk rfl (by simp [stC])]; rfl
theorem StO.app {H G G' : Heap} {P : Nat} {s : Sted} {y : Value} (p : Pre G G') (h : StO H G P s y) : StO H G' P s y := by
  refine ⟨h.pre.trans p, h.ge, by rw [p.get (List.getElem?_eq_some_iff.1 h.blk).1]; exact h.blk, ?_⟩
  obtain ⟨b, e, h1, h2, h3⟩ := h.row
  exact ⟨b, e, h1, h2, by rw [p.get (List.getElem?_eq_some_iff.1 h3).1]; exact h3⟩
theorem GrN.app {H G G' : Heap} {x : Value} {esz n : Nat} {vs : List Value} (g : GrN H G x esz n vs) (p : Pre G G') : GrN H G' x esz n vs := by
  rcases g with g | ⟨e1, e2, e3, q⟩
  · obtain ⟨L, rfl⟩ := p
    exact .inl g.app
  · exact .inr ⟨e1, e2, e3, q.trans p⟩
theorem GrN.low {H G G' : Heap} {x : Value} {esz n : Nat} {vs : List Value} (g : GrN G G' x esz n vs) (p : Pre H G) : GrN H G' x esz n vs := by
  rcases g with ⟨b, ver, e1, e2, e3, e4, q⟩ | ⟨e1, e2, e3, q⟩
  · exact .inl ⟨b, ver, e1, e2, Nat.le_trans p.len e3, e4, p.trans q⟩
  · exact .inr ⟨e1, e2, e3, p.trans q⟩
/-- The better of a step and the cheapest step from a page. -/
def pickB (b : List (List Int)) (k : Nat) (p : Nat → Bool) (j : Nat) (s : Sted) : Sted :=
  if p j = true then if stCost (outB (fr b j) (fr b k) j 25) < stCost s then outB (fr b j) (fr b k) j 25 else s else s
def bestS (b : List (List Int)) (k : Nat) (p : Nat → Bool) (i : Nat) : Sted := itN (fun j s => pickB b k p j s) ⟨0, 0, 0, 0, chgL (zr 12 0) (fr b k) 12⟩ i
structure StP (H G : Heap) (P : Nat) (s : Sted) (y : Value) : Prop where
  ge : H.length ≤ P
  blk : G[P]? = some ⟨stC s y, 1, 0, false⟩
  row : GrN H G y 2 s.rows.length (chsC s.rows)
theorem StP.rd {H G : Heap} {P : Nat} {s : Sted} {y : Value} (h : StP H G P s y) : rd G P 0 0 5 = some (stC s y) := by
  rw [rd_at h.blk rfl (by simp [stC])]; rfl
theorem StP.app {H G G' : Heap} {P : Nat} {s : Sted} {y : Value} (p : Pre G G') (h : StP H G P s y) : StP H G' P s y :=
  ⟨h.ge, by rw [p.get (List.getElem?_eq_some_iff.1 h.blk).1]; exact h.blk, h.row.app p⟩
theorem GrN.set {H G : Heap} {y : Value} {n P : Nat} {vs : List Value} {k k' : Blk} (g : GrN H G y 2 n vs) (ge : H.length ≤ P) (hP : G[P]? = some k) (hk : k.esz = 1) : GrN H (G.set P k') y 2 n vs := by
  rcases g with ⟨b, ver, e1, e2, e3, e4, q⟩ | ⟨e1, e2, e3, q⟩
  · have hne : P ≠ b := by
      rintro rfl
      rw [hP] at e2
      cases e2
      cases hk
    exact .inl ⟨b, ver, e1, by rw [List.getElem?_set_ne hne]; exact e2, e3, e4, q.set ge⟩
  · exact .inr ⟨e1, e2, e3, q.set ge⟩
/-- A list of steps that grows: the rows stand in blocks of their own. -/
def GrS (H G : Heap) (x : Value) (l : List Sted) : Prop := ∃ b ver vs, x = slc b 0 ver l.length l.length ∧ G[b]? = some ⟨vs, 5, ver, false⟩ ∧ H.length ≤ b ∧ vs.length = l.length * 5 ∧ Pre H G ∧
  ∀ i, i < l.length → ∃ y, elem vs 5 i = stC (at0 l i) y ∧ GrN H G y 2 (at0 l i).rows.length (chsC (at0 l i).rows)
theorem GrN.put {H G : Heap} {y : Value} {n P : Nat} {vs : List Value} {k k' : Blk} (g : GrN H G y 2 n vs) (ge : H.length ≤ P) (hP : G[P]? = some k) (hk : k.esz ≠ 2) : GrN H (G.set P k') y 2 n vs := by
  rcases g with ⟨b, ver, e1, e2, e3, e4, q⟩ | ⟨e1, e2, e3, q⟩
  · have hne : P ≠ b := by
      rintro rfl
      rw [hP] at e2
      cases e2
      exact hk rfl
    exact .inl ⟨b, ver, e1, by rw [List.getElem?_set_ne hne]; exact e2, e3, e4, q.set ge⟩
  · exact .inr ⟨e1, e2, e3, q.set ge⟩
theorem GrS.new {H G : Heap} (p : Pre H G) : GrS H (G ++ [⟨[], 5, 0, false⟩]) (slc G.length 0 0 0 0) [] := ⟨_, _, _, rfl, get_last, p.len, by simp, p.app, fun i hi => by simp at hi⟩
theorem GrS.pre {H G : Heap} {x : Value} {l : List Sted} (g : GrS H G x l) : Pre H G := by obtain ⟨_, _, _, _, _, _, _, p, _⟩ := g; exact p
theorem at0_app {α : Type} [Inhabited α] {l : List α} {a : α} {i : Nat} : at0 (l ++ [a]) i = if i < l.length then at0 l i else if i = l.length then a else default := by
  unfold at0
  by_cases h : i < l.length
  · rw [if_pos h]; simp [List.getD_eq_getElem?_getD, List.getElem?_append_left h]
  · rw [if_neg h]
    by_cases h2 : i = l.length
    · rw [if_pos h2]; subst h2; simp [List.getD_eq_getElem?_getD]
    · rw [if_neg h2, List.getD_eq_getElem?_getD, List.getElem?_eq_none (by simp; omega)]; rfl
theorem GrS.push {H G : Heap} {x : Value} {l : List Sted} {s : Sted} {y : Value} (g : GrS H G x l) (hy : GrN H G y 2 s.rows.length (chsC s.rows)) (hb : (l.length + 1) * 32 ≤ roomMax) {wb : Bool} :
    ∃ x' G', ((srcOf 5 (G ++ [⟨stC s y, 5, 0, false⟩]) (slc G.length 0 0 1 1)).bind fun q => appendTo H.length wb 5 32 (G ++ [⟨stC s y, 5, 0, false⟩]) x q.1 q.2) = some (x', G') ∧ GrS H G' x' (l ++ [s]) ∧ ∀ (b' : Nat) (k : Blk), G[b']? = some k → k.esz ≠ 5 → G'[b']? = some k := by
  obtain ⟨b, ver, vs, rfl, h1, h2, h3, h4, h5⟩ := g
  obtain ⟨G1, hG1⟩ : ∃ G1, G1 = G ++ [(⟨stC s y, 5, 0, false⟩ : Blk)] := ⟨_, rfl⟩
  have p1 : Pre G G1 := by rw [hG1]; exact Pre.one
  have h1' : G1[b]? = some ⟨vs, 5, ver, false⟩ := by rw [p1.get (List.getElem?_eq_some_iff.1 h1).1]; exact h1
  have e1 : srcOf 5 G1 (slc G.length 0 0 1 1) = some (1, stC s y) := by
    show (rd G1 G.length 0 0 (1 * 5)).map (fun cs => (1, cs)) = _
    rw [Nat.one_mul, hG1, rd_last rfl (by simp [stC])]; rfl
  rw [← hG1]
  have hl : (stC s y).length = 5 := rfl
  refine ⟨slc b 0 (ver + 1) (l.length + 1) (l.length + 1), G1.set b ⟨vs ++ stC s y, 5, ver + 1, false⟩, ?_, ⟨b, ver + 1, vs ++ stC s y, by simp, get_set h1', h2, by simp [h3, hl]; omega, (h4.trans p1).set h2, fun i hi => ?_⟩, fun b' k hk he => ?_⟩
  · rw [e1, Option.bind_some]
    exact appendTo_grow h1' rfl rfl (by simp [may, h2]) rfl h3.symm (by omega) hb
  · rw [at0_app]
    by_cases hil : i < l.length
    · rw [if_pos hil]
      obtain ⟨y', e2, e3⟩ := h5 i hil
      have hm := mul_next (esz := 5) hil
      refine ⟨y', ?_, (e3.app p1).put h2 h1' (by simp)⟩
      rw [← e2]
      unfold elem
      rw [List.drop_append_of_le_length (by omega), List.take_append_of_le_length (by simp; omega)]
    · have hie : i = l.length := by simp at hi; omega
      rw [if_neg hil, if_pos hie]
      subst hie
      refine ⟨y, ?_, (hy.app p1).put h2 h1' (by simp)⟩
      unfold elem
      rw [← h3, List.drop_left, List.take_of_length_le (by rw [hl]; omega)]
  · have hne : b ≠ b' := by
      rintro rfl
      rw [h1] at hk
      cases hk
      exact he rfl
    rw [List.getElem?_set_ne hne, p1.get (List.getElem?_eq_some_iff.1 hk).1]
    exact hk
/-- The steps and the depths, page by page. -/
def encP (b : List (List Int)) (lim : Int) (i : Nat) : List Sted × List Int :=
  itN (fun i q => let s := bestS b i (fun j => !decide (lim ≤ nth q.2 j)) i; (q.1 ++ [s], q.2 ++ [depV s q.2])) ([], []) i
/-- Only blocks of one kind have changed. -/
def KeepE (e : Nat) (G G' : Heap) : Prop := ∀ (b : Nat) (k : Blk), G[b]? = some k → k.esz ≠ e → G'[b]? = some k
theorem KeepE.pre {e : Nat} {G G' : Heap} (p : Pre G G') : KeepE e G G' := fun b k h _ => by rw [p.get (List.getElem?_eq_some_iff.1 h).1]; exact h
theorem KeepE.trans {e : Nat} {A B C : Heap} (h : KeepE e A B) (h' : KeepE e B C) : KeepE e A C := fun b k q n => h' b k (h b k q n) n
theorem GrN.keep {e : Nat} {H G G' : Heap} {y : Value} {n : Nat} {vs : List Value} (g : GrN H G y 2 n vs) (k : KeepE e G G') (he : e ≠ 2) (p : Pre H G') : GrN H G' y 2 n vs := by
  rcases g with ⟨b, ver, e1, e2, e3, e4, _⟩ | ⟨e1, e2, e3, _⟩
  · exact .inl ⟨b, ver, e1, k _ _ e2 (by simp only []; omega), e3, e4, p⟩
  · exact .inr ⟨e1, e2, e3, p⟩
theorem GrS.keep {e : Nat} {H G G' : Heap} {x : Value} {l : List Sted} (g : GrS H G x l) (k : KeepE e G G') (he : e ≠ 2) (he5 : e ≠ 5) (p : Pre H G') : GrS H G' x l := by
  obtain ⟨b, ver, vs, e1, h1, h2, h3, _, h5⟩ := g
  refine ⟨b, ver, vs, e1, k _ _ h1 (by simp only []; omega), h2, h3, p, fun i hi => ?_⟩
  obtain ⟨y, e2, e3⟩ := h5 i hi
  exact ⟨y, e2, e3.keep k he p⟩
theorem Gr.keep {e esz : Nat} {H G G' : Heap} {x : Value} {n : Nat} {vs : List Value} (g : Gr H G x esz n vs) (k : KeepE e G G') (he : e ≠ esz) (p : Pre H G') : Gr H G' x esz n vs := by
  obtain ⟨b, ver, e1, h1, h2, h3, _⟩ := g
  exact ⟨b, ver, e1, k _ _ h1 (by simp only []; omega), h2, h3, p⟩
theorem GrS.sts {H G : Heap} {x : Value} {l : List Sted} (g : GrS H G x l) : StS G x l := by
  obtain ⟨b, ver, vs, rfl, h1, h2, h3, h4, h5⟩ := g
  refine ⟨vs, ⟨h3, .inr ⟨b, 0, ver, _, rfl, Nat.le_refl _, by rw [rd_at h1 rfl (by simp only []; omega)]; simp only [List.drop_zero]; rw [List.take_of_length_le (by omega)], _, h1, rfl, rfl⟩⟩, fun i hi => ?_⟩
  obtain ⟨y, e2, e3⟩ := h5 i hi
  exact ⟨y, e2, e3.sl⟩
@[simp] theorem blkOf_adr {b o v : Nat} : blkOf (adr b o v) = some b := rfl
@[simp] theorem blkOf_slc {b o v n c : Nat} : blkOf (slc b o v n c) = some b := rfl
@[simp] theorem blkOf_nil {n c : Nat} : blkOf (.slice none n c) = none := rfl
/-- A piece appended to a list of a call's own. -/
theorem push_at {n0 b ver n esz bytes : Nat} {G : Heap} {vs c : List Value} {wb : Bool} (hg : G[b]? = some ⟨vs, esz, ver, false⟩) (hb : n0 ≤ b) (hl : vs.length = n * esz) (hc : c.length = esz) (hr : (n + 1) * bytes ≤ roomMax) :
    ((srcOf esz (G ++ [⟨c, esz, 0, false⟩]) (slc G.length 0 0 1 1)).bind fun q => appendTo n0 wb esz bytes (G ++ [⟨c, esz, 0, false⟩]) (slc b 0 ver n n) q.1 q.2) =
      some (slc b 0 (ver + 1) (n + 1) (n + 1), (G ++ [(⟨c, esz, 0, false⟩ : Blk)]).set b ⟨vs ++ c, esz, ver + 1, false⟩) := by
  have h1' : (G ++ [(⟨c, esz, 0, false⟩ : Blk)])[b]? = some ⟨vs, esz, ver, false⟩ := by rw [List.getElem?_append_left (List.getElem?_eq_some_iff.1 hg).1]; exact hg
  have e1 : srcOf esz (G ++ [⟨c, esz, 0, false⟩]) (slc G.length 0 0 1 1) = some (1, c) := by
    show (rd (G ++ [⟨c, esz, 0, false⟩]) G.length 0 0 (1 * esz)).map (fun cs => (1, cs)) = _
    rw [Nat.one_mul, rd_last rfl (by simpa using hc)]; rfl
  rw [e1, Option.bind_some]
  exact appendTo_grow h1' rfl rfl (by simp [may, hb]) rfl hl.symm (by omega) hr
theorem push_get {b b' : Nat} {G : Heap} {k k' : Blk} (hb : b' ≠ b) (hl : b' < G.length) : ((G ++ [k']).set b k)[b']? = G[b']? := by
  rw [List.getElem?_set_ne (Ne.symm hb), List.getElem?_append_left hl]
theorem push_self {b : Nat} {G : Heap} {k k' : Blk} (hl : b < G.length) : ((G ++ [k']).set b k)[b]? = some k := by
  rw [List.getElem?_set_self (by simp; omega)]
theorem push_pre {H G : Heap} {b : Nat} {k k' : Blk} (p : Pre H G) (hb : H.length ≤ b) : Pre H ((G ++ [k']).set b k) := (p.app).set hb
theorem GrN.ownC {H G : Heap} {x : Value} {esz n : Nat} {vs : List Value} (g : GrN H G x esz n vs) : Own G x (blkOf x) H.length esz n vs := by
  rcases g with ⟨b, ver, rfl, h1, h2, h3, _⟩ | ⟨rfl, rfl, rfl, _⟩
  · exact ⟨h3, h2, ver, n, [], rfl, Nat.le_refl _, by rw [List.append_nil]; exact h1⟩
  · exact ⟨by simp, rfl, rfl⟩
/-- Cells of records of five, the last of which leads to rows of its own. -/
structure RawD (n0 : Nat) (G : Heap) (b ver n : Nat) (ys : Nat → Value) (β : Nat → Option Nat) (hd : Nat → List Value) (m : Nat → Nat) (rc : Nat → List Value) : Prop where
  lo : n0 ≤ b
  out : ∃ vs, G[b]? = some ⟨vs, 5, ver, false⟩ ∧ vs.length = n * 5 ∧ ∀ i, i < n → elem vs 5 i = hd i ++ [ys i]
  hl : ∀ i, i < n → (hd i).length = 4
  row : ∀ i, i < n → Own G (ys i) (β i) n0 2 (m i) (rc i)
  dis : ∀ i j q, i < n → j < n → β i = some q → β j = some q → i = j
theorem RawD.lt {n0 b ver n : Nat} {G : Heap} {ys : Nat → Value} {β : Nat → Option Nat} {hd rc : Nat → List Value} {m : Nat → Nat} (h : RawD n0 G b ver n ys β hd m rc) : b < G.length := by
  obtain ⟨vs, hg, _⟩ := h.out
  exact (List.getElem?_eq_some_iff.1 hg).1
theorem RawD.ne {n0 b ver n : Nat} {G : Heap} {ys : Nat → Value} {β : Nat → Option Nat} {hd rc : Nat → List Value} {m : Nat → Nat} (h : RawD n0 G b ver n ys β hd m rc) {i q : Nat} (hi : i < n) (hq : β i = some q) : q ≠ b := by
  rintro rfl
  obtain ⟨vs, hg, _⟩ := h.out
  obtain ⟨_, h2⟩ := h.row i hi
  rw [hq] at h2
  obtain ⟨_, ver', cap, rest, _, _, hg'⟩ := h2
  rw [hg] at hg'
  cases hg'
/-- What keeps the blocks keeps the list. -/
theorem RawD.keep {n0 b ver n : Nat} {G G' : Heap} {ys : Nat → Value} {β : Nat → Option Nat} {hd rc : Nat → List Value} {m : Nat → Nat} (h : RawD n0 G b ver n ys β hd m rc)
    (k : ∀ (b' : Nat) (k : Blk), G[b']? = some k → k.esz ≠ 1 → G'[b']? = some k) : RawD n0 G' b ver n ys β hd m rc := by
  refine ⟨h.lo, ?_, h.hl, fun i hi => ?_, h.dis⟩
  · obtain ⟨vs, hg, h2⟩ := h.out
    exact ⟨vs, k _ _ hg (by simp), h2⟩
  · obtain ⟨h1, h2⟩ := h.row i hi
    refine ⟨h1, ?_⟩
    cases hb : β i with
    | none => rw [hb] at h2; exact h2
    | some q =>
      rw [hb] at h2
      obtain ⟨hb, ver', cap, rest, e1, hc, hg⟩ := h2
      exact ⟨hb, ver', cap, rest, e1, hc, k _ _ hg (by simp)⟩
theorem RawD.pre {n0 b ver n : Nat} {G G' : Heap} {ys : Nat → Value} {β : Nat → Option Nat} {hd rc : Nat → List Value} {m : Nat → Nat} (p : Pre G G') (h : RawD n0 G b ver n ys β hd m rc) : RawD n0 G' b ver n ys β hd m rc :=
  h.keep fun b' k hk _ => by rw [p.get (List.getElem?_eq_some_iff.1 hk).1]; exact hk
theorem RawD.low {n0 n1 b ver n : Nat} {G : Heap} {ys : Nat → Value} {β : Nat → Option Nat} {hd rc : Nat → List Value} {m : Nat → Nat} (h : RawD n0 G b ver n ys β hd m rc) (hn : n1 ≤ n0) : RawD n1 G b ver n ys β hd m rc :=
  ⟨Nat.le_trans hn h.lo, h.out, h.hl, fun i hi => (h.row i hi).low hn, h.dis⟩
theorem RawD.rows {n0 b ver n : Nat} {G G' : Heap} {ys : Nat → Value} {β : Nat → Option Nat} {hd rc : Nat → List Value} {m : Nat → Nat} (h : RawD n0 G b ver n ys β hd m rc) {i : Nat} {c : List Value} (hi : i < n) (s : SameB G G' (β i)) (ho : Own G' (ys i) (β i) n0 2 (m i) c) :
    RawD n0 G' b ver n ys β hd m (fun j => if j = i then c else rc j) := by
  refine ⟨h.lo, ?_, h.hl, fun j hj => ?_, h.dis⟩
  · obtain ⟨vs, hg, h2⟩ := h.out
    refine ⟨vs, ?_, h2⟩
    rw [s.get]
    · exact hg
    · intro hq; exact h.ne hi hq rfl
  · by_cases hji : j = i
    · subst hji; simp only [if_pos rfl]; exact ho
    · simp only [if_neg hji]
      exact (h.row j hj).agree fun q hq => s.get q fun he => hji (h.dis j i q hj hi hq he)
/- Marks. -/
def msH (c : Int) : List Value := [.int .i8 (IntKind.wrap .i8 c), .int .i8 (IntKind.wrap .i8 (c + 1)), .int .i8 (IntKind.wrap .i8 (c + 2)), .int .i8 (IntKind.wrap .i8 (c + 3))]
def mkP (m : Nat → Nat) (i : Nat) : Int := 101 + (mkS m i : Nat)
/-- A list of steps, with rows of its own. -/
def StD (n0 : Nat) (G : Heap) (b ver : Nat) (l : List Sted) : Prop := ∃ ys β, RawD n0 G b ver l.length ys β (fun i => [.int .i8 (at0 l i).a, .int .i8 (at0 l i).b, .int .i8 (at0 l i).c, .int .i8 (at0 l i).d]) (fun i => (at0 l i).rows.length) (fun i => chsC (at0 l i).rows)
theorem StD.new {n0 : Nat} {G : Heap} (h : n0 ≤ G.length) : StD n0 (G ++ [⟨[], 5, 0, false⟩]) G.length 0 [] :=
  ⟨fun _ => U, fun _ => none, h, ⟨_, get_last, rfl, fun i hi => by simp at hi⟩, fun i hi => by simp at hi, fun i hi => by simp at hi, fun i j q hi => by simp at hi⟩
theorem StD.keep {n0 b ver : Nat} {G G' : Heap} {l : List Sted} (h : StD n0 G b ver l) (k : ∀ (b' : Nat) (k : Blk), G[b']? = some k → k.esz ≠ 1 → G'[b']? = some k) : StD n0 G' b ver l := by
  obtain ⟨ys, β, h⟩ := h; exact ⟨ys, β, h.keep k⟩
theorem StD.pre {n0 b ver : Nat} {G G' : Heap} {l : List Sted} (p : Pre G G') (h : StD n0 G b ver l) : StD n0 G' b ver l := by
  obtain ⟨ys, β, h⟩ := h; exact ⟨ys, β, h.pre p⟩
theorem StD.lt {n0 b ver : Nat} {G : Heap} {l : List Sted} (h : StD n0 G b ver l) : b < G.length := by
  obtain ⟨ys, β, h⟩ := h; exact h.lt
theorem StD.lo {n0 b ver : Nat} {G : Heap} {l : List Sted} (h : StD n0 G b ver l) : n0 ≤ b := by
  obtain ⟨ys, β, h⟩ := h; exact h.lo
theorem StD.sts {n0 b ver : Nat} {G : Heap} {l : List Sted} (h : StD n0 G b ver l) : StS G (slc b 0 ver l.length l.length) l := by
  obtain ⟨ys, β, h⟩ := h
  obtain ⟨vs, h1, h3, h5⟩ := h.out
  exact ⟨vs, ⟨h3, .inr ⟨b, 0, ver, _, rfl, Nat.le_refl _, by rw [rd_at h1 rfl (by simp only []; omega)]; simp only [List.drop_zero]; rw [List.take_of_length_le (by omega)], _, h1, rfl, rfl⟩⟩, fun i hi => ⟨ys i, h5 i hi, (h.row i hi).sl⟩⟩
/-- Another step. -/
theorem StD.push {n0 b ver : Nat} {K G : Heap} {l : List Sted} {s : Sted} {y : Value} (g : StD n0 K b ver l) (p : Pre K G) (hy : GrN K G y 2 s.rows.length (chsC s.rows)) (hn : n0 ≤ K.length) (hb : (l.length + 1) * 32 ≤ roomMax) {wb : Bool} :
    ∃ G', ((srcOf 5 (G ++ [⟨stC s y, 5, 0, false⟩]) (slc G.length 0 0 1 1)).bind fun q => appendTo n0 wb 5 32 (G ++ [⟨stC s y, 5, 0, false⟩]) (slc b 0 ver l.length l.length) q.1 q.2) = some (slc b 0 (ver + 1) (l.length + 1) (l.length + 1), G') ∧
      StD n0 G' b (ver + 1) (l ++ [s]) ∧ (∀ (b' : Nat) (k : Blk), b' ≠ b → G[b']? = some k → G'[b']? = some k) ∧ ∀ H : Heap, Pre H G → H.length ≤ b → Pre H G' := by
  obtain ⟨ys, β, g⟩ := g
  have hβK : ∀ i q, i < l.length → β i = some q → q < K.length := fun i q hi hq => by
    obtain ⟨_, h2⟩ := g.row i hi
    rw [hq] at h2
    obtain ⟨_, _, _, _, _, _, h3⟩ := h2
    exact (List.getElem?_eq_some_iff.1 h3).1
  have hbK := g.lt
  have g' := g.pre p
  obtain ⟨vs, h1, h3, h5⟩ := g'.out
  have hbG := g'.lt
  have hlen : (stC s y).length = 5 := rfl
  have oy := hy.ownC
  have hne : ∀ q, blkOf y = some q → q ≠ b := fun q hq => by have := oy.below q hq; omega
  have hkeep : ∀ (b' : Nat) (k : Blk), b' ≠ b → G[b']? = some k → ((G ++ [(⟨stC s y, 5, 0, false⟩ : Blk)]).set b ⟨vs ++ stC s y, 5, ver + 1, false⟩)[b']? = some k := fun b' k hb' hk => by
    rw [push_get hb' (List.getElem?_eq_some_iff.1 hk).1]; exact hk
  refine ⟨_, push_at h1 g.lo h3 rfl hb, ⟨fun i => if i < l.length then ys i else y, fun i => if i < l.length then β i else blkOf y, g.lo, ⟨_, push_self hbG, by simp [h3, hlen]; omega, fun i hi => ?_⟩, fun i hi => rfl, fun i hi => ?_, fun i j q hi hj => ?_⟩, hkeep, fun H pH hH => push_pre pH hH⟩
  · rw [at0_app]
    by_cases hil : i < l.length
    · have hm := mul_next (esz := 5) hil
      simp only [if_pos hil]
      rw [← h5 i hil]
      unfold elem
      rw [List.drop_append_of_le_length (by omega), List.take_append_of_le_length (by simp; omega)]
    · have hie : i = l.length := by simp at hi; omega
      simp only [if_neg hil, if_pos hie]
      subst hie
      unfold elem
      rw [← h3, List.drop_left, List.take_of_length_le (by rw [hlen]; omega)]; rfl
  · by_cases hil : i < l.length
    · simp only [at0_app, if_pos hil]
      exact (g'.row i hil).agree fun q hq => by
        have := hβK i q hil hq
        have := p.len
        exact push_get (g'.ne hil hq) (by omega)
    · have hie : i = l.length := by simp at hi; omega
      simp only [at0_app, if_neg hil, if_pos hie]
      exact (oy.low hn).agree fun q hq => by
        obtain ⟨_, h2⟩ := oy
        rw [hq] at h2
        obtain ⟨_, _, _, _, _, _, h3⟩ := h2
        exact push_get (hne q hq) (List.getElem?_eq_some_iff.1 h3).1
  · simp at hi hj
    by_cases hil : i < l.length
    · by_cases hjl : j < l.length
      · simp only [if_pos hil, if_pos hjl]
        exact g.dis i j q hil hjl
      · simp only [if_pos hil, if_neg hjl]
        intro e1 e2
        have := hβK i q hil e1
        have := oy.below q e2
        omega
    · by_cases hjl : j < l.length
      · simp only [if_neg hil, if_pos hjl]
        intro e1 e2
        have := hβK j q hjl e2
        have := oy.below q e1
        omega
      · intro _ _; omega
/-- What a function hands back: steps, and numbers. -/
theorem StD.fin {H G : Heap} {b ver : Nat} {l : List Sted} {rest : List Value} (g : StD H.length G b ver l) (p : Pre H G) (hr : rest.all (old1 H.length) = true) :
    ∃ b' ver' G', finish H.length G (slc b 0 ver l.length l.length :: rest) = (one (slc b' 0 ver' l.length l.length :: rest), G') ∧ StD H.length G' b' ver' l ∧ Pre H G' := by
  obtain ⟨ys, β, g⟩ := g
  obtain ⟨vs, hg, h3, h5⟩ := g.out
  have hlo := g.lo
  have hne : old1 H.length (slc b 0 ver l.length l.length) = false := by
    show (true && decide (b < H.length)) = false
    simp; omega
  cases ho : vs.all (old0 H.length) with
  | false =>
    refine ⟨b, ver, G, ?_, ⟨ys, β, g⟩, p⟩
    have : pack H.length G (slc b 0 ver l.length l.length :: rest) [] [] = none := by
      rw [pack, if_neg (by rw [hne]; decide)]
      show (match G[b]? with
        | some k => if ([] : List Nat).contains b = false ∧ ver = k.ver ∧ k.ro = false ∧ k.cells.all (old0 H.length) = true then _ else none
        | none => none) = _
      rw [hg]
      simp only []
      rw [if_neg (by rw [ho]; simp)]
    unfold finish; rw [this]
  | true =>
    have hall := List.all_eq_true.1 ho
    have hnil : ∀ i, i < l.length → β i = none := fun i hi => by
      obtain ⟨_, h2⟩ := g.row i hi
      cases hb : β i with
      | none => rfl
      | some q =>
        exfalso
        rw [hb] at h2
        obtain ⟨hq, ver', cap, rest, e1, _, _⟩ := h2
        have hm : ys i ∈ vs := mem_elem (esz := 5) (i := i) (by rw [h5 i hi]; simp)
        have := hall _ hm
        rw [e1, old0_slc] at this
        simp at this; omega
    refine ⟨H.length, 0, H ++ [⟨vs, 5, 0, false⟩], ?_, ⟨ys, β, Nat.le_refl _, ⟨vs, get_last, h3, h5⟩, g.hl, fun i hi => ?_, g.dis⟩, Pre.one⟩
    · have : pack H.length G (slc b 0 ver l.length l.length :: rest) [] [] = some (slc H.length 0 0 l.length l.length :: rest, [⟨vs, 5, 0, false⟩]) := by
        rw [pack, if_neg (by rw [hne]; decide)]
        show (match G[b]? with
          | some k => if ([] : List Nat).contains b = false ∧ ver = k.ver ∧ k.ro = false ∧ k.cells.all (old0 H.length) = true then (pack H.length G rest (b :: []) ([] ++ [{ k with ver := 0 }])).map fun (q : List Value × List Blk) => (slc (H.length + ([] : List Blk).length) 0 0 l.length l.length :: q.1, q.2) else none
          | none => none) = _
        rw [hg]
        simp only []
        rw [if_pos ⟨by simp, by simp, by simp, ho⟩, pack_all hr]; rfl
      rw [finish_some this, p.take]
    · obtain ⟨h1, h2⟩ := g.row i hi
      rw [hnil i hi] at h2 ⊢
      exact ⟨h1, h2⟩
/-- Steps with rows of their own, or nothing. -/
def StX (n0 : Nat) (G : Heap) (x : Value) (l : List Sted) : Prop := (x = .slice none 0 0 ∧ l = []) ∨ ∃ b ver, x = slc b 0 ver l.length l.length ∧ StD n0 G b ver l
theorem StX.sts {n0 : Nat} {G : Heap} {x : Value} {l : List Sted} (h : StX n0 G x l) : StS G x l := by
  rcases h with ⟨rfl, rfl⟩ | ⟨b, ver, rfl, h⟩
  · exact ⟨[], ⟨rfl, .inl ⟨rfl, rfl⟩⟩, fun i hi => by simp at hi⟩
  · exact h.sts
theorem StX.pre {n0 : Nat} {G G' : Heap} {x : Value} {l : List Sted} (p : Pre G G') (h : StX n0 G x l) : StX n0 G' x l := by
  rcases h with h | ⟨b, ver, rfl, h⟩
  · exact .inl h
  · exact .inr ⟨b, ver, rfl, h.pre p⟩
/-- Marks over steps. -/
def MkX (n0 : Nat) (G : Heap) (x : Value) (l : List Sted) : Prop := (x = .slice none 0 0 ∧ l = []) ∨ ∃ b ver ys β, x = slc b 0 ver l.length l.length ∧
  RawD n0 G b ver l.length ys β (fun i => msH (mkP (fun i => (at0 l i).rows.length) i)) (fun i => (at0 l i).rows.length) (fun i => mkL (ms2 (mkP (fun i => (at0 l i).rows.length) i + 4)) ((at0 l i).rows.length * 2))
theorem MkX.pre {n0 : Nat} {G G' : Heap} {x : Value} {l : List Sted} (p : Pre G G') (h : MkX n0 G x l) : MkX n0 G' x l := by
  rcases h with h | ⟨b, ver, ys, β, rfl, h⟩
  · exact .inl h
  · exact .inr ⟨b, ver, ys, β, rfl, h.pre p⟩
theorem mem_at0 {α : Type} [Inhabited α] {l : List α} {a : α} (h : a ∈ l) : ∃ i, i < l.length ∧ at0 l i = a := by
  obtain ⟨i, hi, rfl⟩ := List.getElem_of_mem h
  exact ⟨i, hi, Option.some.inj ((at0_get hi).symm.trans (List.getElem?_eq_getElem hi))⟩
/-- Steps, what they cost, and a code. -/
def RsE (H : Heap) (r : Value × Heap) (l : List Sted) (t c : Int) : Prop := ∃ x G, r = (tup [x, .int .i64 t, .int .i64 c], G) ∧ StX H.length G x l ∧ Pre H G
theorem StX.fin {H G : Heap} {x : Value} {l : List Sted} {t c : Int} (h : StX H.length G x l) (p : Pre H G) : ∃ r, finish H.length G [x, .int .i64 t, .int .i64 c] = r ∧ RsE H r l t c := by
  rcases h with ⟨rfl, rfl⟩ | ⟨b, ver, rfl, h⟩
  · have e1 : finish H.length G [.slice none 0 0, .int .i64 t, .int .i64 c] = (one [.slice none 0 0, .int .i64 t, .int .i64 c], G.take H.length) := finish_vs (by simp)
    rw [p.take] at e1
    exact ⟨_, e1, .slice none 0 0, H, rfl, .inl ⟨rfl, rfl⟩, .refl⟩
  · obtain ⟨b', ver', G', e, h1, h2⟩ := h.fin p (rest := [.int .i64 t, .int .i64 c]) rfl
    exact ⟨_, e, _, G', rfl, .inr ⟨b', ver', rfl, h1⟩, h2⟩
/- Moves, compared by how far they go. -/
def szI (a : Int) : Int := if a < -a then -a else a
def mkey (a : Int × Int) : Int := szI a.1 + szI a.2
abbrev ML := List (Int × Int)
/-- Halves. -/
def hf (i j : Int) : Int := (i + j) / 2
/- The moves up to a size, as both sides order them. -/
def rgI (m : Int) : List Int := (List.range (2 * m + 1).toNat).map fun (i : Nat) => (i : Int) - m
def gridM (m : Int) : ML := (rgI m).flatMap fun a => (rgI m).map fun b => (a, b)
def farM (m : Int) : ML := (List.range (2 * m + 1).toNat).flatMap fun (d : Nat) => (gridM m).filter fun a => decide (mkey a = d)
/-- The list that is being sorted, in its block. -/
def hp (G0 : Heap) (bq ver : Nat) (l : ML) : Heap := G0.set bq ⟨mvsC l, 2, ver, false⟩
theorem own_nil {H : Heap} {esz : Nat} : Own H (.slice none 0 0) none H.length esz 0 [] := ⟨by simp, rfl, rfl⟩
theorem SlR.cells {H : Heap} {x : Value} {esz n : Nat} {vs : List Value} (h : SlR H x esz n vs) : cellsOf x = [x] := by
  rcases h.is with ⟨rfl, _⟩ | ⟨b, off, ver, cap, rfl, _⟩ <;> rfl
def cpP (b c : List (List Int)) (a : Int × Int) (p : Nat) : Bool := allN (fun i => decide (fr b (p + i) = shF (fr c i) a.1 a.2)) c.length
/-- Which move is the first one that makes a copy at p. -/
def mcJ (b c : List (List Int)) (m p : Nat) : Int := findN (fun j => cpP b c (mv (farM m) j) p) (farM m).length
def mcS (b c : List (List Int)) (m p : Nat) (s : List Int × ML) : List Int × ML := if 0 ≤ mcJ b c m p then (s.1 ++ [(p : Int)], s.2 ++ [mv (farM m) (mcJ b c m p).toNat]) else s
def mcK (b c : List (List Int)) (m k : Nat) : List Int × ML := itN (mcS b c m) ([], []) k
theorem mcK_zero {b c : List (List Int)} {m : Nat} : mcK b c m 0 = ([], []) := itN_zero
theorem mcK_succ {b c : List (List Int)} {m k : Nat} : mcK b c m (k + 1) = mcS b c m k (mcK b c m k) := itN_succ
theorem mcK_len {b c : List (List Int)} {m k : Nat} : (mcK b c m k).1.length ≤ k ∧ (mcK b c m k).2.length = (mcK b c m k).1.length := by
  induction k with
  | zero => rw [mcK_zero]; simp
  | succ k ih =>
    rw [mcK_succ, mcS]
    split
    · simp [ih.2]; omega
    · exact ⟨by omega, ih.2⟩
def mcC (b c : List (List Int)) (m : Int) : Int := if (okB b && okB c) = true then if (in1 m 0 4 && !((c.length : Int) == 0)) = true then 0 else 2 else 1
/-- How many places there are. -/
def mcN (b c : List (List Int)) : Nat := b.length + 1 - c.length
def mcR (b c : List (List Int)) (m : Int) : List Int × ML := if mcC b c m = 0 then mcK b c m.toNat (mcN b c) else ([], [])
/-- What 352 hands back. -/
def RsM (H : Heap) (r : Value × Heap) (q : List Int × ML) (c : Int) : Prop :=
  (c ≠ 0 ∧ r = (tup [.slice none 0 0, .slice none 0 0, .int .i64 c], H)) ∨
  (c = 0 ∧ r = (tup [slc H.length 0 0 q.1.length q.1.length, slc (H.length + 1) 0 0 q.1.length q.1.length, .int .i64 c], H ++ [⟨cs .i64 q.1, 1, 0, false⟩, ⟨mvsC q.2, 2, 0, false⟩]))
theorem rowsC_drop {α : Type} {f : α → List Value} {esz : Nat} {l : List α} (hf : ∀ a ∈ l, (f a).length = esz) {k : Nat} : (rowsC f l).drop (k * esz) = rowsC f (l.drop k) := by
  induction l generalizing k with
  | nil => simp [rowsC]
  | cons a r ih =>
    cases k with
    | zero => simp
    | succ k =>
      have h1 := hf a (by simp)
      have := ih (k := k) (fun b hb => hf b (by simp [hb]))
      show (f a ++ rowsC f r).drop ((k + 1) * esz) = rowsC f (r.drop k)
      rw [← this, show (k + 1) * esz = (f a).length + k * esz by rw [h1, Nat.succ_mul]; omega, List.drop_length_add_append]
theorem rowsC_take {α : Type} {f : α → List Value} {esz : Nat} {l : List α} (hf : ∀ a ∈ l, (f a).length = esz) {k : Nat} : (rowsC f l).take (k * esz) = rowsC f (l.take k) := by
  induction l generalizing k with
  | nil => simp [rowsC]
  | cons a r ih =>
    cases k with
    | zero => simp [rowsC]
    | succ k =>
      have h1 := hf a (by simp)
      have := ih (k := k) (fun b hb => hf b (by simp [hb]))
      show (f a ++ rowsC f r).take ((k + 1) * esz) = f a ++ rowsC f (r.take k)
      rw [← this, show (k + 1) * esz = (f a).length + k * esz by rw [h1, Nat.succ_mul]; omega, List.take_length_add_append]
theorem frC_len {b : List (List Int)} (hw : BkW b) : ∀ a ∈ b, (frC a).length = 12 := fun a ha => by simp [frC, (hw a ha).len]
/-- A part of a book in memory. -/
theorem Bk.sub {H : Heap} {x : Value} {b : List (List Int)} (h : Bk H x b) (hw : BkW b) {lo n : Nat} (hn : lo + n ≤ b.length) {k k' : IntKind} :
    ∃ y, slcAV H 12 x (some (.int k (lo : Int))) (some (.int k' ((lo + n : Nat) : Int))) none = some y ∧ Bk H y ((b.drop lo).take n) ∧ BkW ((b.drop lo).take n) := by
  obtain ⟨y, h1, h2⟩ := SlR.sub h (lo := lo) (hi := lo + n) (by omega) hn (k := k) (k' := k')
  have hW : BkW ((b.drop lo).take n) := fun f hf => hw f (List.mem_of_mem_drop (List.mem_of_mem_take hf))
  refine ⟨y, h1, ?_, hW⟩
  have e1 : lo + n - lo = n := by omega
  rw [e1] at h2
  have e2 : (bkC b).drop (lo * 12) = bkC (b.drop lo) := rowsC_drop (frC_len hw)
  have e3 : (bkC (b.drop lo)).take (n * 12) = bkC ((b.drop lo).take n) := rowsC_take (frC_len fun f hf => hw f (List.mem_of_mem_drop hf))
  rw [e2, e3] at h2
  have e4 : ((b.drop lo).take n).length = n := by simp; omega
  show SlR H y 12 ((b.drop lo).take n).length (bkC ((b.drop lo).take n))
  rw [e4]; exact h2
/-- Two lists of its own, and a code. -/
def RsD (H : Heap) (r : Value × Heap) (q : List Int × ML) (c : Int) : Prop := ∃ r1 r2 G β1 β2, r = (tup [r1, r2, .int .i64 c], G) ∧ Pre H G ∧ Own G r1 β1 H.length 1 q.1.length (cs .i64 q.1) ∧ Own G r2 β2 H.length 2 q.1.length (mvsC q.2) ∧ ∀ b, β1 = some b → β2 ≠ some b
theorem mcR_len {b c : List (List Int)} {m : Int} : (mcR b c m).2.length = (mcR b c m).1.length := by
  by_cases h : mcC b c m = 0
  · rw [mcR, if_pos h]; exact mcK_len.2
  · rw [mcR, if_neg h]; rfl
theorem two_own {H : Heap} {vs ws : List Value} {e1 e2 n1 n2 : Nat} (h1 : vs.length = n1 * e1) (h2 : ws.length = n2 * e2) :
    Own (H ++ [⟨vs, e1, 0, false⟩, ⟨ws, e2, 0, false⟩]) (slc H.length 0 0 n1 n1) (some H.length) H.length e1 n1 vs ∧ Own (H ++ [⟨vs, e1, 0, false⟩, ⟨ws, e2, 0, false⟩]) (slc (H.length + 1) 0 0 n2 n2) (some (H.length + 1)) H.length e2 n2 ws :=
  ⟨⟨h1, Nat.le_refl _, 0, n1, [], rfl, Nat.le_refl _, by simp⟩, ⟨h2, by omega, 0, n2, [], rfl, Nat.le_refl _, by simp⟩⟩
theorem RsM.d {b c : List (List Int)} {m : Int} {H : Heap} {r : Value × Heap} (h : RsM H r (mcR b c m) (mcC b c m)) : RsD H r (mcR b c m) (mcC b c m) := by
  rcases h with ⟨hc, rfl⟩ | ⟨hc, rfl⟩
  · refine ⟨_, _, H, none, none, rfl, .refl, ?_, ?_, by intro b h; cases h⟩
    · rw [mcR, if_neg hc]; exact own_nil
    · rw [mcR, if_neg hc]; exact own_nil
  · obtain ⟨o1, o2⟩ := two_own (H := H) (vs := cs .i64 (mcR b c m).1) (ws := mvsC (mcR b c m).2) (e1 := 1) (e2 := 2) (n1 := (mcR b c m).1.length) (n2 := (mcR b c m).1.length) (by simp) (by rw [mvsC_length, mcR_len])
    exact ⟨_, _, _, _, _, rfl, ⟨_, rfl⟩, o1, o2, by intro b h; cases h; simp⟩
structure Ly where
  f : List Int
  x : Int
  y : Int
  d : Int
instance : Inhabited Ly := ⟨⟨[], 0, 0, 0⟩⟩
structure LyW (s : Ly) : Prop where
  len : s.f.length = 24
  ok : ∀ n ∈ s.f, u16' n
  x : i8 s.x
  y : i8 s.y
  d : i8 s.d
def lyT (f : List Int) (a b c : Value) : List Value := cs .u16 f ++ [a, b, c]
def lyC (s : Ly) : List Value := lyT s.f (.int .i8 s.x) (.int .i8 s.y) (.int .i8 s.d)
def scC (l : List Ly) : List Value := rowsC lyC l
abbrev ScW (l : List Ly) : Prop := ∀ s ∈ l, LyW s
theorem lyT_len {f : List Int} {a b c : Value} (h : f.length = 24) : (lyT f a b c).length = 27 := by simp [lyT, h]
theorem lyC_len {s : Ly} (h : LyW s) : (lyC s).length = 27 := lyT_len h.len
theorem scC_elem {l : List Ly} (h : ScW l) {i : Nat} (hi : i < l.length) : elem (scC l) 27 i = lyC (at0 l i) := rows_elem (f := lyC) (esz := 27) (fun s hs => lyC_len (h s hs)) hi
theorem lyT_at {f : List Int} {a b c : Value} (h : f.length = 24) {k : Nat} : (lyT f a b c).drop (24 + k) = [a, b, c].drop k := by
  unfold lyT
  rw [show 24 + k = (cs .u16 f).length + k by simp [h], List.drop_length_add_append]
abbrev Sc (H : Heap) (x : Value) (l : List Ly) : Prop := SlR H x 27 l.length (scC l)
def inkL (s : Ly) : List Int := sub s.f 0 12
def mskL (s : Ly) : List Int := sub s.f 12 12
theorem LyW.ink {s : Ly} (h : LyW s) : FrW (inkL s) := ⟨sub_length (by rw [h.len]; omega), fun n hn => h.ok n (sub_mem hn)⟩
theorem LyW.msk {s : Ly} (h : LyW s) : FrW (mskL s) := ⟨sub_length (by rw [h.len]; omega), fun n hn => h.ok n (sub_mem hn)⟩
def okCel (s : Ly) : Bool := (okF (inkL s) && okF (mskL s)) && decide (mixF lessI (inkL s) (mskL s) = zr 12 0)
def okLy (s : Ly) : Bool := ((okCel s && in1 s.x (-12) 12) && in1 s.y (-12) 12) && in1 s.d 0 8
/- The spec's side, in memory. -/
theorem lyC_parts {s : Ly} (h : s.f.length = 24) : ((lyC s).drop 0).take 12 = cs .u16 (inkL s) ∧ ((lyC s).drop 12).take 12 = cs .u16 (mskL s) ∧ ((lyC s).drop 24).take 1 = [.int .i8 s.x] ∧ ((lyC s).drop 25).take 1 = [.int .i8 s.y] ∧ ((lyC s).drop 26).take 1 = [.int .i8 s.d] := by
  refine ⟨?_, ?_, ?_, ?_, ?_⟩
  · unfold lyC lyT inkL
    rw [List.drop_zero, List.take_append_of_le_length (by simp [h]), show (cs .u16 s.f).take 12 = ((cs .u16 s.f).drop 0).take 12 by simp, cs_sub]
  · unfold lyC lyT mskL
    rw [List.drop_append_of_le_length (by simp [h]), List.take_append_of_le_length (by simp [h]), cs_sub]
  · unfold lyC
    rw [show 24 = 24 + 0 from rfl, lyT_at h]; rfl
  · unfold lyC
    rw [show 25 = 24 + 1 from rfl, lyT_at h]; rfl
  · unfold lyC
    rw [show 26 = 24 + 2 from rfl, lyT_at h]; rfl
/-- A layer in memory. -/
structure LyR (H : Heap) (q off ver : Nat) (s : Ly) : Prop where
  ink : rd H q off ver 12 = some (cs .u16 (inkL s))
  msk : rd H q (off + 12) ver 12 = some (cs .u16 (mskL s))
  x : rd H q (off + 24) ver 1 = some [.int .i8 s.x]
  y : rd H q (off + 25) ver 1 = some [.int .i8 s.y]
  d : rd H q (off + 26) ver 1 = some [.int .i8 s.d]
theorem LyR.of {H : Heap} {q off ver : Nat} {s : Ly} (h : rd H q off ver 27 = some (lyC s)) (hf : s.f.length = 24) : LyR H q off ver s := by
  obtain ⟨h1, h2, h3, h4, h5⟩ := lyC_parts hf
  have g1 := rd_part h (o := 0) (m := 12) (by omega)
  rw [h1, Nat.add_zero] at g1
  exact ⟨g1, by rw [rd_part h (by omega), h2], by rw [rd_part h (by omega), h3], by rw [rd_part h (by omega), h4], by rw [rd_part h (by omega), h5]⟩
theorem LyR.pre {H G : Heap} {q off ver : Nat} {s : Ly} (p : Pre H G) (h : LyR H q off ver s) : LyR G q off ver s := ⟨p.rd h.ink, p.rd h.msk, p.rd h.x, p.rd h.y, p.rd h.d⟩
theorem Sc.get {H : Heap} {x : Value} {l : List Ly} (hs : Sc H x l) (hw : ScW l) {i : Nat} (hi : i < l.length) : ∃ q off ver, idxAV 27 x (.int .i64 (i : Int)) = some (adr q off ver) ∧ rd H q off ver 27 = some (lyC (at0 l i)) ∧ LyR H q off ver (at0 l i) := by
  obtain ⟨q, off, ver, h1, h2⟩ := SlR.get1 hs hi
  rw [scC_elem hw hi] at h2
  exact ⟨q, off, ver, h1, h2, LyR.of h2 (hw _ (at0_mem hi)).len⟩
theorem lessI_row {a b : Int} (ha : u16' a) (h1 : okRow a = true) : okRow (lessI a b) = true := by
  obtain ⟨n, rfl⟩ := Int.eq_ofNat_of_zero_le ha.1
  simp [okRow] at h1 ⊢
  have e0 : IntKind.bits .u16 = 16 := rfl
  unfold lessI bitsOf
  simp only []
  have e1 : (BitVec.ofInt (IntKind.bits .u16) (n : Int) &&& ~~~BitVec.ofInt (IntKind.bits .u16) b).toNat ≤ n := by
    rw [BitVec.toNat_and]
    refine Nat.le_trans Nat.and_le_left ?_
    rw [e0, BitVec.ofInt_natCast, BitVec.toNat_ofNat]
    exact Nat.mod_le _ _
  rw [wrapu16 (by omega)]; omega
theorem lessI_ok {a b : Int} : u16' (lessI a b) := by
  have e0 : IntKind.bits .u16 = 16 := rfl
  unfold lessI bitsOf
  simp only []
  have := (BitVec.ofInt (IntKind.bits .u16) a &&& ~~~BitVec.ofInt (IntKind.bits .u16) b).isLt
  rw [e0] at this ⊢
  rw [wrapu16 (by omega)]; omega
theorem join_sub {a b : List Int} (ha : a.length = 12) (hb : b.length = 12) : sub (a ++ b) 0 12 = a ∧ sub (a ++ b) 12 12 = b := by
  constructor
  · unfold sub
    rw [List.drop_zero, List.take_append_of_le_length (by omega), List.take_of_length_le (by omega)]
  · unfold sub
    rw [List.drop_append_of_le_length (by omega), List.drop_eq_nil_of_le (by omega), List.nil_append, List.take_of_length_le (by omega)]
/- Keys. -/
abbrev Ky := Int × Int × Int
def kyC (k : Ky) : List Value := [.int .i16 k.1, .int .i8 k.2.1, .int .i8 k.2.2]
def kysC (l : List Ky) : List Value := rowsC kyC l
theorem kysC_length {l : List Ky} : (kysC l).length = l.length * 3 := rows_length (f := kyC) (esz := 3) fun _ _ => rfl
theorem kysC_elem {l : List Ky} {i : Nat} (hi : i < l.length) : elem (kysC l) 3 i = kyC (at0 l i) := rows_elem (f := kyC) (esz := 3) (fun _ _ => rfl) hi
def kyF : List Value := [.int .i16 (-30101), .int .i8 (-101), .int .i8 (-101)]
/- Parts. -/
structure Pt where
  f : List Int
  e : Int
  ks : List Ky
  len : f.length = 12
instance : Inhabited Pt := ⟨⟨zr 12 0, 0, [], rfl⟩⟩
structure PtW (s : Pt) : Prop where
  ok : ∀ n ∈ s.f, u16' n
  e : i8 s.e
  ks : ∀ k ∈ s.ks, (-32768 ≤ k.1 ∧ k.1 ≤ 32767) ∧ i8 k.2.1 ∧ i8 k.2.2
def ptT (f : List Int) (a b : Value) : List Value := cs .u16 f ++ [a, b]
def ptC (s : Pt) (y : Value) : List Value := ptT s.f (.int .i8 s.e) y
theorem ptT_len {f : List Int} {a b : Value} (h : f.length = 12) : (ptT f a b).length = 14 := by simp [ptT, h]
theorem ptC_len {s : Pt} {y : Value} : (ptC s y).length = 14 := ptT_len s.len
theorem ptT_at {f : List Int} {a b : Value} (h : f.length = 12) {k : Nat} : (ptT f a b).drop (12 + k) = [a, b].drop k := by
  unfold ptT
  rw [show 12 + k = (cs .u16 f).length + k by simp [h], List.drop_length_add_append]
/-- Keys of a part in memory. -/
abbrev Kr (G : Heap) (y : Value) (s : Pt) : Prop := SlR G y 3 s.ks.length (kysC s.ks)
abbrev KrC (G : Heap) (y : Value) (s : Pt) : Prop := IsCp G y 3 s.ks.length (kysC s.ks) kyF
/-- Parts in memory. -/
def PtS (G : Heap) (x : Value) (l : List Pt) : Prop := ∃ vs, SlR G x 14 l.length vs ∧ ∀ i, i < l.length → ∃ y, elem vs 14 i = ptC (at0 l i) y ∧ Kr G y (at0 l i)
theorem PtS.pre {H G : Heap} {x : Value} {l : List Pt} (p : Pre H G) (h : PtS H x l) : PtS G x l := by
  obtain ⟨vs, h1, h2⟩ := h
  exact ⟨vs, h1.pre p, fun i hi => by obtain ⟨y, h3, h4⟩ := h2 i hi; exact ⟨y, h3, h4.pre p⟩⟩
theorem PtS.lenV {G : Heap} {x : Value} {l : List Pt} (h : PtS G x l) : lenV x = some (.int .i64 l.length) := by
  obtain ⟨vs, h1, _⟩ := h; exact h1.lenV
theorem PtS.get {G : Heap} {x : Value} {l : List Pt} (h : PtS G x l) {i : Nat} (hi : i < l.length) : ∃ q off ver y, idxAV 14 x (.int .i64 (i : Int)) = some (adr q off ver) ∧ rd G q off ver 14 = some (ptC (at0 l i) y) ∧ Kr G y (at0 l i) := by
  obtain ⟨vs, h1, h2⟩ := h
  obtain ⟨q, off, ver, h3, h4⟩ := h1.get1 hi
  obtain ⟨y, h5, h6⟩ := h2 i hi
  rw [h5] at h4
  exact ⟨q, off, ver, y, h3, h4, h6⟩
/-- A copy of a part: what stands in the block, whatever stands in that block itself. -/
structure CqI (H G : Heap) (b : Nat) (flag : Bool) (s : Pt) (y : Value) : Prop where
  r : ∀ k, Kr (G.set b k) y s
  n : y = .slice none 0 0 ∨ old0 H.length y = false
  c : flag = false → (∀ k, KrC (G.set b k) y s) ∧ old0 H.length y = false
theorem CqI.set {H G : Heap} {b : Nat} {flag : Bool} {s : Pt} {y : Value} {k : Blk} (h : CqI H G b flag s y) : CqI H (G.set b k) b flag s y := ⟨fun k' => by rw [set_set]; exact h.r k', h.n, fun hf => ⟨fun k' => by rw [set_set]; exact (h.c hf).1 k', (h.c hf).2⟩⟩
theorem CqI.pre {H G G' : Heap} {b : Nat} {flag : Bool} {s : Pt} {y : Value} (h : CqI H G b flag s y) (p : Pre G G') (hb : b < G.length) : CqI H G' b flag s y :=
  ⟨fun k => (h.r k).pre (set_pre p hb), h.n, fun hf => ⟨fun k => ((h.c hf).1 k).pre (set_pre p hb), (h.c hf).2⟩⟩
def ptF : Pt := ⟨bkF, -101, [(-30101, -101, -101)], rfl⟩
/-- Steps copied, with room behind. -/
def CqS (G : Heap) (x : Value) (l : List Pt) : Prop := ∃ b ver vs, x = slc b 0 ver l.length (l.length + roomN l.length) ∧ G[b]? = some ⟨vs, 14, ver, false⟩ ∧ vs.length = (l.length + roomN l.length) * 14 ∧
  (∀ i, i < l.length → ∃ y, elem vs 14 i = ptC (at0 l i) y ∧ KrC G y (at0 l i)) ∧ ∀ i, l.length ≤ i → i < l.length + roomN l.length → ∃ y, elem vs 14 i = ptC ptF y ∧ Kr G y ptF
theorem CqS.sl {G : Heap} {x : Value} {l : List Pt} (h : CqS G x l) : PtS G x l := by
  obtain ⟨b, ver, vs, rfl, hg, hl, h1, h2⟩ := h
  have e1 : l.length * 14 ≤ vs.length := by omega
  refine ⟨vs.take (l.length * 14), ⟨by simp; omega, .inr ⟨b, 0, ver, _, rfl, by omega, by rw [rd_at hg rfl (by simp; omega)]; simp, _, hg, rfl, rfl⟩⟩, fun i hi => ?_⟩
  obtain ⟨y, h3, h4⟩ := h1 i hi
  exact ⟨y, by rw [elem_take hi, h3], h4.sl kysC_length rfl⟩
theorem CqS.pre {H G : Heap} {x : Value} {l : List Pt} (p : Pre H G) (h : CqS H x l) : CqS G x l := by
  obtain ⟨b, ver, vs, rfl, hg, hl, h1, h2⟩ := h
  refine ⟨b, ver, vs, rfl, by rw [p.get (List.getElem?_eq_some_iff.1 hg).1]; exact hg, hl, fun i hi => ?_, fun i hi hi2 => ?_⟩
  · obtain ⟨y, h3, h4⟩ := h1 i hi; exact ⟨y, h3, h4.pre p⟩
  · obtain ⟨y, h3, h4⟩ := h2 i hi hi2; exact ⟨y, h3, h4.pre p⟩
def ky (ks : List Ky) (i : Nat) : Ky := at0 ks i
def kyB (ks : List Ky) (j : Nat) : Bool := ((in1 (ky ks j).1 0 200 && in1 (ky ks j).2.1 (-24) 24) && in1 (ky ks j).2.2 (-24) 24) && (decide (j = 0) || decide ((ky ks (j - 1)).1 < (ky ks j).1))
def okTk (ks : List Ky) : Bool := allN (kyB ks) ks.length && in1 ks.length 1 20
def okPt (s : Pt) : Bool := (okF s.f && okTk s.ks) && in1 s.e 0 3
abbrev KyW (ks : List Ky) : Prop := ∀ k ∈ ks, (-32768 ≤ k.1 ∧ k.1 ≤ 32767) ∧ i8 k.2.1 ∧ i8 k.2.2
theorem KyW.at {ks : List Ky} (h : KyW ks) {i : Nat} (hi : i < ks.length) : (-32768 ≤ (ky ks i).1 ∧ (ky ks i).1 ≤ 32767) ∧ i8 (ky ks i).2.1 ∧ i8 (ky ks i).2.2 := h _ (at0_mem hi)
theorem Kr.at {H : Heap} {y : Value} {ks : List Ky} (h : SlR H y 3 ks.length (kysC ks)) {j : Nat} (hj : j < ks.length) : ∃ q off ver, idxAV 3 y (.int .i64 (j : Int)) = some (adr q off ver) ∧ rd H q off ver 3 = some (kyC (ky ks j)) ∧
    rd H q off ver 1 = some [.int .i16 (ky ks j).1] ∧ rd H q (off + 1) ver 1 = some [.int .i8 (ky ks j).2.1] ∧ rd H q (off + 2) ver 1 = some [.int .i8 (ky ks j).2.2] := by
  obtain ⟨q, off, ver, h1, h2⟩ := SlR.get1 h hj
  rw [kysC_elem hj] at h2
  have r0 := rd_part h2 (o := 0) (m := 1) (by omega)
  have r1 := rd_part h2 (o := 1) (m := 1) (by omega)
  have r2 := rd_part h2 (o := 2) (m := 1) (by omega)
  rw [Nat.add_zero] at r0
  exact ⟨q, off, ver, h1, h2, r0, r1, r2⟩
/-- A part in memory. -/
structure PtR (H : Heap) (q off ver : Nat) (s : Pt) (y : Value) : Prop where
  rf : rd H q off ver 12 = some (cs .u16 s.f)
  re : rd H q (off + 12) ver 1 = some [.int .i8 s.e]
  ry : rd H q (off + 13) ver 1 = some [y]
  rk : Kr H y s
theorem PtR.of {H : Heap} {q off ver : Nat} {s : Pt} {y : Value} (h : rd H q off ver 14 = some (ptC s y)) (hk : Kr H y s) : PtR H q off ver s y := by
  have hl := s.len
  have g1 := rd_part h (o := 0) (m := 12) (by omega)
  have g2 := rd_part h (o := 12) (m := 1) (by omega)
  have g3 := rd_part h (o := 13) (m := 1) (by omega)
  unfold ptC at g1 g2 g3
  rw [show 12 = 12 + 0 from rfl, ptT_at hl] at g2
  rw [show 13 = 12 + 1 from rfl, ptT_at hl] at g3
  rw [Nat.add_zero, List.drop_zero] at g1
  unfold ptT at g1
  rw [List.take_left' (by simp [hl])] at g1
  exact ⟨g1, g2, g3, hk⟩
theorem PtR.pre {H G : Heap} {q off ver : Nat} {s : Pt} {y : Value} (p : Pre H G) (h : PtR H q off ver s y) : PtR G q off ver s y := ⟨p.rd h.rf, p.rd h.re, p.rd h.ry, SlR.pre p h.rk⟩
structure TkV (ks : List Ky) : Prop where
  n1 : 1 ≤ ks.length
  n20 : ks.length ≤ 20
  r : ∀ i, i < ks.length → (0 ≤ (ky ks i).1 ∧ (ky ks i).1 ≤ 200) ∧ (-24 ≤ (ky ks i).2.1 ∧ (ky ks i).2.1 ≤ 24) ∧ -24 ≤ (ky ks i).2.2 ∧ (ky ks i).2.2 ≤ 24
  s : ∀ i, i + 1 < ks.length → (ky ks i).1 < (ky ks (i + 1)).1
theorem okTk_V {ks : List Ky} (h : okTk ks = true) : TkV ks := by
  simp only [okTk, Bool.and_eq_true] at h
  obtain ⟨h1, h2⟩ := h
  have hl : 1 ≤ ks.length ∧ ks.length ≤ 20 := by simp [in1] at h2; omega
  refine ⟨hl.1, hl.2, fun i hi => ?_, fun i hi => ?_⟩
  · have := allN_get (p := kyB ks) h1 hi
    simp only [kyB, Bool.and_eq_true, in1, decide_eq_true_eq] at this
    exact ⟨this.1.1.1, this.1.1.2, this.1.2⟩
  · have := allN_get (p := kyB ks) h1 hi
    simp only [kyB, Bool.and_eq_true, in1, decide_eq_true_eq, Bool.or_eq_true] at this
    rcases this.2 with h | h
    · omega
    · exact h
theorem PtW.fr {s : Pt} (h : PtW s) : FrW s.f := ⟨s.len, h.ok⟩
/-- A copy of parts while marks are being written over it. -/
structure MkP (G G' : Heap) (b ver lo hi n : Nat) (y : Nat → Value) (m : Nat → Nat) : Prop where
  len : G'.length = G.length
  fr : ∀ j, j < lo ∨ hi ≤ j → G'[j]? = G[j]?
  inb : lo ≤ b ∧ b < hi
  out : ∃ vs, G'[b]? = some ⟨vs, 14, ver, false⟩ ∧ n * 14 ≤ vs.length ∧ ∀ i, i < n → vs[i * 14 + 13]? = some (y i)
  row : ∀ i, i < n → ∃ b' ver' cap' ws, y i = slc b' 0 ver' (m i) cap' ∧ lo ≤ b' ∧ b' < hi ∧ b' ≠ b ∧ G'[b']? = some ⟨ws, 3, ver', false⟩ ∧ m i * 3 ≤ ws.length
theorem MkP.rows {G G' : Heap} {b ver lo hi n : Nat} {y : Nat → Value} {m : Nat → Nat} (h : MkP G G' b ver lo hi n y m) {b' ver' : Nat} {ws ws' : List Value} (hb : lo ≤ b' ∧ b' < hi) (hne : b' ≠ b) (hg : G'[b']? = some ⟨ws, 3, ver', false⟩) (hw : ws'.length = ws.length) :
    MkP G (G'.set b' ⟨ws', 3, ver', false⟩) b ver lo hi n y m := by
  refine ⟨by simp [h.len], fun j hj => ?_, h.inb, ?_, fun i hi => ?_⟩
  · rw [List.getElem?_set_ne (by omega)]
    exact h.fr j hj
  · obtain ⟨vs, h1, h2⟩ := h.out
    exact ⟨vs, by rw [List.getElem?_set_ne hne]; exact h1, h2⟩
  · obtain ⟨b2, ver2, cap2, ws2, h1, h2, h3, h4, h5, h6⟩ := h.row i hi
    by_cases hb2 : b' = b2
    · subst hb2
      rw [hg] at h5
      cases h5
      exact ⟨b', ver', cap2, ws', h1, h2, h3, h4, get_set hg, by rw [hw]; exact h6⟩
    · exact ⟨b2, ver2, cap2, ws2, h1, h2, h3, h4, by rw [List.getElem?_set_ne hb2]; exact h5, h6⟩
theorem bkC_push {l : List (List Int)} {f : List Int} : bkC l ++ cs .u16 f = bkC (l ++ [f]) := by rw [bkC, bkC, rowsC_app]; simp [rowsC, frC]
theorem Gr.base {H H' G : Heap} {x : Value} {esz n : Nat} {vs : List Value} (g : Gr H' G x esz n vs) (p : Pre H H') : Gr H G x esz n vs := by
  obtain ⟨b, ver, rfl, h1, h2, h3, h4⟩ := g
  exact ⟨b, ver, rfl, h1, Nat.le_trans p.len h2, h3, p.trans h4⟩
theorem PtR.new {H G : Heap} {s : Pt} {y : Value} (h : Kr H y s) (p : Pre (H ++ [⟨ptC s y, 1, 0, false⟩]) G) : PtR G H.length 0 0 s y := by
  have hr : rd (H ++ [(⟨ptC s y, 1, 0, false⟩ : Blk)]) H.length 0 0 14 = some (ptC s y) := rd_last rfl ptC_len
  exact PtR.of (p.rd hr) ((h.pre Pre.one).pre p)
/-- A source: a block of three cells; its bytes are elder. At most k bytes were taken. -/
def srB (x : Value) (i sd : Int) : Blk := ⟨[x, .int .i64 i, .int .u64 sd], 1, 0, false⟩
def Src (G : Heap) (P k : Nat) : Prop := ∃ x bs i sd, G[P]? = some (srB x i sd) ∧ SlR (G.take P) x 1 bs.length (cs .u8 bs) ∧ (∀ b ∈ bs, 0 ≤ b ∧ b ≤ 255) ∧ bs.length ≤ 1000000 ∧ 0 ≤ i ∧ i ≤ k
theorem pre_take {G G' : Heap} {n : Nat} (p : Pre G G') (hn : n ≤ G.length) : G'.take n = G.take n := by
  obtain ⟨L, rfl⟩ := p
  rw [List.take_append_of_le_length hn]
theorem Pre.takes {G : Heap} {n : Nat} : Pre (G.take n) G := ⟨G.drop n, (List.take_append_drop n G).symm⟩
theorem Src.lt {G : Heap} {P k : Nat} (h : Src G P k) : P < G.length := by
  obtain ⟨x, bs, i, sd, h1, _⟩ := h
  exact (List.getElem?_eq_some_iff.1 h1).1
theorem Src.le {G : Heap} {P k k' : Nat} (h : Src G P k) (hk : k ≤ k') : Src G P k' := by
  obtain ⟨x, bs, i, sd, h1, h2, h3, h4, h5, h6⟩ := h
  exact ⟨x, bs, i, sd, h1, h2, h3, h4, h5, by omega⟩
theorem Src.pre {G G' : Heap} {P k : Nat} (p : Pre G G') (h : Src G P k) : Src G' P k := by
  have hl := h.lt
  obtain ⟨x, bs, i, sd, h1, h2, h3⟩ := h
  exact ⟨x, bs, i, sd, by rw [p.get hl]; exact h1, by rw [pre_take p (Nat.le_of_lt hl)]; exact h2, h3⟩
/-- Nothing but the source's block has changed. -/
structure Mv (P : Nat) (G G' : Heap) : Prop where
  len : G'.length = G.length
  get : ∀ j, j ≠ P → G'[j]? = G[j]?
theorem Mv.refl {P : Nat} {G : Heap} : Mv P G G := ⟨rfl, fun _ _ => rfl⟩
theorem Mv.trans {P : Nat} {G G' G'' : Heap} (h : Mv P G G') (h' : Mv P G' G'') : Mv P G G'' := ⟨h'.len.trans h.len, fun j hj => (h'.get j hj).trans (h.get j hj)⟩
theorem Mv.set {P : Nat} {G : Heap} {k : Blk} : Mv P G (G.set P k) := ⟨by simp, fun j hj => List.getElem?_set_ne (Ne.symm hj)⟩
theorem Mv.take {P : Nat} {G G' : Heap} (h : Mv P G G') {n0 : Nat} (hn : n0 ≤ P) : G'.take n0 = G.take n0 := by
  apply List.ext_getElem?
  intro i
  rw [List.getElem?_take, List.getElem?_take]
  split
  · rw [h.get i (by omega)]
  · rfl
theorem Mv.rd {P : Nat} {G G' : Heap} (h : Mv P G G') {b off ver n : Nat} (hb : b ≠ P) : rd G' b off ver n = rd G b off ver n := by
  unfold Fb.rd
  rw [h.get b hb]
theorem Src.mv {P k : Nat} {G G' : Heap} (h : Src G P k) (hP : G'[P]? = G[P]?) (hj : ∀ j, j < P → G'[j]? = G[j]?) : Src G' P k := by
  obtain ⟨x, bs, i, sd, h1, h2, h3⟩ := h
  refine ⟨x, bs, i, sd, by rw [hP]; exact h1, ?_, h3⟩
  have : G'.take P = G.take P := by
    apply List.ext_getElem?
    intro j
    rw [List.getElem?_take, List.getElem?_take]
    split
    · exact hj j ‹_›
    · rfl
  rw [this]; exact h2
theorem Src.take {P k n : Nat} {G : Heap} (h : Src G P k) (hn : P < n) : Src (G.take n) P k :=
  h.mv (by rw [List.getElem?_take, if_pos hn]) fun j hj => by rw [List.getElem?_take, if_pos (by omega)]
theorem nthI_ok {bs : List Int} (h : ∀ b ∈ bs, 0 ≤ b ∧ b ≤ 255) {i : Nat} (hi : i < bs.length) : 0 ≤ nth bs i ∧ nth bs i ≤ 255 := h _ (nth_mem hi)
theorem and255 {x : Int} : 0 ≤ bitsOf .and .u64 x 255 ∧ bitsOf .and .u64 x 255 ≤ 255 := by
  have e0 : IntKind.bits .u64 = 64 := rfl
  unfold bitsOf
  simp only []
  have : (BitVec.ofInt (IntKind.bits .u64) x &&& BitVec.ofInt (IntKind.bits .u64) 255).toNat ≤ 255 := by
    rw [BitVec.toNat_and]
    exact Nat.and_le_right
  rw [wrapu64 (by omega)]; omega
theorem call550 {G : Heap} {P k : Nat} (h : Src G P k) (hk : k ≤ 1000000000000) : ∃ v G', Call tab false 550 [adr P 0 0] G = some (.int .i64 v, G') ∧ 0 ≤ v ∧ v ≤ 255 ∧ Mv P G G' ∧ Src G' P (k + 1) := by
  have key : ∃ r, Call tab false 550 [adr P 0 0] G = some r ∧ ∃ v G', r = (.int .i64 v, G') ∧ 0 ≤ v ∧ v ≤ 255 ∧ Mv P G G' ∧ Src G' P (k + 1) := by
    have hl := h.lt
    obtain ⟨x, bs, i, sd, h1, h2, h3, h4, h5, h6⟩ := h
    have hx : SlR G x 1 bs.length (cs .u8 bs) := h2.pre Pre.takes
    refine Call_ex t550 (.inl rfl) rfl ?_
    have r0 : ∀ i sd, rd (G.set P (srB x i sd)) P 0 0 1 = some [x] := fun i sd => rd_at (ver := 0) (get_set (k' := srB x i sd) h1) rfl (by simp [srB])
    have r1 : ∀ i sd, rd (G.set P (srB x i sd)) P 1 0 1 = some [.int .i64 i] := fun i sd => rd_at (ver := 0) (get_set (k' := srB x i sd) h1) rfl (by simp [srB])
    have r2 : ∀ i sd, rd (G.set P (srB x i sd)) P 2 0 1 = some [.int .u64 sd] := fun i sd => rd_at (ver := 0) (get_set (k' := srB x i sd) h1) rfl (by simp [srB])
    have w1 : ∀ i sd i', wr G.length true (G.set P (srB x i sd)) P 1 0 [.int .i64 i'] = some (G.set P (srB x i' sd)) := fun i sd i' => by
      have := wr_at (n0 := G.length) (wb := true) (off := 1) (vs := [.int .i64 i']) (ver := 0) (get_set (k' := srB x i sd) h1) rfl rfl (by simp [may]) (by simp [srB])
      rw [set_set] at this; exact this
    have w2 : ∀ i sd sd', wr G.length true (G.set P (srB x i sd)) P 2 0 [.int .u64 sd'] = some (G.set P (srB x i sd')) := fun i sd sd' => by
      have := wr_at (n0 := G.length) (wb := true) (off := 2) (vs := [.int .u64 sd']) (ver := 0) (get_set (k' := srB x i sd) h1) rfl rfl (by simp [may]) (by simp [srB])
      rw [set_set] at this; exact this
    have e9 : IntKind.wrap .i64 (i + 1) = i + 1 := wrap64 (by omega)
    have r0' := r0 i sd; have r1' := r1 i sd; have w1' := w1 i sd
    rw [set_self h1] at r0' r1' w1'
    have hS : ∀ sd', Src (G.set P (srB x (i + 1) sd')) P (k + 1) := fun sd' => ⟨x, bs, i + 1, sd', get_set h1, by rw [Mv.set.take (Nat.le_refl P)]; exact h2, h3, h4, by omega, by omega⟩
    obtain ⟨m, rfl⟩ := Int.eq_ofNat_of_zero_le h5
    by_cases hlt : m < bs.length
    · obtain ⟨q, off, ver, ha, hr⟩ := hx.get1 hlt
      rw [elem_i hlt] at hr
      have hb := nthI_ok h3 hlt
      have u1 : IntKind.wrap .i64 (nth bs m) = nth bs m := wrap64 (by omega)
      have hle : (m : Int) + 1 ≤ bs.length := by omega
      simp [c550, k550, r0', r1', hx.lenV, hlt, ha, hr, w1', e9, r0, r1, r2, w2, u1, hle, wbOf]
      exact ⟨_, _, ⟨rfl, rfl⟩, hb.1, hb.2, .set, hS _⟩
    · have hle : ¬ (m : Int) + 1 ≤ bs.length := by omega
      have hlt' : ¬ (m : Int) < bs.length := by omega
      have u2 : ∀ y, IntKind.wrap .i64 (bitsOf .and .u64 y 255) = bitsOf .and .u64 y 255 := fun y => wrap64 (by have := and255 (x := y); omega)
      have u3 : ∀ y, shiftOf .shr .u64 y 40 = some (.int .u64 (y.fdiv (2 ^ 40))) := fun y => rfl
      simp [c550, k550, r0', r1', hx.lenV, hlt, hlt', w1', e9, r0, r1, r2, w2, hle, wbOf, u2, u3]
      exact ⟨_, _, ⟨rfl, rfl⟩, and255.1, and255.2, .set, hS _⟩
  obtain ⟨r, hc, v, G', rfl, h⟩ := key
  exact ⟨v, G', hc, h⟩
theorem call459 {G : Heap} {P k : Nat} {n : Int} (h : Src G P k) (hk : k ≤ 100000000000) (hn : 1 ≤ n ∧ n ≤ 1000000) : ∃ v G', Call tab false 459 [adr P 0 0, .int .i64 n] G = some (.int .i64 v, G') ∧ (0 ≤ v ∧ v < n) ∧ Mv P G G' ∧ Src G' P (k + 2) := by
  have key : ∃ r, Call tab false 459 [adr P 0 0, .int .i64 n] G = some r ∧ ∃ v G', r = (.int .i64 v, G') ∧ (0 ≤ v ∧ v < n) ∧ Mv P G G' ∧ Src G' P (k + 2) := by
    refine Call_ex t459 (.inl rfl) rfl ?_
    by_cases h1 : n ≤ 1
    · simp [c459, k459, h1]
      exact ⟨_, _, ⟨rfl, rfl⟩, ⟨by omega, by omega⟩, .refl, h.le (by omega)⟩
    have hn0 : n ≠ 0 := by omega
    obtain ⟨v, G1, c1, v0, v1, m1, s1⟩ := call550 h (by omega)
    have hmod : ∀ a : Int, 0 ≤ a → a.tmod n = a % n ∧ 0 ≤ a % n ∧ a % n < n := fun a ha => ⟨Int.tmod_eq_emod_of_nonneg ha, Int.emod_nonneg _ hn0, Int.emod_lt_of_pos _ (by omega)⟩
    by_cases h2 : n > 200
    · obtain ⟨w, G2, c2, w0, w1, m2, s2⟩ := call550 s1 (by omega)
      have e1 : IntKind.wrap .i64 (v * 256) = v * 256 := wrap64 (by omega)
      have e2 : IntKind.wrap .i64 (v * 256 + w) = v * 256 + w := wrap64 (by omega)
      obtain ⟨g1, g2, g3⟩ := hmod (v * 256 + w) (by omega)
      have e3 : IntKind.wrap .i64 ((v * 256 + w) % n) = (v * 256 + w) % n := wrap64 (by omega)
      have m := m1.trans m2
      simp [c459, k459, h1, h2, c1, c2, wbOf, e1, e2, hn0, g1, e3]
      exact ⟨_, _, ⟨rfl, rfl⟩, ⟨g2, g3⟩, by rw [List.take_of_length_le (by rw [m.len]; exact Nat.le_refl _)]; exact ⟨m, s2⟩⟩
    · obtain ⟨g1, g2, g3⟩ := hmod v v0
      have e3 : IntKind.wrap .i64 (v % n) = v % n := wrap64 (by omega)
      have h2' : ¬ 200 < n := h2
      simp [c459, k459, h1, h2', c1, wbOf, hn0, g1, e3]
      exact ⟨_, _, ⟨rfl, rfl⟩, ⟨g2, g3⟩, by rw [List.take_of_length_le (by rw [m1.len]; exact Nat.le_refl _)]; exact ⟨m1, s1.le (by omega)⟩⟩
  obtain ⟨r, hc, v, G', rfl, h⟩ := key
  exact ⟨v, G', hc, h⟩
theorem call513 {G : Heap} {P k : Nat} {n : Int} (h : Src G P k) (hk : k ≤ 100000000000) (hn : 1 ≤ n ∧ n ≤ 1000000) : ∃ b G', Call tab false 513 [adr P 0 0, .int .i64 n] G = some (.bool b, G') ∧ Mv P G G' ∧ Src G' P (k + 2) := by
  obtain ⟨v, G', c, _, m, s⟩ := call459 h hk hn
  refine ⟨v == 0, G', Call_wp t513 (.inl rfl) rfl ?_, m, s⟩
  simp [c513, k513, c, wbOf]
  exact List.take_of_length_le (by rw [m.len]; exact Nat.le_refl _)
theorem SlR.old {H : Heap} {x : Value} {esz n : Nat} {vs : List Value} (h : SlR H x esz n vs) : old0 H.length x = true := by
  rcases h.is with ⟨rfl, _⟩ | ⟨b, off, ver, cap, rfl, _, _, k, hk, _⟩
  · rfl
  · rw [old0_slc]
    simpa using (List.getElem?_eq_some_iff.1 hk).1
theorem finish_adr {H G : Heap} {b ver : Nat} {k : Blk} (hp : Pre H G) (hb : H.length ≤ b) (hk : G[b]? = some k) (hv : ver = k.ver) (hr : k.ro = false) (ho : k.cells.all (old0 H.length) = true) :
    finish H.length G [adr b 0 ver] = (adr H.length 0 0, H ++ [{ k with ver := 0 }]) := by
  have h1 : old1 H.length (adr b 0 ver) = false := by
    show (decide (b < H.length)) = false
    simpa using hb
  have : pack H.length G [adr b 0 ver] [] [] = some ([adr H.length 0 0], [{ k with ver := 0 }]) := by
    rw [pack, if_neg (by rw [h1]; decide)]
    show (match G[b]? with
      | some k => if ([] : List Nat).contains b = false ∧ ver = k.ver ∧ k.ro = false ∧ k.cells.all (old0 H.length) = true then _ else none
      | none => none) = _
    rw [hk]
    simp only []
    rw [if_pos ⟨by simp, hv, hr, ho⟩]
    rfl
  rw [finish_some this, hp.take]; rfl
/-- A source anew. -/
theorem call315 {pu : Bool} {H : Heap} {x : Value} {bs : List Int} (hx : SlR H x 1 bs.length (cs .u8 bs)) (hb : ∀ b ∈ bs, 0 ≤ b ∧ b ≤ 255) (hn : bs.length ≤ 1000000) :
    Call tab pu 315 [x] H = some (adr H.length 0 0, H ++ [srB x 0 0]) ∧ Src (H ++ [srB x 0 0]) H.length 0 := by
  constructor
  · refine Call_wp t315 (.inr rfl) rfl ?_
    have hc : cellsOf x = [x] := by
      rcases hx.is with ⟨rfl, _⟩ | ⟨b, off, ver, cap, rfl, _⟩ <;> rfl
    have hf : fill [.slice none 0 0, .int .i64 0, .int .u64 0] [(0, 1, x)] = some [x, .int .i64 0, .int .u64 0] := by
      show (if (cellsOf x).length = 1 ∧ 0 + 1 ≤ 3 then fill (splice [.slice none 0 0, .int .i64 0, .int .u64 0] 0 (cellsOf x)) [] else none) = _
      rw [hc]; rfl
    have hfin := finish_adr (H := H) (G := H ++ [srB x 0 0]) (b := H.length) (ver := 0) Pre.one (Nat.le_refl _) get_last rfl rfl (by simp [srB, hx.old])
    have e1 : ({ srB x 0 0 with ver := 0 } : Blk) = srB x 0 0 := rfl
    rw [e1] at hfin
    simp only [srB] at hfin ⊢
    simp [c315, k315, hf, hfin]
  · refine ⟨x, bs, 0, 0, get_last, ?_, hb, hn, by omega, by omega⟩
    rw [List.take_left' rfl]
    exact hx
theorem fl_step {T : Tab} {n0 : Nat} {wb : Bool} {e : Env} {H H' : Heap} {Q : Ex → Env → Heap → Prop} {fs : List Fr} {d : Option Nat} {o : Op1} {r : List Stm} {e0 : Env} {outs : List Nat} {fl : List Opd} {v : Value}
    (h : apart e ⟨none, d, o, fl⟩ = true) (hv : ev1 (Call T) n0 wb e H o = some (v, H')) (hs : stays e H H' ⟨none, d, o, fl⟩ = true) :
    OK' T n0 wb (⟨none, d, o, fl⟩ :: r) e H e0 outs fs Q ↔ OK' T n0 wb r (put e d v) H' e0 outs fs Q := by
  unfold OK' OPS
  simp only [ops, wanted, h, hv, hs, if_true]
theorem orI_ok {a b : Int} : u16' (orI a b) := by
  have e0 : IntKind.bits .u16 = 16 := rfl
  unfold orI bitsOf
  simp only []
  have : (BitVec.ofInt (IntKind.bits .u16) a ||| BitVec.ofInt (IntKind.bits .u16) b).toNat < 2 ^ 16 := by rw [e0]; exact BitVec.isLt _
  rw [wrapu16 (by omega)]; omega
theorem orI_row {a b : Int} (ha : u16' a) (hb : u16' b) (h1 : okRow a = true) (h2 : okRow b = true) : okRow (orI a b) = true := by
  obtain ⟨n, rfl⟩ := Int.eq_ofNat_of_zero_le ha.1
  obtain ⟨m, rfl⟩ := Int.eq_ofNat_of_zero_le hb.1
  simp [okRow] at h1 h2 ⊢
  have e0 : IntKind.bits .u16 = 16 := rfl
  unfold orI bitsOf
  simp only []
  have e1 : (BitVec.ofInt (IntKind.bits .u16) (n : Int) ||| BitVec.ofInt (IntKind.bits .u16) (m : Int)).toNat = n ||| m := by
    rw [BitVec.toNat_or, e0, BitVec.ofInt_natCast, BitVec.ofInt_natCast, BitVec.toNat_ofNat, BitVec.toNat_ofNat, Nat.mod_eq_of_lt (show n < 2 ^ 16 by omega), Nat.mod_eq_of_lt (show m < 2 ^ 16 by omega)]
  have e2 : n ||| m < 2 ^ 12 := Nat.or_lt_two_pow (show n < 2 ^ 12 by omega) (show m < 2 ^ 12 by omega)
  rw [e1, wrapu16 (by omega)]; omega
/-- A valid frame. -/
structure VF (f : List Int) : Prop where
  W : FrW f
  ok : okF f = true
theorem VF.row {f : List Int} (h : VF f) {i : Nat} (hi : i < 12) : u16' (nth f i) ∧ okRow (nth f i) = true := ⟨h.W.nth hi, List.all_eq_true.1 (show f.all okRow = true from h.ok) _ (nth_mem (by rw [h.W.len]; exact hi))⟩
theorem VF.set {f : List Int} {i : Nat} {r : Int} (h : VF f) (hr : u16' r) (ho : okRow r = true) : VF (f.set i r) :=
  ⟨⟨by simp [h.W.len], fun n hn => (List.mem_or_eq_of_mem_set hn).elim (h.W.ok n) (fun e => by rw [e]; exact hr)⟩,
    List.all_eq_true.2 fun n hn => (List.mem_or_eq_of_mem_set hn).elim (fun h1 => List.all_eq_true.1 (show f.all okRow = true from h.ok) n h1) (fun e => by rw [e]; exact ho)⟩
theorem VF.zero : VF (zr 12 0) := ⟨⟨by simp, fun n hn => by simp [zr] at hn; subst hn; exact ⟨by omega, by omega⟩⟩, by decide⟩
theorem VF.put {f : List Int} {x y : Nat} (h : VF f) (hx : x < 12) (hy : y < 12) : VF (putF f x y) := by
  have hb := bit_ok hx
  obtain ⟨h1, h2⟩ := h.row hy
  exact h.set (orI_ok (a := nth f y) (b := bit x)) (orI_row h1 ⟨by omega, by omega⟩ h2 (by simp [okRow]; omega))
/-- In a function that draws: the source and a frame of its own. -/
structure Loc (G G' : Heap) (P k : Nat) (f : List Int) : Prop where
  src : Src G' P k
  fr : G'[G.length]? = some ⟨cs .u16 f, 1, 0, false⟩
  V : VF f
  len : G'.length = G.length + 1
  get : ∀ j, j < G.length → j ≠ P → G'[j]? = G[j]?
  lt : P < G.length
theorem Loc.mv {G G' G'' : Heap} {P k k' : Nat} {f : List Int} (h : Loc G G' P k f) (m : Mv P G' G'') (s : Src G'' P k') : Loc G G'' P k' f := by
  have := h.lt
  exact ⟨s, by rw [m.get _ (by omega)]; exact h.fr, h.V, by rw [m.len]; exact h.len, fun j hj hp => by rw [m.get j hp]; exact h.get j hj hp, h.lt⟩
theorem Loc.le {G G' : Heap} {P k k' : Nat} {f : List Int} (h : Loc G G' P k f) (hk : k ≤ k') : Loc G G' P k' f := ⟨h.src.le hk, h.fr, h.V, h.len, h.get, h.lt⟩
theorem Loc.set {G G' : Heap} {P k : Nat} {f g : List Int} (h : Loc G G' P k f) (hg : VF g) : Loc G (G'.set G.length ⟨cs .u16 g, 1, 0, false⟩) P k g := by
  have := h.lt
  exact ⟨h.src.mv (List.getElem?_set_ne (by omega)) fun j hj => List.getElem?_set_ne (by omega), get_set h.fr, hg, by simp [h.len], fun j hj hp => by rw [List.getElem?_set_ne (by omega)]; exact h.get j hj hp, h.lt⟩
theorem Loc.pick {G G' : Heap} {P k : Nat} {f : List Int} {n : Int} (h : Loc G G' P k f) (hk : k ≤ 100000000000) (hn : 1 ≤ n ∧ n ≤ 1000000) : ∃ v G'', Call tab false 459 [adr P 0 0, .int .i64 n] G' = some (.int .i64 v, G'') ∧ (0 ≤ v ∧ v < n) ∧ Loc G G'' P (k + 2) f ∧ G''[G.length]? = G'[G.length]? := by
  obtain ⟨v, G'', c, hv, m, s⟩ := call459 h.src hk hn
  exact ⟨v, G'', c, hv, h.mv m s, m.get _ (by have := h.lt; omega)⟩
theorem Loc.done {G G' : Heap} {P k : Nat} {f : List Int} (h : Loc G G' P k f) : Mv P G (G'.take G.length) ∧ Src (G'.take G.length) P k :=
  ⟨⟨by simp [h.len], fun j hj => by
    rw [List.getElem?_take]
    split
    · exact h.get j ‹_› hj
    · exact (List.getElem?_eq_none (by omega)).symm⟩, h.src.take h.lt⟩
def XY (u v : Value) : Prop := ∃ x y : Nat, x < 12 ∧ y < 12 ∧ u = .int .i64 x ∧ v = .int .i64 y
theorem XY.mk {x y : Int} (hx : 0 ≤ x ∧ x < 12) (hy : 0 ≤ y ∧ y < 12) : XY (.int .i64 x) (.int .i64 y) := by
  obtain ⟨a, rfl⟩ := Int.eq_ofNat_of_zero_le hx.1
  obtain ⟨b, rfl⟩ := Int.eq_ofNat_of_zero_le hy.1
  exact ⟨a, b, by omega, by omega, rfl, rfl⟩
end Fb
