/- What each function computes. -/
import Derived.Test.YtimijcjjmeemeaaUse1
set_option linter.unusedVariables false
set_option linter.unusedSimpArgs false
namespace Fb
open Go
theorem call192 {pu : Bool} {l : List Ly} {x y : Int} (hw : ScW l) (hn : l.length ≤ 1000000) {H : Heap} {z : Value} (hs : Sc H z l) :
    ∃ r G' β, Call tab pu 192 [z, .int .i64 x, .int .i64 y] H = some (tup [r, .int .i64 (cmC l x y)], G') ∧ Pre H G' ∧ Own G' r β H.length 27 (tmL l x y).length (scC (tmL l x y)) := by
  have h1 := call329 (pu := true) (x := x) (y := y) hs hw hn
  by_cases hc : cmC l x y = 0
  · obtain ⟨hok, hx, hy⟩ := cmC_ok hc
    have h8 := okSc_len hok
    have hT : tmL l x y = trL' l x y l.length := by rw [tmL, if_pos hc]
    obtain ⟨hT1, hT2⟩ := tmL_ok (x := x) (y := y) hw
    obtain ⟨G1, hG1⟩ : ∃ G1, G1 = H ++ [(⟨[], 27, 0, false⟩ : Blk)] := ⟨_, rfl⟩
    have p1 : Pre H G1 := by rw [hG1]; exact Pre.one
    have l1 : G1.length = H.length + 1 := by rw [hG1]; simp
    have h412 := call412 (pu := true) (SlR.pre p1 hs) hw hok hx hy
    rw [l1] at h412
    obtain ⟨G2, hG2⟩ : ∃ G2, G2 = G1 ++ [(⟨bkC (snL l x y l.length), 12, 0, false⟩ : Blk)] := ⟨_, rfl⟩
    rw [← hG2] at h412
    have p2 : Pre G1 G2 := by rw [hG2]; exact Pre.one
    have gS : G2[H.length + 1]? = some ⟨bkC (snL l x y l.length), 12, 0, false⟩ := by rw [hG2, ← l1]; exact get_last
    have gR : GrB H G2 H.length (slc H.length 0 0 0 0) 27 0 [] := GrB.mk' (by rw [p2.get (by omega), hG1]; exact get_last) (Nat.le_refl _) (p1.trans p2)
    refine ⟨slc H.length 0 0 (tmL l x y).length (tmL l x y).length, H ++ [⟨scC (tmL l x y), 27, 0, false⟩], some H.length, Call_wp t192 (.inr rfl) rfl ?_, Pre.one, own_new (scC_length hT2)⟩
    simp [c192, k192, h1, hc, fill, rep, ← hG1, h412]
    refine WP_count 25 l.length _ rfl (fun i e G => e 0 = z ∧ e 23 = slc (H.length + 1) 0 0 l.length l.length ∧ e 24 = .int .i64 l.length ∧ G[H.length + 1]? = some ⟨bkC (snL l x y l.length), 12, 0, false⟩ ∧ ∃ g, e 9 = g ∧ GrB H G H.length g 27 (trL' l x y i).length (scC (trL' l x y i))) (by omega) ?_ ?_ (by simp) ⟨by simp, by simp, by simp, gS, slc H.length 0 0 0 0, by simp, by rw [trL'_zero]; exact gR⟩
    · rintro i e G _ hi hii e4 h25 ⟨h0, h23, h24, hS, g, h9, hg⟩
      have hPG := hg.pr
      obtain ⟨q, off, ver, ha, hr, _⟩ := Sc.get (SlR.pre hPG hs) hw hi
      have hB : Bk G (slc (H.length + 1) 0 0 l.length l.length) (snL l x y l.length) := by
        unfold Bk
        rw [snL_len]
        exact ⟨by rw [bkC_length snL_W, snL_len], .inr ⟨_, 0, 0, _, rfl, Nat.le_refl _, by rw [rd_at hS rfl (by simp only [bkC_length snL_W, snL_len]; omega)]; simp only [List.drop_zero]; rw [List.take_of_length_le (by rw [bkC_length snL_W, snL_len]; omega)], _, hS, rfl, rfl⟩⟩
      obtain ⟨q2, off2, ver2, ha2, hr2⟩ := Bk.get hB snL_W (i := i) (by rw [snL_len]; exact hi)
      rw [snL_fr hi] at hr2
      have c1 := call393 (pu := true) (H := G) (snF_W (l := l) (x := x) (y := y) (i := i)) snF_ok
      have hsu := trL'_succ (l := l) (x := x) (y := y) (k := i)
      have hle := (trL'_ok (x := x) (y := y) hw (k := i) (by omega)).1
      have hst := stc_zr (k := .u16) (n := 12) (l := snF l x y i) (snF_W).len
      have hlS := (List.getElem?_eq_some_iff.1 hS).1
      by_cases hcn : 0 < cntF (snF l x y i)
      · rw [if_pos hcn] at hsu
        have hf := fill27 (hw _ (at0_mem hi))
        obtain ⟨g', G', hpush, hg', hk⟩ := hg.push (c := lyC (at0 l i)) (bytes := 52) (lyC_len (hw _ (at0_mem hi))) (room52 (by omega)) (wb := false)
        rw [scC_push, ← hsu] at hg'
        have hl : (trL' l x y i).length + 1 = (trL' l x y (i + 1)).length := by rw [hsu]; simp
        rw [hl] at hg'
        simp [b192_1, h25, h0, h23, h24, h9, hii, ha2, hr2, zs_cs, agg_cs, snF_W.len, hst, c1, hcn, ha, hr, z27, hf, hpush, wbOf, e4, -idxAV_slc]
        exact ⟨by rw [hk _ (by omega) hlS]; exact hS, hg'⟩
      · rw [if_neg hcn] at hsu
        simp [b192_1, h25, h0, h23, h24, h9, hii, ha2, hr2, zs_cs, agg_cs, snF_W.len, hst, c1, hcn, e4, -idxAV_slc]
        exact ⟨hS, by rw [hsu]; exact hg⟩
    · rintro e G _ h25 ⟨h0, h23, h24, hS, g, h9, hg⟩
      rw [← hT] at hg
      have hfin := hg.gr.fin2 (c := 0) scC_flat
      simp [b192_1, h25, h24, h9, hfin, hc]
  · have hb : (cmC l x y != 0) = true := by simpa using hc
    refine ⟨.slice none 0 0, H, none, Call_wp t192 (.inr rfl) rfl ?_, .refl, by rw [tmL, if_neg hc]; exact own_nil⟩
    simp [c192, k192, h1, hb, finish_nil2]
theorem call190 {pu : Bool} {l : List Ly} {x y : Int} (hw : ScW l) (hn : l.length ≤ 1000000) {H : Heap} {z : Value} (hs : Sc H z l) :
    ∃ r G' β, Call tab pu 190 [z, .int .i64 x, .int .i64 y] H = some (tup [r, .int .i64 (cmC l x y)], G') ∧ Pre H G' ∧ Own G' r β H.length 27 (tmL l x y).length (scC (tmL l x y)) := by
  have h1 := call331 (pu := true) (x := x) (y := y) hs hw hn
  by_cases hc : cmC l x y = 0
  · obtain ⟨hok, hx, hy⟩ := cmC_ok hc
    have h8 := okSc_len hok
    have hT : tmL l x y = trL' l x y l.length := by rw [tmL, if_pos hc]
    obtain ⟨hT1, hT2⟩ := tmL_ok (x := x) (y := y) hw
    obtain ⟨G1, hG1⟩ : ∃ G1, G1 = H ++ [(⟨[], 27, 0, false⟩ : Blk)] := ⟨_, rfl⟩
    have p1 : Pre H G1 := by rw [hG1]; exact Pre.one
    have l1 : G1.length = H.length + 1 := by rw [hG1]; simp
    have h408 := call408 (pu := true) (SlR.pre p1 hs) hw hok hx hy
    rw [l1] at h408
    obtain ⟨G2, hG2⟩ : ∃ G2, G2 = G1 ++ [(⟨bkC (snL l x y l.length), 12, 0, false⟩ : Blk)] := ⟨_, rfl⟩
    rw [← hG2] at h408
    have p2 : Pre G1 G2 := by rw [hG2]; exact Pre.one
    have gS : G2[H.length + 1]? = some ⟨bkC (snL l x y l.length), 12, 0, false⟩ := by rw [hG2, ← l1]; exact get_last
    have gR : GrB H G2 H.length (slc H.length 0 0 0 0) 27 0 [] := GrB.mk' (by rw [p2.get (by omega), hG1]; exact get_last) (Nat.le_refl _) (p1.trans p2)
    refine ⟨slc H.length 0 0 (tmL l x y).length (tmL l x y).length, H ++ [⟨scC (tmL l x y), 27, 0, false⟩], some H.length, Call_wp t190 (.inr rfl) rfl ?_, Pre.one, own_new (scC_length hT2)⟩
    simp [c190, k190, h1, hc, fill, rep, ← hG1, h408]
    refine WP_count 11 l.length _ rfl (fun i e G => e 0 = z ∧ e 10 = slc (H.length + 1) 0 0 l.length l.length ∧ G[H.length + 1]? = some ⟨bkC (snL l x y l.length), 12, 0, false⟩ ∧ ∃ g, e 9 = g ∧ GrB H G H.length g 27 (trL' l x y i).length (scC (trL' l x y i))) (by omega) ?_ ?_ (by simp) ⟨by simp, by simp, gS, slc H.length 0 0 0 0, by simp, by rw [trL'_zero]; exact gR⟩
    · rintro i e G _ hi hii e4 h11 ⟨h0, h10, hS, g, h9, hg⟩
      have hPG := hg.pr
      obtain ⟨q, off, ver, ha, hr, _⟩ := Sc.get (SlR.pre hPG hs) hw hi
      have hB : Bk G (slc (H.length + 1) 0 0 l.length l.length) (snL l x y l.length) := by
        unfold Bk
        rw [snL_len]
        exact ⟨by rw [bkC_length snL_W, snL_len], .inr ⟨_, 0, 0, _, rfl, Nat.le_refl _, by rw [rd_at hS rfl (by simp only [bkC_length snL_W, snL_len]; omega)]; simp only [List.drop_zero]; rw [List.take_of_length_le (by rw [bkC_length snL_W, snL_len]; omega)], _, hS, rfl, rfl⟩⟩
      obtain ⟨q2, off2, ver2, ha2, hr2⟩ := Bk.get hB snL_W (i := i) (by rw [snL_len]; exact hi)
      rw [snL_fr hi] at hr2
      have c1 := call409 (pu := true) (snF_W (l := l) (x := x) (y := y) (i := i)) hr2
      have hsu := trL'_succ (l := l) (x := x) (y := y) (k := i)
      have hle := (trL'_ok (x := x) (y := y) hw (k := i) (by omega)).1
      have hlS := (List.getElem?_eq_some_iff.1 hS).1
      by_cases hcn : 0 < cntF (snF l x y i)
      · rw [if_pos hcn] at hsu
        have hf := fill27 (hw _ (at0_mem hi))
        obtain ⟨g', G', hpush, hg', hk⟩ := hg.push (c := lyC (at0 l i)) (bytes := 52) (lyC_len (hw _ (at0_mem hi))) (room52 (by omega)) (wb := false)
        rw [scC_push, ← hsu] at hg'
        have hl : (trL' l x y i).length + 1 = (trL' l x y (i + 1)).length := by rw [hsu]; simp
        rw [hl] at hg'
        simp [b190_1, h11, h0, h10, h9, hii, ha2, c1, hcn, ha, hr, z27, hf, hpush, wbOf, e4, -idxAV_slc]
        exact ⟨by rw [hk _ (by omega) hlS]; exact hS, hg'⟩
      · rw [if_neg hcn] at hsu
        simp [b190_1, h11, h0, h10, h9, hii, ha2, c1, hcn, e4, -idxAV_slc]
        exact ⟨hS, by rw [hsu]; exact hg⟩
    · rintro e G _ h11 ⟨h0, h10, hS, g, h9, hg⟩
      rw [← hT] at hg
      have hfin := hg.gr.fin2 (c := 0) scC_flat
      simp [b190_1, h11, h10, h9, hfin, hc]
  · have hb : (cmC l x y != 0) = true := by simpa using hc
    have hfin := (Gr.new (H := H) (esz := 27) .refl).fin2 (c := cmC l x y) (by intro v hv; simp at hv)
    refine ⟨slc H.length 0 0 0 0, H ++ [⟨[], 27, 0, false⟩], some H.length, Call_wp t190 (.inr rfl) rfl ?_, Pre.one, by rw [tmL, if_neg hc]; exact own_new (n := 0) rfl⟩
    simp [c190, k190, h1, hb, fill, rep, hfin]
theorem ldAB_a {a b : List Int} (ha : a.length = 12) (hb : b.length = 12) : ldc 12 true (iv .u16 (a ++ b)) 0 = some (iv .u16 a) := by
  have := ldc_sub (k := .u16) (l := a ++ b) (o := 0) (n := 12) (by simp [ha])
  rw [this, (join_sub ha hb).1]
theorem ldAB_b {a b : List Int} (ha : a.length = 12) (hb : b.length = 12) : ldc 12 true (iv .u16 (a ++ b)) 12 = some (iv .u16 b) := by
  have := ldc_sub (k := .u16) (l := a ++ b) (o := 12) (n := 12) (by simp [ha, hb])
  rw [this, (join_sub ha hb).2]
/-- A scene laid flat: what has ink. -/
def flI (l : List Ly) (x y : Int) (k : Nat) : List Int := itN (fun i a => mixF orI a (mixF lessI (lyI (at0 l i) x y) (cvr l x y i))) (zr 12 0) k
theorem flI_zero {l : List Ly} {x y : Int} : flI l x y 0 = zr 12 0 := itN_zero
theorem flI_succ {l : List Ly} {x y : Int} {k : Nat} : flI l x y (k + 1) = mixF orI (flI l x y k) (mixF lessI (lyI (at0 l k) x y) (cvr l x y k)) := itN_succ
theorem flI_len {l : List Ly} {x y : Int} {k : Nat} : (flI l x y k).length = 12 := by
  cases k with
  | zero => rw [flI_zero]; simp
  | succ k => rw [flI_succ]; exact mixF_length
theorem call497 {pu : Bool} {H : Heap} {a b c d : List Int} (ha : a.length = 12) (hb : b.length = 12) (hc : c.length = 12) (hd : d.length = 12) :
    Call tab pu 497 [iv .u16 (a ++ b), iv .u16 (c ++ d)] H = some (iv .u16 (mixF orI a (mixF lessI c b) ++ mixF orI b d), H) := by
  refine Call_wp t497 (.inr rfl) rfl ?_
  have c1 := call350 (pu := true) (H := H) hc hb
  have c2 := call338 (pu := true) (H := H) ha (mixF_length (op := lessI) (a := c) (b := b))
  have c3 := call338 (pu := true) (H := H) hb hd
  have hf := fill24 (a := mixF orI a (mixF lessI c b)) (b := mixF orI b d) mixF_length mixF_length
  have hl : (mixF orI a (mixF lessI c b) ++ mixF orI b d).length = 24 := by simp [mixF_length]
  have s3 := stc_zr (k := .u16) (n := 24) (l := mixF orI a (mixF lessI c b) ++ mixF orI b d) hl
  simp [c497, k497, ldAB_a ha hb, ldAB_b ha hb, ldAB_a hc hd, ldAB_b hc hd, c1, c2, c3, zs_cs, hf, agg_cs, hl, s3]
theorem call330 {pu : Bool} {H : Heap} {z : Value} {l : List Ly} {x y : Int} (hs : Sc H z l) (hw : ScW l) (hok : okSc l = true) (hx : -100 ≤ x ∧ x ≤ 100) (hy : -100 ≤ y ∧ y ≤ 100) :
    Call tab pu 330 [z, .int .i64 x, .int .i64 y] H = some (iv .u16 (flI l x y l.length ++ cvr l x y l.length), H) := by
  refine Call_wp t330 (.inr rfl) rfl ?_
  have hn := okSc_len hok
  have hz24 := stc_zr (k := .u16) (n := 24) (l := zr 24 0) (by simp)
  simp [c330, k330, fill, zs_cs, agg_cs, hz24, SlR.lenV hs]
  refine WP_forH 13 l.length _ rfl (by omega) (fun i e => e 1 = .int .i64 x ∧ e 2 = .int .i64 y ∧ e 6 = iv .u16 (zr 24 0) ∧ e 7 = iv .u16 (flI l x y i ++ cvr l x y i) ∧ e 11 = z ∧ e 12 = .int .i64 l.length) ?_ ?_ (by simp) ⟨by simp, by simp, by simp, by simp [flI_zero, cvr_zero]; rfl, by simp, by simp⟩
  · rintro i e hi hii e4 h13 ⟨h1, h2, h6, h7, h11, h12⟩
    obtain ⟨q, off, ver, ha, hr, _⟩ := Sc.get hs hw hi
    have hlw := hw _ (at0_mem hi)
    have hlo := okSc_get hok hi
    have c1 := call335 (pu := true) (H := H) hlw hlo hx hy
    have c2 := call336 (pu := true) (H := H) hlw hlo hx hy
    have c3 := call497 (pu := true) (H := H) (flI_len (l := l) (x := x) (y := y) (k := i)) (cvr_len (l := l) (x := x) (y := y) (k := i)) (lyI_W (s := at0 l i) (x := x) (y := y)).len (lyM_W (s := at0 l i) (x := x) (y := y)).len
    rw [← flI_succ, ← cvr_succ] at c3
    have hz : (zr 24 0).length = 24 := rfl
    have hl := hlw.len
    simp only [lyC] at hr c1
    have st := stLall (a := .int .i8 0) (b := .int .i8 0) (c := .int .i8 0) (a' := .int .i8 (at0 l i).x) (b' := .int .i8 (at0 l i).y) (c' := .int .i8 (at0 l i).d) hz hl
    have l1 : (flI l x y i ++ cvr l x y i).length = 24 := by simp [flI_len, cvr_len]
    have l2 : (flI l x y (i + 1) ++ cvr l x y (i + 1)).length = 24 := by simp [flI_len, cvr_len]
    have hst3 : stc (iv .u16 (flI l x y i ++ cvr l x y i)) 0 (cs .u16 (flI l x y (i + 1) ++ cvr l x y (i + 1))) = some (iv .u16 (flI l x y (i + 1) ++ cvr l x y (i + 1))) := stc_all (by rw [l1, l2])
    simp [b330_1, h13, h1, h2, h6, h7, h11, h12, hii, z27, lyZ, ha, hr, lyT_len hl, st, l1, ldLall hl, ldL0 hl, c1, c2, c3, flI_len, cvr_len, hst3, e4]
  · rintro e h13 ⟨h1, h2, h6, h7, h11, h12⟩
    have l1 : (flI l x y l.length ++ cvr l x y l.length).length = 24 := by simp [flI_len, cvr_len]
    have s3 := stc_zr (k := .u16) (n := 24) (l := flI l x y l.length ++ cvr l x y l.length) l1
    simp [b330_1, h13, h12, h6, h7, l1, s3, flI_len, cvr_len, agg_cs]
theorem call468 {pu : Bool} {H : Heap} {q off ver : Nat} {s : Ly} {x y : Int} (hw : LyW s) (hr : LyR H q off ver s) (h : okLy s = true) (hx : -100 ≤ x ∧ x ≤ 100) (hy : -100 ≤ y ∧ y ≤ 100) :
    Call tab pu 468 [adr q off ver, .int .i64 (offX s x), .int .i64 (offY s y)] H = some (iv .u16 (lyI s x y ++ lyM s x y), H) := by
  refine Call_wp t468 (.inr rfl) rfl ?_
  obtain ⟨o1, o2⟩ := off_ok h hx hy
  have c1 := call355 (pu := true) (H := H) (dx := offX s x) (dy := offY s y) hw.ink hr.ink (by omega) (by omega)
  have c2 := call355 (pu := true) (H := H) (dx := offX s x) (dy := offY s y) hw.msk hr.msk (by omega) (by omega)
  have e1 : shF (inkL s) (offX s x) (offY s y) = lyI s x y := rfl
  have e2 : shF (mskL s) (offX s x) (offY s y) = lyM s x y := rfl
  rw [e1] at c1
  rw [e2] at c2
  have hl : (lyI s x y ++ lyM s x y).length = 24 := by simp [lyI_W.len, lyM_W.len]
  have s3 := stc_zr (k := .u16) (n := 24) (l := lyI s x y ++ lyM s x y) hl
  have hf := fill24 (a := lyI s x y) (b := lyM s x y) lyI_W.len lyM_W.len
  simp [c468, k468, c1, c2, zs_cs, hf, agg_cs, hl, s3, lyI_W.len, lyM_W.len]
theorem rd24 {G : Heap} {P : Nat} {a b : List Int} (h : G[P]? = some ⟨cs .u16 (a ++ b), 1, 0, false⟩) (ha : a.length = 12) (hb : b.length = 12) : rd G P 0 0 12 = some (cs .u16 a) ∧ rd G P 12 0 12 = some (cs .u16 b) ∧ rd G P 0 0 24 = some (cs .u16 (a ++ b)) := by
  have h24 : rd G P 0 0 24 = some (cs .u16 (a ++ b)) := by
    rw [rd_at h rfl (by simp [ha, hb])]
    simp only [List.drop_zero]; rw [List.take_of_length_le (by simp [ha, hb])]
  have h1 := rd_cs h24 (o := 0) (m := 12) (by omega)
  have h2 := rd_cs h24 (o := 12) (m := 12) (by omega)
  rw [(join_sub ha hb).1] at h1
  rw [(join_sub ha hb).2] at h2
  exact ⟨h1, by simpa using h2, h24⟩
theorem call500 {pu : Bool} {H : Heap} {P Q : Nat} {a b c d : List Int} (hP : H[P]? = some ⟨cs .u16 (a ++ b), 1, 0, false⟩) (hQ : H[Q]? = some ⟨cs .u16 (c ++ d), 1, 0, false⟩) (ha : a.length = 12) (hb : b.length = 12) (hc : c.length = 12) (hd : d.length = 12) :
    Call tab pu 500 [adr P 0 0, adr Q 0 0] H = some (iv .u16 (mixF orI a (mixF lessI c b) ++ mixF orI b d), H) := by
  refine Call_wp t500 (.inr rfl) rfl ?_
  obtain ⟨p1, p2, _⟩ := rd24 hP ha hb
  obtain ⟨q1, q2, _⟩ := rd24 hQ hc hd
  have hlC : (mixF lessI c b).length = 12 := mixF_length
  obtain ⟨G1, hG1⟩ : ∃ G1, G1 = H ++ [(⟨cs .u16 (zr 12 0), 1, 0, false⟩ : Blk)] := ⟨_, rfl⟩
  have pa : Pre H G1 := by rw [hG1]; exact Pre.one
  have c1 := call349 (pu := true) hc hb (pa.rd q1) (pa.rd p2)
  have c1' := call349 (pu := true) hc hb q1 p2
  obtain ⟨G2, hG2⟩ : ∃ G2, G2 = H ++ [(⟨cs .u16 (mixF lessI c b), 1, 0, false⟩ : Blk)] := ⟨_, rfl⟩
  have pb : Pre H G2 := by rw [hG2]; exact Pre.one
  have hwr : wr H.length false G1 H.length 0 0 (cs .u16 (mixF lessI c b)) = some G2 := by
    rw [hG1, wr_last (b := ⟨cs .u16 (zr 12 0), 1, 0, false⟩) rfl rfl (Nat.le_refl _) (by simp [hlC]), hG2]
  have rL : rd G2 H.length 0 0 12 = some (cs .u16 (mixF lessI c b)) := by rw [hG2]; exact rd_last rfl (by simp [hlC])
  have c2 := call337 (pu := true) ha hlC (pb.rd p1) rL
  have c3 := call337 (pu := true) hb hd (pb.rd p2) (pb.rd q2)
  have hf := fill24 (a := mixF orI a (mixF lessI c b)) (b := mixF orI b d) mixF_length mixF_length
  have hl : (mixF orI a (mixF lessI c b) ++ mixF orI b d).length = 24 := by simp [mixF_length]
  have s3 := stc_zr (k := .u16) (n := 24) (l := mixF orI a (mixF lessI c b) ++ mixF orI b d) hl
  simp [c500, k500, zs_cs, ← hG1, c1, c1', hlC, hwr, wbOf, c2, c3, hf, agg_cs, hl, s3, mixF_length, pb.take]
theorem call332 {pu : Bool} {H : Heap} {z : Value} {l : List Ly} {x y : Int} (hs : Sc H z l) (hw : ScW l) (hok : okSc l = true) (hx : -100 ≤ x ∧ x ≤ 100) (hy : -100 ≤ y ∧ y ≤ 100) :
    Call tab pu 332 [z, .int .i64 x, .int .i64 y] H = some (iv .u16 (flI l x y l.length ++ cvr l x y l.length), H) := by
  refine Call_wp t332 (.inr rfl) rfl ?_
  have hn := okSc_len hok
  obtain ⟨G1, hG1⟩ : ∃ G1, G1 = H ++ [(⟨cs .u16 (zr 24 0), 1, 0, false⟩ : Blk)] := ⟨_, rfl⟩
  have p1 : Pre H G1 := by rw [hG1]; exact Pre.one
  have g1 : G1[H.length]? = some ⟨cs .u16 (flI l x y 0 ++ cvr l x y 0), 1, 0, false⟩ := by rw [hG1, flI_zero, cvr_zero]; simp; rfl
  have hwr : wr H.length false G1 H.length 0 0 (cs .u16 (zr 24 0)) = some G1 := by
    rw [hG1, wr_last (b := ⟨cs .u16 (zr 24 0), 1, 0, false⟩) rfl rfl (Nat.le_refl _) (by simp)]
  simp [c332, k332, fill, zs_cs, agg_cs, ← hG1, hwr, wbOf]
  refine WP_count 8 l.length _ rfl (fun i e G => e 0 = z ∧ e 1 = .int .i64 x ∧ e 2 = .int .i64 y ∧ e 6 = iv .u16 (zr 24 0) ∧ e 7 = adr H.length 0 0 ∧ G[H.length]? = some ⟨cs .u16 (flI l x y i ++ cvr l x y i), 1, 0, false⟩ ∧ Pre H G) (by omega) ?_ ?_ (by simp) ⟨by simp, by simp, by simp, by simp, by simp, g1, p1⟩
  · rintro i e G _ hi hii e4 h8 ⟨h0, h1, h2, h6, h7, gC, hPG⟩
    obtain ⟨q, off, ver, ha, _, hr⟩ := Sc.get (SlR.pre hPG hs) hw hi
    have hlw := hw _ (at0_mem hi)
    have hlo := okSc_get hok hi
    have c1 := call499 (pu := true) hr hlo hx hy
    have c2 := call468 (pu := true) hlw hr hlo hx hy
    obtain ⟨Ga, hGa⟩ : ∃ Ga, Ga = G ++ [(⟨cs .u16 (zr 24 0), 1, 0, false⟩ : Blk)] := ⟨_, rfl⟩
    obtain ⟨Gb, hGb⟩ : ∃ Gb, Gb = G ++ [(⟨cs .u16 (lyI (at0 l i) x y ++ lyM (at0 l i) x y), 1, 0, false⟩ : Blk)] := ⟨_, rfl⟩
    have pb : Pre G Gb := by rw [hGb]; exact Pre.one
    have hHG : H.length ≤ G.length := hPG.len
    have l2 : (lyI (at0 l i) x y ++ lyM (at0 l i) x y).length = 24 := by simp [lyI_W.len, lyM_W.len]
    have hwa : wr H.length false Ga G.length 0 0 (cs .u16 (lyI (at0 l i) x y ++ lyM (at0 l i) x y)) = some Gb := by
      rw [hGa, wr_last (b := ⟨cs .u16 (zr 24 0), 1, 0, false⟩) rfl rfl hHG (by simp [lyI_W.len, lyM_W.len]), hGb]
    have hlC := (List.getElem?_eq_some_iff.1 gC).1
    have gCb : Gb[H.length]? = some ⟨cs .u16 (flI l x y i ++ cvr l x y i), 1, 0, false⟩ := by rw [pb.get hlC]; exact gC
    have gNb : Gb[G.length]? = some ⟨cs .u16 (lyI (at0 l i) x y ++ lyM (at0 l i) x y), 1, 0, false⟩ := by rw [hGb]; exact get_last
    have c3 := call500 (pu := true) gCb gNb flI_len cvr_len lyI_W.len lyM_W.len
    rw [← flI_succ, ← cvr_succ] at c3
    have l1 : (flI l x y i ++ cvr l x y i).length = 24 := by simp [flI_len, cvr_len]
    have l3 : (flI l x y (i + 1) ++ cvr l x y (i + 1)).length = 24 := by simp [flI_len, cvr_len]
    obtain ⟨Gd, hGd⟩ : ∃ Gd, Gd = Gb.set H.length ⟨cs .u16 (flI l x y (i + 1) ++ cvr l x y (i + 1)), 1, 0, false⟩ := ⟨_, rfl⟩
    have hwd : wr H.length false Gb H.length 0 0 (cs .u16 (flI l x y (i + 1) ++ cvr l x y (i + 1))) = some Gd := by
      rw [wr_at gCb rfl rfl (by simp [may]) (by simp [flI_len, cvr_len]), hGd]
      have hdn : (cs .u16 (flI l x y i ++ cvr l x y i)).drop 24 = [] := List.drop_eq_nil_of_le (by simp [flI_len, cvr_len])
      simp only [splice, List.take_zero, List.nil_append, Nat.zero_add, length_cs, l3, hdn, List.append_nil]
    simp [b332_1, h8, h0, h1, h2, h6, h7, SlR.lenV hs, hii, ha, c1, c2, zs_cs, ← hGa, hwa, wbOf, lyI_W.len, lyM_W.len, c3, flI_len, cvr_len, hwd, e4]
    exact ⟨by rw [hGd]; exact get_set gCb, by rw [hGd]; exact (hPG.trans pb).set (Nat.le_refl _)⟩
  · rintro e G _ h8 ⟨h0, h1, h2, h6, h7, gC, hPG⟩
    have l1 : (flI l x y l.length ++ cvr l x y l.length).length = 24 := by simp [flI_len, cvr_len]
    have s3 := stc_zr (k := .u16) (n := 24) (l := flI l x y l.length ++ cvr l x y l.length) l1
    obtain ⟨_, _, r24⟩ := rd24 gC flI_len cvr_len
    simp [b332_1, h8, h0, h6, h7, SlR.lenV hs, r24, l1, s3, flI_len, cvr_len, hPG.take, agg_cs]
def pnP (dx dy n : Int) : Bool := in1 n 0 40 && (in1 dx (-100) 100 && in1 dy (-100) 100)
def pnQ (x y dx dy : Int) (i : Nat) : Bool := in1 (x + i * dx) (-100) 100 && in1 (y + i * dy) (-100) 100
def pnC (l : List Ly) (x y dx dy n : Int) : Int := if cmC l x y = 0 then if pnP dx dy n = true then if allN (pnQ x y dx dy) n.toNat = true then 0 else 2 else 2 else cmC l x y
def pnF (l : List Ly) (x y dx dy : Int) (i : Nat) : List Int := flI l (x + i * dx) (y + i * dy) l.length
def pnK (l : List Ly) (x y dx dy : Int) (k : Nat) : List (List Int) := (List.range k).map (pnF l x y dx dy)
theorem pnF_len {l : List Ly} {x y dx dy : Int} {i : Nat} : (pnF l x y dx dy i).length = 12 := flI_len
theorem pnK_succ {l : List Ly} {x y dx dy : Int} {k : Nat} : bkC (pnK l x y dx dy (k + 1)) = bkC (pnK l x y dx dy k) ++ cs .u16 (pnF l x y dx dy k) := by
  unfold pnK
  rw [List.range_succ, List.map_append]
  show rowsC frC (_ ++ _) = _
  rw [rowsC_app]
  simp [bkC, rowsC, frC]
theorem pnK_len {l : List Ly} {x y dx dy : Int} {k : Nat} : (pnK l x y dx dy k).length = k := by simp [pnK]
theorem pnK_W {l : List Ly} {x y dx dy : Int} {k : Nat} : ∀ f ∈ pnK l x y dx dy k, f.length = 12 := by
  intro f hf
  unfold pnK at hf
  rw [List.mem_map] at hf
  obtain ⟨i, _, rfl⟩ := hf
  exact pnF_len
def pnL (l : List Ly) (x y dx dy n : Int) : List (List Int) := if pnC l x y dx dy n = 0 then pnK l x y dx dy n.toNat else []
theorem pnP_ok {dx dy n : Int} (h : pnP dx dy n = true) : (∃ m : Nat, n = m ∧ m ≤ 40) ∧ (-100 ≤ dx ∧ dx ≤ 100) ∧ -100 ≤ dy ∧ dy ≤ 100 := by
  simp [pnP, in1] at h
  obtain ⟨m, rfl⟩ := Int.eq_ofNat_of_zero_le h.1.1
  exact ⟨⟨m, rfl, by omega⟩, h.2.1, h.2.2⟩
theorem mul_ok {i : Nat} {d : Int} (hi : i ≤ 40) (h : -100 ≤ d ∧ d ≤ 100) : -4000 ≤ (i : Int) * d ∧ (i : Int) * d ≤ 4000 := by
  constructor
  · have h1 : (i : Int) * (-100) ≤ (i : Int) * d := Int.mul_le_mul_of_nonneg_left h.1 (by omega)
    omega
  · have h1 : (i : Int) * d ≤ (i : Int) * 100 := Int.mul_le_mul_of_nonneg_left h.2 (by omega)
    omega
theorem cells12 {b : List (List Int)} (h : ∀ f ∈ b, f.length = 12) : (bkC b).length = b.length * 12 :=
  rows_length (f := frC) (esz := 12) fun f hf => by simp [frC, h f hf]
theorem pnQ_ok {x y dx dy : Int} {i : Nat} (h : pnQ x y dx dy i = true) : (-100 ≤ x + i * dx ∧ x + i * dx ≤ 100) ∧ -100 ≤ y + i * dy ∧ y + i * dy ≤ 100 := by simpa [pnQ, in1] using h
theorem call199 {pu : Bool} {l : List Ly} {x y dx dy n : Int} (hw : ScW l) (hn : l.length ≤ 1000000) {H : Heap} {z : Value} (hs : Sc H z l) :
    ∃ r G' β, Call tab pu 199 [z, .int .i64 x, .int .i64 y, .int .i64 dx, .int .i64 dy, .int .i64 n] H = some (tup [r, .int .i64 (pnC l x y dx dy n)], G') ∧ Pre H G' ∧ Own G' r β H.length 12 (pnL l x y dx dy n).length (bkC (pnL l x y dx dy n)) := by
  have h1 := call329 (pu := true) (x := x) (y := y) hs hw hn
  have hnil : pnC l x y dx dy n ≠ 0 → Own H (.slice none 0 0) none H.length 12 (pnL l x y dx dy n).length (bkC (pnL l x y dx dy n)) := fun h => by rw [pnL, if_neg h]; exact own_nil
  by_cases hc : cmC l x y = 0
  rotate_left
  · have hb : (cmC l x y != 0) = true := by simpa using hc
    have hp : pnC l x y dx dy n = cmC l x y := by unfold pnC; rw [if_neg hc]
    refine ⟨.slice none 0 0, H, none, Call_wp t199 (.inr rfl) rfl ?_, .refl, hnil (by rw [hp]; exact hc)⟩
    simp [c199, k199, h1, hb, finish_nil2, hp]
  obtain ⟨hok, hx, hy⟩ := cmC_ok hc
  cases k1 : in1 n 0 40 with
  | false =>
    have hp : pnC l x y dx dy n = 2 := by unfold pnC; rw [if_pos hc, if_neg (by simp [pnP, k1])]
    refine ⟨.slice none 0 0, H, none, Call_wp t199 (.inr rfl) rfl ?_, .refl, hnil (by omega)⟩
    simp [c199, k199, h1, hc, in295, k1, skip, finish_nil2, hp]
  | true =>
    cases k2 : in1 dx (-100) 100 && in1 dy (-100) 100 with
    | false =>
      have hp : pnC l x y dx dy n = 2 := by
        unfold pnC
        rw [if_pos hc, if_neg]
        simp only [pnP, k1, k2]; decide
      refine ⟨.slice none 0 0, H, none, Call_wp t199 (.inr rfl) rfl ?_, .refl, hnil (by omega)⟩
      simp [c199, k199, h1, hc, in295, k1, call416, k2, finish_nil2, hp]
    | true =>
      have hP : pnP dx dy n = true := by simp only [pnP, k1, k2]; decide
      obtain ⟨⟨m, rfl, hm⟩, hdx, hdy⟩ := pnP_ok hP
      have key : ∃ q, Call tab pu 199 [z, .int .i64 x, .int .i64 y, .int .i64 dx, .int .i64 dy, .int .i64 (m : Int)] H = some q ∧ ((allN (pnQ x y dx dy) m = true ∧ q = (tup [slc H.length 0 0 m m, .int .i64 0], H ++ [⟨bkC (pnK l x y dx dy m), 12, 0, false⟩])) ∨ (allN (pnQ x y dx dy) m = false ∧ q = (tup [.slice none 0 0, .int .i64 2], H))) := by
        refine Call_ex t199 (.inr rfl) rfl ?_
        simp [c199, k199, h1, hc, in295, k1, call416, k2, fill, rep]
        refine WP_count 35 m _ rfl (fun i e G => e 0 = z ∧ e 1 = .int .i64 x ∧ e 2 = .int .i64 y ∧ e 3 = .int .i64 dx ∧ e 4 = .int .i64 dy ∧ e 34 = .int .i64 m ∧ (∀ j, j < i → pnQ x y dx dy j = true) ∧ ∃ g, e 15 = g ∧ Gr H G g 12 i (bkC (pnK l x y dx dy i))) (by omega) ?_ ?_ (by simp) ⟨by simp, by simp, by simp, by simp, by simp, by simp, fun j hj => by omega, slc H.length 0 0 0 0, by simp, Gr.new .refl⟩
        · rintro i e G _ hi hii e4' h35 ⟨h0, h1e, h2, h3, h4, h34, hq, g, h15, hg⟩
          have m1 := mul_ok (i := i) (by omega) hdx
          have m2 := mul_ok (i := i) (by omega) hdy
          have w1 : IntKind.wrap .i64 ((i : Int) * dx) = (i : Int) * dx := wrap64 (by omega)
          have w2 : IntKind.wrap .i64 ((i : Int) * dy) = (i : Int) * dy := wrap64 (by omega)
          have w3 : IntKind.wrap .i64 (x + (i : Int) * dx) = x + (i : Int) * dx := wrap64 (by omega)
          have w4 : IntKind.wrap .i64 (y + (i : Int) * dy) = y + (i : Int) * dy := wrap64 (by omega)
          have hPG := hg.pre
          have hQ : (in1 (x + (i : Int) * dx) (-100) 100 && in1 (y + (i : Int) * dy) (-100) 100) = pnQ x y dx dy i := rfl
          cases kq : pnQ x y dx dy i with
          | false =>
            have hall : allN (pnQ x y dx dy) m = false := allN_false hi kq
            simp [b199_1, h35, h0, h1e, h2, h3, h4, h34, h15, hii, w1, w2, w3, w4, call416, hQ, kq, finish_nil2, hPG.take, hall]
          | true =>
            obtain ⟨o1, o2⟩ := pnQ_ok kq
            have c1 := call330 (pu := true) (SlR.pre hPG hs) hw hok o1 o2
            have hF : flI l (x + (i : Int) * dx) (y + (i : Int) * dy) l.length = pnF l x y dx dy i := rfl
            rw [hF] at c1
            have hff := fillF (pnF_len (l := l) (x := x) (y := y) (dx := dx) (dy := dy) (i := i))
            obtain ⟨g', G', hpush, hg'⟩ := hg.push (c := cs .u16 (pnF l x y dx dy i)) (bytes := 24) (by simp [pnF_len]) (room24 (by omega)) (wb := false)
            rw [← pnK_succ] at hg'
            simp [b199_1, h35, h0, h1e, h2, h3, h4, h34, h15, hii, w1, w2, w3, w4, call416, hQ, kq, c1, ev1_fld, fldV_a pnF_len cvr_len, zs_cs, hff, hpush, wbOf, e4']
            exact ⟨upto_succ hq kq, hg'⟩
        · rintro e G _ h35 ⟨h0, h1e, h2, h3, h4, h34, hq, g, h15, hg⟩
          have hfin := hg.fin2 (c := 0) bkC_flat
          simp [b199_1, h35, h34, h15, hfin, allN_true hq]
      obtain ⟨q, hq, ⟨ha, rfl⟩ | ⟨ha, rfl⟩⟩ := key
      · have hp : pnC l x y dx dy m = 0 := by unfold pnC; rw [if_pos hc, if_pos hP, if_pos (by simpa using ha)]
        have hL : pnL l x y dx dy m = pnK l x y dx dy m := by rw [pnL, if_pos hp]; simp
        rw [hp, hL]
        refine ⟨_, _, some H.length, hq, Pre.one, ?_⟩
        rw [pnK_len]
        exact own_new (by rw [cells12 pnK_W, pnK_len])
      · have hp : pnC l x y dx dy m = 2 := by unfold pnC; rw [if_pos hc, if_pos hP, if_neg (by simp [ha])]
        rw [hp] at hnil ⊢
        exact ⟨_, _, none, hq, .refl, hnil (by omega)⟩
/- Keys. -/
abbrev Ky := Int × Int × Int
def kyC (k : Ky) : List Value := [.int .i16 k.1, .int .i8 k.2.1, .int .i8 k.2.2]
def kysC (l : List Ky) : List Value := rowsC kyC l
theorem kysC_length {l : List Ky} : (kysC l).length = l.length * 3 := rows_length (f := kyC) (esz := 3) fun _ _ => rfl
def kyF : List Value := [.int .i16 (-30101), .int .i8 (-101), .int .i8 (-101)]
/- Parts. -/
structure Pt where
  f : List Int
  e : Int
  ks : List Ky
  len : f.length = 12
instance : Inhabited Pt := ⟨⟨zr 12 0, 0, [], rfl⟩⟩
structure PtW (s : Pt) : Prop where
  ok : ∀ n ∈ s.f, u16' n
  e : i8 s.e
  ks : ∀ k ∈ s.ks, (-32768 ≤ k.1 ∧ k.1 ≤ 32767) ∧ i8 k.2.1 ∧ i8 k.2.2
def ptT (f : List Int) (a b : Value) : List Value := cs .u16 f ++ [a, b]
def ptC (s : Pt) (y : Value) : List Value := ptT s.f (.int .i8 s.e) y
theorem ptT_len {f : List Int} {a b : Value} (h : f.length = 12) : (ptT f a b).length = 14 := by simp [ptT, h]
theorem ptC_len {s : Pt} {y : Value} : (ptC s y).length = 14 := ptT_len s.len
theorem ptT_at {f : List Int} {a b : Value} (h : f.length = 12) {k : Nat} : (ptT f a b).drop (12 + k) = [a, b].drop k := by
  unfold ptT
  rw [show 12 + k = (cs .u16 f).length + k by simp [h], List.drop_length_add_append]
/-- Keys of a part in memory. -/
abbrev Kr (G : Heap) (y : Value) (s : Pt) : Prop := SlR G y 3 s.ks.length (kysC s.ks)
abbrev KrC (G : Heap) (y : Value) (s : Pt) : Prop := IsCp G y 3 s.ks.length (kysC s.ks) kyF
/-- Parts in memory. -/
def PtS (G : Heap) (x : Value) (l : List Pt) : Prop := ∃ vs, SlR G x 14 l.length vs ∧ ∀ i, i < l.length → ∃ y, elem vs 14 i = ptC (at0 l i) y ∧ Kr G y (at0 l i)
theorem PtS.pre {H G : Heap} {x : Value} {l : List Pt} (p : Pre H G) (h : PtS H x l) : PtS G x l := by
  obtain ⟨vs, h1, h2⟩ := h
  exact ⟨vs, h1.pre p, fun i hi => by obtain ⟨y, h3, h4⟩ := h2 i hi; exact ⟨y, h3, h4.pre p⟩⟩
theorem PtS.lenV {G : Heap} {x : Value} {l : List Pt} (h : PtS G x l) : lenV x = some (.int .i64 l.length) := by
  obtain ⟨vs, h1, _⟩ := h; exact h1.lenV
theorem PtS.get {G : Heap} {x : Value} {l : List Pt} (h : PtS G x l) {i : Nat} (hi : i < l.length) : ∃ q off ver y, idxAV 14 x (.int .i64 (i : Int)) = some (adr q off ver) ∧ rd G q off ver 14 = some (ptC (at0 l i) y) ∧ Kr G y (at0 l i) := by
  obtain ⟨vs, h1, h2⟩ := h
  obtain ⟨q, off, ver, h3, h4⟩ := h1.get1 hi
  obtain ⟨y, h5, h6⟩ := h2 i hi
  rw [h5] at h4
  exact ⟨q, off, ver, y, h3, h4, h6⟩
/-- A copy of a part: what stands in the block, whatever stands in that block itself. -/
structure CqI (H G : Heap) (b : Nat) (flag : Bool) (s : Pt) (y : Value) : Prop where
  r : ∀ k, Kr (G.set b k) y s
  n : y = .slice none 0 0 ∨ old0 H.length y = false
  c : flag = false → (∀ k, KrC (G.set b k) y s) ∧ old0 H.length y = false
theorem CqI.set {H G : Heap} {b : Nat} {flag : Bool} {s : Pt} {y : Value} {k : Blk} (h : CqI H G b flag s y) : CqI H (G.set b k) b flag s y := ⟨fun k' => by rw [set_set]; exact h.r k', h.n, fun hf => ⟨fun k' => by rw [set_set]; exact (h.c hf).1 k', (h.c hf).2⟩⟩
theorem CqI.pre {H G G' : Heap} {b : Nat} {flag : Bool} {s : Pt} {y : Value} (h : CqI H G b flag s y) (p : Pre G G') (hb : b < G.length) : CqI H G' b flag s y :=
  ⟨fun k => (h.r k).pre (set_pre p hb), h.n, fun hf => ⟨fun k => ((h.c hf).1 k).pre (set_pre p hb), (h.c hf).2⟩⟩
def ptF : Pt := ⟨bkF, -101, [(-30101, -101, -101)], rfl⟩
/-- Steps copied, with room behind. -/
def CqS (G : Heap) (x : Value) (l : List Pt) : Prop := ∃ b ver vs, x = slc b 0 ver l.length (l.length + roomN l.length) ∧ G[b]? = some ⟨vs, 14, ver, false⟩ ∧ vs.length = (l.length + roomN l.length) * 14 ∧
  (∀ i, i < l.length → ∃ y, elem vs 14 i = ptC (at0 l i) y ∧ KrC G y (at0 l i)) ∧ ∀ i, l.length ≤ i → i < l.length + roomN l.length → ∃ y, elem vs 14 i = ptC ptF y ∧ Kr G y ptF
theorem CqS.sl {G : Heap} {x : Value} {l : List Pt} (h : CqS G x l) : PtS G x l := by
  obtain ⟨b, ver, vs, rfl, hg, hl, h1, h2⟩ := h
  have e1 : l.length * 14 ≤ vs.length := by omega
  refine ⟨vs.take (l.length * 14), ⟨by simp; omega, .inr ⟨b, 0, ver, _, rfl, by omega, by rw [rd_at hg rfl (by simp; omega)]; simp, _, hg, rfl, rfl⟩⟩, fun i hi => ?_⟩
  obtain ⟨y, h3, h4⟩ := h1 i hi
  exact ⟨y, by rw [elem_take hi, h3], h4.sl kysC_length rfl⟩
theorem CqS.pre {H G : Heap} {x : Value} {l : List Pt} (p : Pre H G) (h : CqS H x l) : CqS G x l := by
  obtain ⟨b, ver, vs, rfl, hg, hl, h1, h2⟩ := h
  refine ⟨b, ver, vs, rfl, by rw [p.get (List.getElem?_eq_some_iff.1 hg).1]; exact hg, hl, fun i hi => ?_, fun i hi hi2 => ?_⟩
  · obtain ⟨y, h3, h4⟩ := h1 i hi; exact ⟨y, h3, h4.pre p⟩
  · obtain ⟨y, h3, h4⟩ := h2 i hi hi2; exact ⟨y, h3, h4.pre p⟩
def ky (ks : List Ky) (i : Nat) : Ky := at0 ks i
def kyB (ks : List Ky) (j : Nat) : Bool := ((in1 (ky ks j).1 0 200 && in1 (ky ks j).2.1 (-24) 24) && in1 (ky ks j).2.2 (-24) 24) && (decide (j = 0) || decide ((ky ks (j - 1)).1 < (ky ks j).1))
def okTk (ks : List Ky) : Bool := allN (kyB ks) ks.length && in1 ks.length 1 20
def okPt (s : Pt) : Bool := (okF s.f && okTk s.ks) && in1 s.e 0 3
abbrev KyW (ks : List Ky) : Prop := ∀ k ∈ ks, (-32768 ≤ k.1 ∧ k.1 ≤ 32767) ∧ i8 k.2.1 ∧ i8 k.2.2
/-- A part in memory. -/
structure PtR (H : Heap) (q off ver : Nat) (s : Pt) (y : Value) : Prop where
  rf : rd H q off ver 12 = some (cs .u16 s.f)
  re : rd H q (off + 12) ver 1 = some [.int .i8 s.e]
  ry : rd H q (off + 13) ver 1 = some [y]
  rk : Kr H y s
theorem PtR.of {H : Heap} {q off ver : Nat} {s : Pt} {y : Value} (h : rd H q off ver 14 = some (ptC s y)) (hk : Kr H y s) : PtR H q off ver s y := by
  have hl := s.len
  have g1 := rd_part h (o := 0) (m := 12) (by omega)
  have g2 := rd_part h (o := 12) (m := 1) (by omega)
  have g3 := rd_part h (o := 13) (m := 1) (by omega)
  unfold ptC at g1 g2 g3
  rw [show 12 = 12 + 0 from rfl, ptT_at hl] at g2
  rw [show 13 = 12 + 1 from rfl, ptT_at hl] at g3
  rw [Nat.add_zero, List.drop_zero] at g1
  unfold ptT at g1
  rw [List.take_left' (by simp [hl])] at g1
  exact ⟨g1, g2, g3, hk⟩
theorem PtR.pre {H G : Heap} {q off ver : Nat} {s : Pt} {y : Value} (p : Pre H G) (h : PtR H q off ver s y) : PtR G q off ver s y := ⟨p.rd h.rf, p.rd h.re, p.rd h.ry, SlR.pre p h.rk⟩
structure TkV (ks : List Ky) : Prop where
  n1 : 1 ≤ ks.length
  n20 : ks.length ≤ 20
  r : ∀ i, i < ks.length → (0 ≤ (ky ks i).1 ∧ (ky ks i).1 ≤ 200) ∧ (-24 ≤ (ky ks i).2.1 ∧ (ky ks i).2.1 ≤ 24) ∧ -24 ≤ (ky ks i).2.2 ∧ (ky ks i).2.2 ≤ 24
  s : ∀ i, i + 1 < ks.length → (ky ks i).1 < (ky ks (i + 1)).1
theorem okTk_V {ks : List Ky} (h : okTk ks = true) : TkV ks := by
  simp only [okTk, Bool.and_eq_true] at h
  obtain ⟨h1, h2⟩ := h
  have hl : 1 ≤ ks.length ∧ ks.length ≤ 20 := by simp [in1] at h2; omega
  refine ⟨hl.1, hl.2, fun i hi => ?_, fun i hi => ?_⟩
  · have := allN_get (p := kyB ks) h1 hi
    simp only [kyB, Bool.and_eq_true, in1, decide_eq_true_eq] at this
    exact ⟨this.1.1.1, this.1.1.2, this.1.2⟩
  · have := allN_get (p := kyB ks) h1 hi
    simp only [kyB, Bool.and_eq_true, in1, decide_eq_true_eq, Bool.or_eq_true] at this
    rcases this.2 with h | h
    · omega
    · exact h
theorem PtW.fr {s : Pt} (h : PtW s) : FrW s.f := ⟨s.len, h.ok⟩
/-- A copy of parts while marks are being written over it. -/
structure MkP (G G' : Heap) (b ver lo hi n : Nat) (y : Nat → Value) (m : Nat → Nat) : Prop where
  len : G'.length = G.length
  fr : ∀ j, j < lo ∨ hi ≤ j → G'[j]? = G[j]?
  inb : lo ≤ b ∧ b < hi
  out : ∃ vs, G'[b]? = some ⟨vs, 14, ver, false⟩ ∧ n * 14 ≤ vs.length ∧ ∀ i, i < n → vs[i * 14 + 13]? = some (y i)
  row : ∀ i, i < n → ∃ b' ver' cap' ws, y i = slc b' 0 ver' (m i) cap' ∧ lo ≤ b' ∧ b' < hi ∧ b' ≠ b ∧ G'[b']? = some ⟨ws, 3, ver', false⟩ ∧ m i * 3 ≤ ws.length
theorem MkP.rows {G G' : Heap} {b ver lo hi n : Nat} {y : Nat → Value} {m : Nat → Nat} (h : MkP G G' b ver lo hi n y m) {b' ver' : Nat} {ws ws' : List Value} (hb : lo ≤ b' ∧ b' < hi) (hne : b' ≠ b) (hg : G'[b']? = some ⟨ws, 3, ver', false⟩) (hw : ws'.length = ws.length) :
    MkP G (G'.set b' ⟨ws', 3, ver', false⟩) b ver lo hi n y m := by
  refine ⟨by simp [h.len], fun j hj => ?_, h.inb, ?_, fun i hi => ?_⟩
  · rw [List.getElem?_set_ne (by omega)]
    exact h.fr j hj
  · obtain ⟨vs, h1, h2⟩ := h.out
    exact ⟨vs, by rw [List.getElem?_set_ne hne]; exact h1, h2⟩
  · obtain ⟨b2, ver2, cap2, ws2, h1, h2, h3, h4, h5, h6⟩ := h.row i hi
    by_cases hb2 : b' = b2
    · subst hb2
      rw [hg] at h5
      cases h5
      exact ⟨b', ver', cap2, ws', h1, h2, h3, h4, get_set hg, by rw [hw]; exact h6⟩
    · exact ⟨b2, ver2, cap2, ws2, h1, h2, h3, h4, by rw [List.getElem?_set_ne hb2]; exact h5, h6⟩
theorem bkC_push {l : List (List Int)} {f : List Int} : bkC l ++ cs .u16 f = bkC (l ++ [f]) := by rw [bkC, bkC, rowsC_app]; simp [rowsC, frC]
theorem Gr.base {H H' G : Heap} {x : Value} {esz n : Nat} {vs : List Value} (g : Gr H' G x esz n vs) (p : Pre H H') : Gr H G x esz n vs := by
  obtain ⟨b, ver, rfl, h1, h2, h3, h4⟩ := g
  exact ⟨b, ver, rfl, h1, Nat.le_trans p.len h2, h3, p.trans h4⟩
theorem PtR.new {H G : Heap} {s : Pt} {y : Value} (h : Kr H y s) (p : Pre (H ++ [⟨ptC s y, 1, 0, false⟩]) G) : PtR G H.length 0 0 s y := by
  have hr : rd (H ++ [(⟨ptC s y, 1, 0, false⟩ : Blk)]) H.length 0 0 14 = some (ptC s y) := rd_last rfl ptC_len
  exact PtR.of (p.rd hr) ((h.pre Pre.one).pre p)
/-- A source: a block of three cells; its bytes are elder. At most k bytes were taken. -/
def srB (x : Value) (i sd : Int) : Blk := ⟨[x, .int .i64 i, .int .u64 sd], 1, 0, false⟩
def Src (G : Heap) (P k : Nat) : Prop := ∃ x bs i sd, G[P]? = some (srB x i sd) ∧ SlR (G.take P) x 1 bs.length (cs .u8 bs) ∧ (∀ b ∈ bs, 0 ≤ b ∧ b ≤ 255) ∧ bs.length ≤ 1000000 ∧ 0 ≤ i ∧ i ≤ k
theorem pre_take {G G' : Heap} {n : Nat} (p : Pre G G') (hn : n ≤ G.length) : G'.take n = G.take n := by
  obtain ⟨L, rfl⟩ := p
  rw [List.take_append_of_le_length hn]
theorem Pre.takes {G : Heap} {n : Nat} : Pre (G.take n) G := ⟨G.drop n, (List.take_append_drop n G).symm⟩
theorem Src.lt {G : Heap} {P k : Nat} (h : Src G P k) : P < G.length := by
  obtain ⟨x, bs, i, sd, h1, _⟩ := h
  exact (List.getElem?_eq_some_iff.1 h1).1
theorem Src.le {G : Heap} {P k k' : Nat} (h : Src G P k) (hk : k ≤ k') : Src G P k' := by
  obtain ⟨x, bs, i, sd, h1, h2, h3, h4, h5, h6⟩ := h
  exact ⟨x, bs, i, sd, h1, h2, h3, h4, h5, by omega⟩
theorem Src.pre {G G' : Heap} {P k : Nat} (p : Pre G G') (h : Src G P k) : Src G' P k := by
  have hl := h.lt
  obtain ⟨x, bs, i, sd, h1, h2, h3⟩ := h
  exact ⟨x, bs, i, sd, by rw [p.get hl]; exact h1, by rw [pre_take p (Nat.le_of_lt hl)]; exact h2, h3⟩
/-- Nothing but the source's block has changed. -/
structure Mv (P : Nat) (G G' : Heap) : Prop where
  len : G'.length = G.length
  get : ∀ j, j ≠ P → G'[j]? = G[j]?
theorem Mv.refl {P : Nat} {G : Heap} : Mv P G G := ⟨rfl, fun _ _ => rfl⟩
theorem Mv.trans {P : Nat} {G G' G'' : Heap} (h : Mv P G G') (h' : Mv P G' G'') : Mv P G G'' := ⟨h'.len.trans h.len, fun j hj => (h'.get j hj).trans (h.get j hj)⟩
theorem Mv.set {P : Nat} {G : Heap} {k : Blk} : Mv P G (G.set P k) := ⟨by simp, fun j hj => List.getElem?_set_ne (Ne.symm hj)⟩
theorem Mv.take {P : Nat} {G G' : Heap} (h : Mv P G G') {n0 : Nat} (hn : n0 ≤ P) : G'.take n0 = G.take n0 := by
  apply List.ext_getElem?
  intro i
  rw [List.getElem?_take, List.getElem?_take]
  split
  · rw [h.get i (by omega)]
  · rfl
theorem Mv.rd {P : Nat} {G G' : Heap} (h : Mv P G G') {b off ver n : Nat} (hb : b ≠ P) : rd G' b off ver n = rd G b off ver n := by
  unfold Fb.rd
  rw [h.get b hb]
theorem Src.mv {P k : Nat} {G G' : Heap} (h : Src G P k) (hP : G'[P]? = G[P]?) (hj : ∀ j, j < P → G'[j]? = G[j]?) : Src G' P k := by
  obtain ⟨x, bs, i, sd, h1, h2, h3⟩ := h
  refine ⟨x, bs, i, sd, by rw [hP]; exact h1, ?_, h3⟩
  have : G'.take P = G.take P := by
    apply List.ext_getElem?
    intro j
    rw [List.getElem?_take, List.getElem?_take]
    split
    · exact hj j ‹_›
    · rfl
  rw [this]; exact h2
theorem Src.take {P k n : Nat} {G : Heap} (h : Src G P k) (hn : P < n) : Src (G.take n) P k :=
  h.mv (by rw [List.getElem?_take, if_pos hn]) fun j hj => by rw [List.getElem?_take, if_pos (by omega)]
theorem nthI_ok {bs : List Int} (h : ∀ b ∈ bs, 0 ≤ b ∧ b ≤ 255) {i : Nat} (hi : i < bs.length) : 0 ≤ nth bs i ∧ nth bs i ≤ 255 := h _ (nth_mem hi)
theorem and255 {x : Int} : 0 ≤ bitsOf .and .u64 x 255 ∧ bitsOf .and .u64 x 255 ≤ 255 := by
  have e0 : IntKind.bits .u64 = 64 := rfl
  unfold bitsOf
  simp only []
  have : (BitVec.ofInt (IntKind.bits .u64) x &&& BitVec.ofInt (IntKind.bits .u64) 255).toNat ≤ 255 := by
    rw [BitVec.toNat_and]
    exact Nat.and_le_right
  rw [wrapu64 (by omega)]; omega
theorem call550 {G : Heap} {P k : Nat} (h : Src G P k) (hk : k ≤ 1000000000000) : ∃ v G', Call tab false 550 [adr P 0 0] G = some (.int .i64 v, G') ∧ 0 ≤ v ∧ v ≤ 255 ∧ Mv P G G' ∧ Src G' P (k + 1) := by
  have key : ∃ r, Call tab false 550 [adr P 0 0] G = some r ∧ ∃ v G', r = (.int .i64 v, G') ∧ 0 ≤ v ∧ v ≤ 255 ∧ Mv P G G' ∧ Src G' P (k + 1) := by
    have hl := h.lt
    obtain ⟨x, bs, i, sd, h1, h2, h3, h4, h5, h6⟩ := h
    have hx : SlR G x 1 bs.length (cs .u8 bs) := h2.pre Pre.takes
    refine Call_ex t550 (.inl rfl) rfl ?_
    have r0 : ∀ i sd, rd (G.set P (srB x i sd)) P 0 0 1 = some [x] := fun i sd => rd_at (ver := 0) (get_set (k' := srB x i sd) h1) rfl (by simp [srB])
    have r1 : ∀ i sd, rd (G.set P (srB x i sd)) P 1 0 1 = some [.int .i64 i] := fun i sd => rd_at (ver := 0) (get_set (k' := srB x i sd) h1) rfl (by simp [srB])
    have r2 : ∀ i sd, rd (G.set P (srB x i sd)) P 2 0 1 = some [.int .u64 sd] := fun i sd => rd_at (ver := 0) (get_set (k' := srB x i sd) h1) rfl (by simp [srB])
    have w1 : ∀ i sd i', wr G.length true (G.set P (srB x i sd)) P 1 0 [.int .i64 i'] = some (G.set P (srB x i' sd)) := fun i sd i' => by
      have := wr_at (n0 := G.length) (wb := true) (off := 1) (vs := [.int .i64 i']) (ver := 0) (get_set (k' := srB x i sd) h1) rfl rfl (by simp [may]) (by simp [srB])
      rw [set_set] at this; exact this
    have w2 : ∀ i sd sd', wr G.length true (G.set P (srB x i sd)) P 2 0 [.int .u64 sd'] = some (G.set P (srB x i sd')) := fun i sd sd' => by
      have := wr_at (n0 := G.length) (wb := true) (off := 2) (vs := [.int .u64 sd']) (ver := 0) (get_set (k' := srB x i sd) h1) rfl rfl (by simp [may]) (by simp [srB])
      rw [set_set] at this; exact this
    have e9 : IntKind.wrap .i64 (i + 1) = i + 1 := wrap64 (by omega)
    have r0' := r0 i sd; have r1' := r1 i sd; have w1' := w1 i sd
    rw [set_self h1] at r0' r1' w1'
    have hS : ∀ sd', Src (G.set P (srB x (i + 1) sd')) P (k + 1) := fun sd' => ⟨x, bs, i + 1, sd', get_set h1, by rw [Mv.set.take (Nat.le_refl P)]; exact h2, h3, h4, by omega, by omega⟩
    obtain ⟨m, rfl⟩ := Int.eq_ofNat_of_zero_le h5
    by_cases hlt : m < bs.length
    · obtain ⟨q, off, ver, ha, hr⟩ := hx.get1 hlt
      rw [elem_i hlt] at hr
      have hb := nthI_ok h3 hlt
      have u1 : IntKind.wrap .i64 (nth bs m) = nth bs m := wrap64 (by omega)
      have hle : (m : Int) + 1 ≤ bs.length := by omega
      simp [c550, k550, r0', r1', hx.lenV, hlt, ha, hr, w1', e9, r0, r1, r2, w2, u1, hle, wbOf]
      exact ⟨_, _, ⟨rfl, rfl⟩, hb.1, hb.2, .set, hS _⟩
    · have hle : ¬ (m : Int) + 1 ≤ bs.length := by omega
      have hlt' : ¬ (m : Int) < bs.length := by omega
      have u2 : ∀ y, IntKind.wrap .i64 (bitsOf .and .u64 y 255) = bitsOf .and .u64 y 255 := fun y => wrap64 (by have := and255 (x := y); omega)
      have u3 : ∀ y, shiftOf .shr .u64 y 40 = some (.int .u64 (y.fdiv (2 ^ 40))) := fun y => rfl
      simp [c550, k550, r0', r1', hx.lenV, hlt, hlt', w1', e9, r0, r1, r2, w2, hle, wbOf, u2, u3]
      exact ⟨_, _, ⟨rfl, rfl⟩, and255.1, and255.2, .set, hS _⟩
  obtain ⟨r, hc, v, G', rfl, h⟩ := key
  exact ⟨v, G', hc, h⟩
theorem call459 {G : Heap} {P k : Nat} {n : Int} (h : Src G P k) (hk : k ≤ 100000000000) (hn : 1 ≤ n ∧ n ≤ 1000000) : ∃ v G', Call tab false 459 [adr P 0 0, .int .i64 n] G = some (.int .i64 v, G') ∧ (0 ≤ v ∧ v < n) ∧ Mv P G G' ∧ Src G' P (k + 2) := by
  have key : ∃ r, Call tab false 459 [adr P 0 0, .int .i64 n] G = some r ∧ ∃ v G', r = (.int .i64 v, G') ∧ (0 ≤ v ∧ v < n) ∧ Mv P G G' ∧ Src G' P (k + 2) := by
    refine Call_ex t459 (.inl rfl) rfl ?_
    by_cases h1 : n ≤ 1
    · simp [c459, k459, h1]
      exact ⟨_, _, ⟨rfl, rfl⟩, ⟨by omega, by omega⟩, .refl, h.le (by omega)⟩
    have hn0 : n ≠ 0 := by omega
    obtain ⟨v, G1, c1, v0, v1, m1, s1⟩ := call550 h (by omega)
    have hmod : ∀ a : Int, 0 ≤ a → a.tmod n = a % n ∧ 0 ≤ a % n ∧ a % n < n := fun a ha => ⟨Int.tmod_eq_emod_of_nonneg ha, Int.emod_nonneg _ hn0, Int.emod_lt_of_pos _ (by omega)⟩
    by_cases h2 : n > 200
    · obtain ⟨w, G2, c2, w0, w1, m2, s2⟩ := call550 s1 (by omega)
      have e1 : IntKind.wrap .i64 (v * 256) = v * 256 := wrap64 (by omega)
      have e2 : IntKind.wrap .i64 (v * 256 + w) = v * 256 + w := wrap64 (by omega)
      obtain ⟨g1, g2, g3⟩ := hmod (v * 256 + w) (by omega)
      have e3 : IntKind.wrap .i64 ((v * 256 + w) % n) = (v * 256 + w) % n := wrap64 (by omega)
      have m := m1.trans m2
      simp [c459, k459, h1, h2, c1, c2, wbOf, e1, e2, hn0, g1, e3]
      exact ⟨_, _, ⟨rfl, rfl⟩, ⟨g2, g3⟩, by rw [List.take_of_length_le (by rw [m.len]; exact Nat.le_refl _)]; exact ⟨m, s2⟩⟩
    · obtain ⟨g1, g2, g3⟩ := hmod v v0
      have e3 : IntKind.wrap .i64 (v % n) = v % n := wrap64 (by omega)
      have h2' : ¬ 200 < n := h2
      simp [c459, k459, h1, h2', c1, wbOf, hn0, g1, e3]
      exact ⟨_, _, ⟨rfl, rfl⟩, ⟨g2, g3⟩, by rw [List.take_of_length_le (by rw [m1.len]; exact Nat.le_refl _)]; exact ⟨m1, s1.le (by omega)⟩⟩
  obtain ⟨r, hc, v, G', rfl, h⟩ := key
  exact ⟨v, G', hc, h⟩
theorem call513 {G : Heap} {P k : Nat} {n : Int} (h : Src G P k) (hk : k ≤ 100000000000) (hn : 1 ≤ n ∧ n ≤ 1000000) : ∃ b G', Call tab false 513 [adr P 0 0, .int .i64 n] G = some (.bool b, G') ∧ Mv P G G' ∧ Src G' P (k + 2) := by
  obtain ⟨v, G', c, _, m, s⟩ := call459 h hk hn
  refine ⟨v == 0, G', Call_wp t513 (.inl rfl) rfl ?_, m, s⟩
  simp [c513, k513, c, wbOf]
  exact List.take_of_length_le (by rw [m.len]; exact Nat.le_refl _)
theorem SlR.old {H : Heap} {x : Value} {esz n : Nat} {vs : List Value} (h : SlR H x esz n vs) : old0 H.length x = true := by
  rcases h.is with ⟨rfl, _⟩ | ⟨b, off, ver, cap, rfl, _, _, k, hk, _⟩
  · rfl
  · rw [old0_slc]
    simpa using (List.getElem?_eq_some_iff.1 hk).1
theorem finish_adr {H G : Heap} {b ver : Nat} {k : Blk} (hp : Pre H G) (hb : H.length ≤ b) (hk : G[b]? = some k) (hv : ver = k.ver) (hr : k.ro = false) (ho : k.cells.all (old0 H.length) = true) :
    finish H.length G [adr b 0 ver] = (adr H.length 0 0, H ++ [{ k with ver := 0 }]) := by
  have h1 : old1 H.length (adr b 0 ver) = false := by
    show (decide (b < H.length)) = false
    simpa using hb
  have : pack H.length G [adr b 0 ver] [] [] = some ([adr H.length 0 0], [{ k with ver := 0 }]) := by
    rw [pack, if_neg (by rw [h1]; decide)]
    show (match G[b]? with
      | some k => if ([] : List Nat).contains b = false ∧ ver = k.ver ∧ k.ro = false ∧ k.cells.all (old0 H.length) = true then _ else none
      | none => none) = _
    rw [hk]
    simp only []
    rw [if_pos ⟨by simp, hv, hr, ho⟩]
    rfl
  rw [finish_some this, hp.take]; rfl
/-- A source anew. -/
theorem call315 {pu : Bool} {H : Heap} {x : Value} {bs : List Int} (hx : SlR H x 1 bs.length (cs .u8 bs)) (hb : ∀ b ∈ bs, 0 ≤ b ∧ b ≤ 255) (hn : bs.length ≤ 1000000) :
    Call tab pu 315 [x] H = some (adr H.length 0 0, H ++ [srB x 0 0]) ∧ Src (H ++ [srB x 0 0]) H.length 0 := by
  constructor
  · refine Call_wp t315 (.inr rfl) rfl ?_
    have hc : cellsOf x = [x] := by
      rcases hx.is with ⟨rfl, _⟩ | ⟨b, off, ver, cap, rfl, _⟩ <;> rfl
    have hf : fill [.slice none 0 0, .int .i64 0, .int .u64 0] [(0, 1, x)] = some [x, .int .i64 0, .int .u64 0] := by
      show (if (cellsOf x).length = 1 ∧ 0 + 1 ≤ 3 then fill (splice [.slice none 0 0, .int .i64 0, .int .u64 0] 0 (cellsOf x)) [] else none) = _
      rw [hc]; rfl
    have hfin := finish_adr (H := H) (G := H ++ [srB x 0 0]) (b := H.length) (ver := 0) Pre.one (Nat.le_refl _) get_last rfl rfl (by simp [srB, hx.old])
    have e1 : ({ srB x 0 0 with ver := 0 } : Blk) = srB x 0 0 := rfl
    rw [e1] at hfin
    simp only [srB] at hfin ⊢
    simp [c315, k315, hf, hfin]
  · refine ⟨x, bs, 0, 0, get_last, ?_, hb, hn, by omega, by omega⟩
    rw [List.take_left' rfl]
    exact hx
theorem fl_step {T : Tab} {n0 : Nat} {wb : Bool} {e : Env} {H H' : Heap} {Q : Ex → Env → Heap → Prop} {fs : List Fr} {d : Option Nat} {o : Op1} {r : List Stm} {e0 : Env} {outs : List Nat} {fl : List Opd} {v : Value}
    (h : apart e ⟨none, d, o, fl⟩ = true) (hv : ev1 (Call T) n0 wb e H o = some (v, H')) (hs : stays e H H' ⟨none, d, o, fl⟩ = true) :
    OK' T n0 wb (⟨none, d, o, fl⟩ :: r) e H e0 outs fs Q ↔ OK' T n0 wb r (put e d v) H' e0 outs fs Q := by
  unfold OK' OPS
  simp only [ops, wanted, h, hv, hs, if_true]
theorem orI_ok {a b : Int} : u16' (orI a b) := by
  have e0 : IntKind.bits .u16 = 16 := rfl
  unfold orI bitsOf
  simp only []
  have : (BitVec.ofInt (IntKind.bits .u16) a ||| BitVec.ofInt (IntKind.bits .u16) b).toNat < 2 ^ 16 := by rw [e0]; exact BitVec.isLt _
  rw [wrapu16 (by omega)]; omega
theorem orI_row {a b : Int} (ha : u16' a) (hb : u16' b) (h1 : okRow a = true) (h2 : okRow b = true) : okRow (orI a b) = true := by
  obtain ⟨n, rfl⟩ := Int.eq_ofNat_of_zero_le ha.1
  obtain ⟨m, rfl⟩ := Int.eq_ofNat_of_zero_le hb.1
  simp [okRow] at h1 h2 ⊢
  have e0 : IntKind.bits .u16 = 16 := rfl
  unfold orI bitsOf
  simp only []
  have e1 : (BitVec.ofInt (IntKind.bits .u16) (n : Int) ||| BitVec.ofInt (IntKind.bits .u16) (m : Int)).toNat = n ||| m := by
    rw [BitVec.toNat_or, e0, BitVec.ofInt_natCast, BitVec.ofInt_natCast, BitVec.toNat_ofNat, BitVec.toNat_ofNat, Nat.mod_eq_of_lt (show n < 2 ^ 16 by omega), Nat.mod_eq_of_lt (show m < 2 ^ 16 by omega)]
  have e2 : n ||| m < 2 ^ 12 := Nat.or_lt_two_pow (show n < 2 ^ 12 by omega) (show m < 2 ^ 12 by omega)
  rw [e1, wrapu16 (by omega)]; omega
/-- A valid frame. -/
structure VF (f : List Int) : Prop where
  W : FrW f
  ok : okF f = true
theorem VF.row {f : List Int} (h : VF f) {i : Nat} (hi : i < 12) : u16' (nth f i) ∧ okRow (nth f i) = true := ⟨h.W.nth hi, List.all_eq_true.1 (show f.all okRow = true from h.ok) _ (nth_mem (by rw [h.W.len]; exact hi))⟩
theorem VF.set {f : List Int} {i : Nat} {r : Int} (h : VF f) (hr : u16' r) (ho : okRow r = true) : VF (f.set i r) :=
  ⟨⟨by simp [h.W.len], fun n hn => (List.mem_or_eq_of_mem_set hn).elim (h.W.ok n) (fun e => by rw [e]; exact hr)⟩,
    List.all_eq_true.2 fun n hn => (List.mem_or_eq_of_mem_set hn).elim (fun h1 => List.all_eq_true.1 (show f.all okRow = true from h.ok) n h1) (fun e => by rw [e]; exact ho)⟩
theorem VF.zero : VF (zr 12 0) := ⟨⟨by simp, fun n hn => by simp [zr] at hn; subst hn; exact ⟨by omega, by omega⟩⟩, by decide⟩
theorem VF.put {f : List Int} {x y : Nat} (h : VF f) (hx : x < 12) (hy : y < 12) : VF (putF f x y) := by
  have hb := bit_ok hx
  obtain ⟨h1, h2⟩ := h.row hy
  exact h.set (orI_ok (a := nth f y) (b := bit x)) (orI_row h1 ⟨by omega, by omega⟩ h2 (by simp [okRow]; omega))
/-- In a function that draws: the source and a frame of its own. -/
structure Loc (G G' : Heap) (P k : Nat) (f : List Int) : Prop where
  src : Src G' P k
  fr : G'[G.length]? = some ⟨cs .u16 f, 1, 0, false⟩
  V : VF f
  len : G'.length = G.length + 1
  get : ∀ j, j < G.length → j ≠ P → G'[j]? = G[j]?
  lt : P < G.length
theorem Loc.mv {G G' G'' : Heap} {P k k' : Nat} {f : List Int} (h : Loc G G' P k f) (m : Mv P G' G'') (s : Src G'' P k') : Loc G G'' P k' f := by
  have := h.lt
  exact ⟨s, by rw [m.get _ (by omega)]; exact h.fr, h.V, by rw [m.len]; exact h.len, fun j hj hp => by rw [m.get j hp]; exact h.get j hj hp, h.lt⟩
theorem Loc.le {G G' : Heap} {P k k' : Nat} {f : List Int} (h : Loc G G' P k f) (hk : k ≤ k') : Loc G G' P k' f := ⟨h.src.le hk, h.fr, h.V, h.len, h.get, h.lt⟩
theorem Loc.set {G G' : Heap} {P k : Nat} {f g : List Int} (h : Loc G G' P k f) (hg : VF g) : Loc G (G'.set G.length ⟨cs .u16 g, 1, 0, false⟩) P k g := by
  have := h.lt
  exact ⟨h.src.mv (List.getElem?_set_ne (by omega)) fun j hj => List.getElem?_set_ne (by omega), get_set h.fr, hg, by simp [h.len], fun j hj hp => by rw [List.getElem?_set_ne (by omega)]; exact h.get j hj hp, h.lt⟩
theorem Loc.pick {G G' : Heap} {P k : Nat} {f : List Int} {n : Int} (h : Loc G G' P k f) (hk : k ≤ 100000000000) (hn : 1 ≤ n ∧ n ≤ 1000000) : ∃ v G'', Call tab false 459 [adr P 0 0, .int .i64 n] G' = some (.int .i64 v, G'') ∧ (0 ≤ v ∧ v < n) ∧ Loc G G'' P (k + 2) f ∧ G''[G.length]? = G'[G.length]? := by
  obtain ⟨v, G'', c, hv, m, s⟩ := call459 h.src hk hn
  exact ⟨v, G'', c, hv, h.mv m s, m.get _ (by have := h.lt; omega)⟩
theorem Loc.done {G G' : Heap} {P k : Nat} {f : List Int} (h : Loc G G' P k f) : Mv P G (G'.take G.length) ∧ Src (G'.take G.length) P k :=
  ⟨⟨by simp [h.len], fun j hj => by
    rw [List.getElem?_take]
    split
    · exact h.get j ‹_› hj
    · exact (List.getElem?_eq_none (by omega)).symm⟩, h.src.take h.lt⟩
def XY (u v : Value) : Prop := ∃ x y : Nat, x < 12 ∧ y < 12 ∧ u = .int .i64 x ∧ v = .int .i64 y
theorem XY.mk {x y : Int} (hx : 0 ≤ x ∧ x < 12) (hy : 0 ≤ y ∧ y < 12) : XY (.int .i64 x) (.int .i64 y) := by
  obtain ⟨a, rfl⟩ := Int.eq_ofNat_of_zero_le hx.1
  obtain ⟨b, rfl⟩ := Int.eq_ofNat_of_zero_le hy.1
  exact ⟨a, b, by omega, by omega, rfl, rfl⟩
theorem call368 {G : Heap} {P k : Nat} (h : Src G P k) (hk : k ≤ 10000000000) : ∃ f G', Call tab false 368 [adr P 0 0] G = some (iv .u16 f, G') ∧ VF f ∧ Mv P G G' ∧ Src G' P (k + 200) := by
  have key : ∃ r, Call tab false 368 [adr P 0 0] G = some r ∧ ∃ f G', r = (iv .u16 f, G') ∧ VF f ∧ Mv P G G' ∧ Src G' P (k + 200) := by
    refine Call_ex t368 (.inl rfl) rfl ?_
    have hl := h.lt
    obtain ⟨G1, hG1⟩ : ∃ G1, G1 = G ++ [(⟨cs .u16 (zr 12 0), 1, 0, false⟩ : Blk)] := ⟨_, rfl⟩
    have hwr : wr G.length true G1 G.length 0 0 (cs .u16 (zr 12 0)) = some G1 := by
      rw [hG1, wr_last (b := ⟨cs .u16 (zr 12 0), 1, 0, false⟩) rfl rfl (Nat.le_refl _) (by simp)]
    have L1 : Loc G G1 P k (zr 12 0) := by
      have p : Pre G G1 := by rw [hG1]; exact Pre.one
      exact ⟨h.pre p, by rw [hG1]; exact get_last, .zero, by rw [hG1]; simp, fun j hj _ => p.get hj, hl⟩
    obtain ⟨x, G2, c2, hx, L2, _⟩ := L1.pick (n := 12) (by omega) (by omega)
    obtain ⟨y, G3, c3, hy, L3, _⟩ := L2.pick (n := 12) (by omega) (by omega)
    obtain ⟨N, G4, c4, hN, L4, _⟩ := L3.pick (n := 14) (by omega) (by omega)
    obtain ⟨N, rfl⟩ := Int.eq_ofNat_of_zero_le hN.1
    obtain ⟨x, rfl⟩ := Int.eq_ofNat_of_zero_le hx.1
    obtain ⟨y, rfl⟩ := Int.eq_ofNat_of_zero_le hy.1
    simp [c368, k368, fill, zs_cs, agg_cs, ← hG1, hwr, wbOf, c2, c3, c4]
    refine WK_loop (fun i e G' => e 0 = adr P 0 0 ∧ e 2 = iv .u16 (zr 12 0) ∧ e 3 = adr G.length 0 0 ∧ XY (e 4) (e 5) ∧ e 6 = .int .i64 ((N - i : Nat) : Int) ∧ ∃ f, Loc G G' P (k + 6 + i * 8) f) N ?_ (Nat.zero_le _)
      ⟨by simp, by simp, by simp, by simp; exact .mk hx hy, by simp, _, by rw [Nat.zero_mul]; exact L4⟩
    rintro i e G' _ hi ⟨h0, h2, h3, ⟨x, y, hx, hy, h4, h5⟩, h6, f, L⟩
    by_cases hiN : i = N
    · subst hiN
      rw [Nat.sub_self] at h6
      obtain ⟨b, G5, c5, m5, s5⟩ := call513 (n := 8) L.src (by omega) (by omega)
      have L5 := L.mv m5 s5
      have fin : ∀ {G6 : Heap} {g : List Int} {k' : Nat}, Loc G G6 P k' g → k' ≤ k + 200 → ∃ r, some (iv .u16 g, G6.take G.length) = some r ∧ ∃ f G', r = (iv .u16 f, G') ∧ VF f ∧ Mv P G G' ∧ Src G' P (k + 200) := fun L6 hk' =>
        ⟨_, rfl, _, _, rfl, L6.V, L6.done.1, L6.done.2.le hk'⟩
      cases b with
      | false =>
        have hr := rd_at (off := 0) (n := 12) (ver := 0) L5.fr rfl (by simp [L5.V.W.len])
        simp [take_all, L5.V.W.len] at hr
        have s3 := stc_zr (k := .u16) (n := 12) (l := f) L5.V.W.len
        simp [b368_1, h0, h2, h3, h6, c5, wbOf, hr, s3, agg_cs, L5.V.W.len]
        exact ⟨_, _, ⟨rfl, rfl⟩, _, _, ⟨rfl, rfl⟩, L5.V, L5.done.1, L5.done.2.le (by omega)⟩
      | true =>
        simp [b368_1, h0, h2, h3, h6, c5, wbOf]
        refine WP_count 7 12 12 rfl (fun j e G' => e 0 = adr P 0 0 ∧ e 2 = iv .u16 (zr 12 0) ∧ e 3 = adr G.length 0 0 ∧ ∃ f, Loc G G' P (k + 6 + i * 8 + 2 + j * 2) f) (by omega) ?_ ?_ (by simp) ⟨by simp [h0], by simp [h2], by simp [h3], _, L5⟩
        · rintro j e G' _ hj hjj e4 h7 ⟨h0, h2, h3, g, L⟩
          obtain ⟨v, G6, c6, hv, L6, hget⟩ := L.pick (n := 4096) (by omega) (by omega)
          have hr := rd_at (off := 0) (n := 12) (ver := 0) L.fr rfl (by simp [L.V.W.len])
          simp [take_all, L.V.W.len] at hr
          have hr1 := rd_one hr hj
          rw [Nat.zero_add] at hr1
          have hw := wr_at (n0 := G.length) (wb := true) (off := j) (vs := [.int .u16 (orI (nth g j) v)]) (ver := 0) L6.fr rfl rfl (by simp [may]) (by simp [L6.V.W.len]; omega)
          have hsp : splice (cs .u16 g) j [.int .u16 (orI (nth g j) v)] = cs .u16 (g.set j (orI (nth g j) v)) := by rw [splice_one (by simp [L6.V.W.len]; omega)]; simp [cs, List.map_set]
          simp only [hsp] at hw
          obtain ⟨q1, q2⟩ := L6.V.row hj
          have uv : u16' v := ⟨by omega, by omega⟩
          have L7 := L6.set (L6.V.set (i := j) (orI_ok (a := nth g j) (b := v)) (orI_row q1 uv q2 (by simp [okRow]; omega)))
          simp [b368_2, h7, h0, h2, h3, hjj, hj, hr1]
          rw [fl_step (v := .int .i64 v) (H' := G6) (by simp [apart, blkOf, adr, mods]) (by simp [h0, c6]) (by simp [stays, blkOf, adr, hget])]
          have u1 : IntKind.wrap .u16 v = v := wrapu16 (by omega)
          have e9 : bitsOf .or .u16 (nth g j) v = orI (nth g j) v := rfl
          simp [h0, h2, h3, hj, u1, e9, hw, wbOf, h7, e4]
          exact ⟨_, L7.le (by omega)⟩
        · rintro e G' _ h7 ⟨h0, h2, h3, g, L⟩
          have hr := rd_at (off := 0) (n := 12) (ver := 0) L.fr rfl (by simp [L.V.W.len])
          simp [take_all, L.V.W.len] at hr
          have s3 := stc_zr (k := .u16) (n := 12) (l := g) L.V.W.len
          simp [b368_2, h7, h0, h2, h3, wbOf, hr, s3, agg_cs, L.V.W.len]
          exact ⟨_, _, ⟨rfl, rfl⟩, _, _, ⟨rfl, rfl⟩, L.V, L.done.1, L.done.2.le (by omega)⟩
    · have hpos : 0 < N - i := by omega
      have p1 := call305 L.fr L.V.W.len hx hy
      have L5 := L.set (L.V.put hx hy)
      obtain ⟨v, G6, c6, hv, L6, _⟩ := L5.pick (n := 6) (by omega) (by omega)
      have e6 : IntKind.wrap .i64 (((N - i : Nat) : Int) - 1) = ((N - (i + 1) : Nat) : Int) := by rw [wrap64 (by omega)]; omega
      have hiN' : i < N := by omega
      have fin : ∀ {x' y' : Int} {G7 : Heap}, (0 ≤ x' ∧ x' < 12) → (0 ≤ y' ∧ y' < 12) → Loc G G7 P (k + 6 + i * 8 + 6) (putF f x y) → XY (.int .i64 x') (.int .i64 y') ∧ ∃ f, Loc G G7 P (k + 6 + (i + 1) * 8) f := fun hx' hy' L7 => ⟨.mk hx' hy', _, L7.le (by omega)⟩
      have hmod : ∀ a : Int, 0 ≤ a → a ≤ 1000 → IntKind.wrap .i64 (a.tmod 12) = a.tmod 12 ∧ 0 ≤ a.tmod 12 ∧ a.tmod 12 < 12 := fun a ha hb => by
        have h1 : a.tmod 12 = a % 12 := Int.tmod_eq_emod_of_nonneg ha
        rw [h1]
        exact ⟨wrap64 (by omega), by omega, by omega⟩
      have hv' : v = 0 ∨ v = 1 ∨ v = 2 ∨ (v ≠ 0 ∧ v ≠ 1 ∧ v ≠ 2) := by omega
      rcases hv' with rfl | rfl | rfl | ⟨v0, v1, v2⟩
      · obtain ⟨x', G7, c7, hx', L7, _⟩ := L6.pick (n := 12) (by omega) (by omega)
        obtain ⟨y', G8, c8, hy', L8, _⟩ := L7.pick (n := 12) (by omega) (by omega)
        simp [b368_1, h0, h2, h3, h4, h5, h6, hpos, p1, c6, c7, c8, e6, wbOf]
        exact ⟨hiN', fin hx' hy' (L8.le (by omega))⟩
      · obtain ⟨m1, m2⟩ := hmod ((x : Int) + 1) (by omega) (by omega)
        have e7 : IntKind.wrap .i64 ((x : Int) + 1) = (x : Int) + 1 := wrap64 (by omega)
        simp [b368_1, h0, h2, h3, h4, h5, h6, hpos, p1, c6, e6, e7, m1, wbOf]
        exact ⟨hiN', fin m2 ⟨by omega, by omega⟩ (L6.le (by omega))⟩
      · obtain ⟨m1, m2⟩ := hmod ((x : Int) + 1) (by omega) (by omega)
        have e7 : IntKind.wrap .i64 ((x : Int) + 1) = (x : Int) + 1 := wrap64 (by omega)
        simp [b368_1, h0, h2, h3, h4, h5, h6, hpos, p1, c6, e6, e7, m1, wbOf]
        exact ⟨hiN', fin m2 ⟨by omega, by omega⟩ (L6.le (by omega))⟩
      · obtain ⟨w, G7, c7, hw, L7, _⟩ := L6.pick (n := 3) (by omega) (by omega)
        obtain ⟨m1, m2⟩ := hmod ((y : Int) + w + 11) (by omega) (by omega)
        have v0 : (v == 0) = false := by simpa using v0
        have v1 : (v == 1) = false := by simpa using v1
        have v2 : (v == 2) = false := by simpa using v2
        have e7 : IntKind.wrap .i64 ((y : Int) + w) = (y : Int) + w := wrap64 (by omega)
        have e8 : IntKind.wrap .i64 ((y : Int) + w + 11) = (y : Int) + w + 11 := wrap64 (by omega)
        simp [b368_1, h0, h2, h3, h4, h5, h6, hpos, p1, c6, c7, e6, e7, e8, m1, v0, v1, v2, wbOf]
        exact ⟨hiN', fin ⟨by omega, by omega⟩ m2 (L7.le (by omega))⟩
  obtain ⟨r, hc, v, G', rfl, h⟩ := key
  exact ⟨v, G', hc, h⟩
theorem shF_V {f : List Int} {dx dy : Int} : VF (shF f dx dy) := ⟨dotsF_W, dotsF_ok⟩
structure Lo2 (G G' : Heap) (P k : Nat) (x : Value) (L : List (List Int)) (f : List Int) : Prop where
  src : Src G' P k
  ls : ∃ ver, x = slc G.length 0 ver L.length L.length ∧ G'[G.length]? = some ⟨bkC L, 12, ver, false⟩
  VL : ∀ g ∈ L, VF g
  fr : G'[G.length + 1]? = some ⟨cs .u16 f, 1, 0, false⟩
  V : VF f
  len : G.length + 2 ≤ G'.length
  get : ∀ j, j < G.length → j ≠ P → G'[j]? = G[j]?
  lt : P < G.length
theorem Lo2.mv {G G' G'' : Heap} {P k k' : Nat} {x : Value} {L : List (List Int)} {f : List Int} (h : Lo2 G G' P k x L f) (m : Mv P G' G'') (s : Src G'' P k') : Lo2 G G'' P k' x L f := by
  have := h.lt
  exact ⟨s, by obtain ⟨ver, e, g⟩ := h.ls; exact ⟨ver, e, by rw [m.get _ (by omega)]; exact g⟩, h.VL, by rw [m.get _ (by omega)]; exact h.fr, h.V, by rw [m.len]; exact h.len, fun j hj hp => by rw [m.get j hp]; exact h.get j hj hp, h.lt⟩
theorem Lo2.le {G G' : Heap} {P k k' : Nat} {x : Value} {L : List (List Int)} {f : List Int} (h : Lo2 G G' P k x L f) (hk : k ≤ k') : Lo2 G G' P k' x L f := ⟨h.src.le hk, h.ls, h.VL, h.fr, h.V, h.len, h.get, h.lt⟩
theorem Lo2.set {G G' : Heap} {P k : Nat} {x : Value} {L : List (List Int)} {f g : List Int} (h : Lo2 G G' P k x L f) (hg : VF g) : wr G.length true G' (G.length + 1) 0 0 (cs .u16 g) = some (G'.set (G.length + 1) ⟨cs .u16 g, 1, 0, false⟩) ∧ Lo2 G (G'.set (G.length + 1) ⟨cs .u16 g, 1, 0, false⟩) P k x L g := by
  have hl := h.lt
  have hlen := h.len
  have hw := wr_at (n0 := G.length) (wb := true) (off := 0) (vs := cs .u16 g) (ver := 0) h.fr rfl rfl (by simp [may]) (by simp [h.V.W.len, hg.W.len])
  have hsp : splice (cs .u16 f) 0 (cs .u16 g) = cs .u16 g := by
    unfold splice
    rw [List.take_zero, List.nil_append, Nat.zero_add, List.drop_eq_nil_of_le (by simp [h.V.W.len, hg.W.len]), List.append_nil]
  simp only [hsp] at hw
  exact ⟨hw, h.src.mv (List.getElem?_set_ne (by omega)) fun j hj => List.getElem?_set_ne (by omega), by obtain ⟨ver, e, g⟩ := h.ls; exact ⟨ver, e, by rw [List.getElem?_set_ne (by omega)]; exact g⟩, h.VL, get_set h.fr, hg, by simpa using hlen,
    fun j hj hp => by rw [List.getElem?_set_ne (by omega)]; exact h.get j hj hp, hl⟩
theorem Lo2.pick {G G' : Heap} {P k : Nat} {x : Value} {L : List (List Int)} {f : List Int} {n : Int} (h : Lo2 G G' P k x L f) (hk : k ≤ 100000000000) (hn : 1 ≤ n ∧ n ≤ 1000000) : ∃ v G'', Call tab false 459 [adr P 0 0, .int .i64 n] G' = some (.int .i64 v, G'') ∧ (0 ≤ v ∧ v < n) ∧ Lo2 G G'' P (k + 2) x L f := by
  obtain ⟨v, G'', c, hv, m, s⟩ := call459 h.src hk hn
  exact ⟨v, G'', c, hv, h.mv m s⟩
theorem vl_size {L : List (List Int)} (h : ∀ g ∈ L, VF g) : (bkC L).length = L.length * 12 := bkC_length fun f hf => (h f hf).W
theorem Lo2.bk {G G' : Heap} {P k : Nat} {x : Value} {L : List (List Int)} {f : List Int} (h : Lo2 G G' P k x L f) : Bk G' x L := by
  obtain ⟨ver, rfl, g⟩ := h.ls
  have hs := vl_size h.VL
  exact ⟨hs, .inr ⟨_, 0, ver, L.length, rfl, Nat.le_refl _, by rw [rd_at g rfl (by simp [hs])]; simp [take_all, hs], _, g, rfl, rfl⟩⟩
theorem Lo2.push {G G' : Heap} {P k : Nat} {x : Value} {L : List (List Int)} {f : List Int} (h : Lo2 G G' P k x L f) (hn : L.length ≤ 1000000) :
    ∃ x' G'', ((srcOf 12 (G' ++ [⟨cs .u16 f, 12, 0, false⟩]) (slc G'.length 0 0 1 1)).bind fun q => appendTo G.length true 12 24 (G' ++ [⟨cs .u16 f, 12, 0, false⟩]) x q.1 q.2) = some (x', G'') ∧ Lo2 G G'' P k x' (L ++ [f]) f := by
  have hl := h.lt
  have hlen := h.len
  have hf := h.V.W.len
  have hs := vl_size h.VL
  have hfr := h.fr
  have hsrc := h.src
  have hget := h.get
  obtain ⟨ver, rfl, g⟩ := h.ls
  have gA : ∀ j, j < G'.length → (G' ++ [(⟨cs .u16 f, 12, 0, false⟩ : Blk)])[j]? = G'[j]? := fun j hj => List.getElem?_append_left hj
  have g' : (G' ++ [(⟨cs .u16 f, 12, 0, false⟩ : Blk)])[G.length]? = some ⟨bkC L, 12, ver, false⟩ := by rw [gA _ (by omega)]; exact g
  have e1 : srcOf 12 (G' ++ [⟨cs .u16 f, 12, 0, false⟩]) (slc G'.length 0 0 1 1) = some (1, cs .u16 f) := by
    show (rd (G' ++ [⟨cs .u16 f, 12, 0, false⟩]) G'.length 0 0 (1 * 12)).map (fun cs => (1, cs)) = _
    rw [Nat.one_mul, rd_last rfl (by simpa using hf)]; rfl
  have e2 : (L ++ [f]).length = L.length + 1 := by simp
  refine ⟨slc G.length 0 (ver + 1) (L.length + 1) (L.length + 1), (G' ++ [(⟨cs .u16 f, 12, 0, false⟩ : Blk)]).set G.length ⟨bkC L ++ cs .u16 f, 12, ver + 1, false⟩, ?_, ?_⟩
  · rw [e1, Option.bind_some]
    exact appendTo_grow g' rfl rfl (by simp [may]) rfl hs.symm (by omega) (room24 (by omega))
  · refine ⟨hsrc.mv (by rw [List.getElem?_set_ne (by omega), gA _ (by omega)]) fun j hj => by rw [List.getElem?_set_ne (by omega), gA _ (by omega)], ⟨ver + 1, by rw [e2], by rw [get_set g', bkC_push]⟩, fun g hg => ?_, by rw [List.getElem?_set_ne (by omega), gA _ (by omega)]; exact hfr, h.V, by simp; omega, fun j hj hp => by rw [List.getElem?_set_ne (by omega), gA _ (by omega)]; exact hget j hj hp, hl⟩
    rcases List.mem_append.1 hg with h1 | h1
    · exact h.VL g h1
    · rw [List.mem_singleton.1 h1]; exact h.V
theorem finish_slc' {H G : Heap} {b ver len cap : Nat} {k : Blk} (hb : H.length ≤ b) (hk : G[b]? = some k) (hv : ver = k.ver) (hr : k.ro = false) (ho : k.cells.all (old0 H.length) = true) :
    finish H.length G [slc b 0 ver len cap] = (slc H.length 0 0 len cap, G.take H.length ++ [{ k with ver := 0 }]) := by
  have hne : old1 H.length (slc b 0 ver len cap) = false := by
    show (true && decide (b < H.length)) = false
    simp; omega
  have : pack H.length G [slc b 0 ver len cap] [] [] = some ([slc H.length 0 0 len cap], [{ k with ver := 0 }]) := by
    rw [pack, if_neg (by rw [hne]; decide)]
    show (match G[b]? with
      | some k => if ([] : List Nat).contains b = false ∧ ver = k.ver ∧ k.ro = false ∧ k.cells.all (old0 H.length) = true then _ else none
      | none => none) = _
    rw [hk]
    simp only []
    rw [if_pos ⟨by simp, hv, hr, ho⟩]
    rfl
  rw [finish_some this]; rfl
theorem Lo2.done {G G' : Heap} {P k : Nat} {x : Value} {L : List (List Int)} {f : List Int} (h : Lo2 G G' P k x L f) :
    finish G.length G' [x] = (slc G.length 0 0 L.length L.length, G'.take G.length ++ [⟨bkC L, 12, 0, false⟩]) ∧ Mv P G (G'.take G.length) ∧ Src (G'.take G.length) P k := by
  have hlen := h.len
  refine ⟨?_, ⟨by simp; omega, fun j hj => ?_⟩, h.src.take h.lt⟩
  · obtain ⟨ver, rfl, g⟩ := h.ls
    rw [finish_slc' (Nat.le_refl _) g rfl rfl bkC_flat.all]
  · rw [List.getElem?_take]
    split
    · exact h.get j ‹_› hj
    · exact (List.getElem?_eq_none (by omega)).symm
theorem call496 {G : Heap} {P k q : Nat} {l : List Int} (h : Src G P k) (hk : k ≤ 10000000000) (hq : q ≠ P) (hg : G[q]? = some ⟨cs .i64 l, 1, 0, false⟩) (h1 : 1 ≤ l.length) (h2 : l.length ≤ 1000) :
    ∃ v G', Call tab false 496 [adr P 0 0, slc q 0 0 l.length l.length] G = some (.int .i64 v, G') ∧ v ∈ l ∧ Mv P G G' ∧ Src G' P (k + 2) := by
  obtain ⟨v, G', c, hv, m, s⟩ := call459 (n := l.length) h (by omega) (by omega)
  obtain ⟨i, rfl⟩ := Int.eq_ofNat_of_zero_le hv.1
  have hi : i < l.length := by omega
  have hg' : G'[q]? = some ⟨cs .i64 l, 1, 0, false⟩ := by rw [m.get q hq]; exact hg
  have hr : rd G' q i 0 1 = some [.int .i64 (nth l i)] := by
    have h3 := rd_at (ver := 0) (off := i) (n := 1) hg' rfl (by simp; omega)
    rw [h3]
    have := elem_i (k := .i64) hi
    unfold elem at this
    simpa using this
  refine ⟨nth l i, G', Call_wp t496 (.inl rfl) rfl ?_, nth_mem hi, m, s⟩
  simp [c496, k496, c, wbOf, at_nat hi, hr]
  exact List.take_of_length_le (by rw [m.len]; exact Nat.le_refl _)
/-- In a function that draws: the source, and blocks of the call's own behind. -/
structure Lo0 (G G' : Heap) (P k : Nat) : Prop where
  src : Src G' P k
  len : G.length ≤ G'.length
  get : ∀ j, j < G.length → j ≠ P → G'[j]? = G[j]?
  lt : P < G.length
theorem Lo0.mv {G G' G'' : Heap} {P k k' : Nat} (h : Lo0 G G' P k) (m : Mv P G' G'') (s : Src G'' P k') : Lo0 G G'' P k' :=
  ⟨s, by rw [m.len]; exact h.len, fun j hj hp => by rw [m.get j hp]; exact h.get j hj hp, h.lt⟩
theorem Lo0.pre {G G' G'' : Heap} {P k : Nat} (h : Lo0 G G' P k) (p : Pre G' G'') : Lo0 G G'' P k := by
  have h1 := h.len
  exact ⟨h.src.pre p, Nat.le_trans h1 p.len, fun j hj hp => by rw [p.get (by omega)]; exact h.get j hj hp, h.lt⟩
theorem Lo0.le {G G' : Heap} {P k k' : Nat} (h : Lo0 G G' P k) (hk : k ≤ k') : Lo0 G G' P k' := ⟨h.src.le hk, h.len, h.get, h.lt⟩
theorem Lo0.done {G G' : Heap} {P k : Nat} (h : Lo0 G G' P k) : Mv P G (G'.take G.length) ∧ Src (G'.take G.length) P k := by
  have h1 := h.len
  refine ⟨⟨by simp; omega, fun j hj => ?_⟩, h.src.take h.lt⟩
  rw [List.getElem?_take]
  split
  · exact h.get j ‹_› hj
  · exact (List.getElem?_eq_none (by omega)).symm
/-- Valid light. -/
structure VL (l : List Int) : Prop where
  len : l.length = 144
  ok : okAll l = true
theorem VL.set {l : List Int} {i : Nat} {v : Int} (h : VL l) (hv : 0 ≤ v ∧ v ≤ 1000) : VL (l.set i v) :=
  ⟨by simp [h.len], List.all_eq_true.2 fun n hn => (List.mem_or_eq_of_mem_set hn).elim (fun h1 => List.all_eq_true.1 (show l.all okL = true from h.ok) n h1) (fun e => by rw [e]; simpa [okL] using hv)⟩
theorem VL.zero : VL (zr 144 0) := ⟨by simp, by decide⟩
theorem bit_get {n : Nat} {i : Nat} (h : i < 16) : (BitVec.ofInt 16 (n : Int)).getLsbD i = n.testBit i := by
  rw [BitVec.ofInt_natCast, BitVec.getLsbD_ofNat]
  simp [h]
theorem dotB_vec {v : BitVec 16} {i : Nat} : dotB (IntKind.wrap .u16 (v.toNat : Int)) i = v.getLsbD i := by
  have := v.isLt
  rw [wrapu16 (by omega), dotB_bit]
  exact BitVec.testBit_toNat v
theorem or_dot {a b : Int} (ha : u16' a) (hb : u16' b) {i : Nat} (hi : i < 16) : dotB (orI a b) i = (dotB a i || dotB b i) := by
  obtain ⟨n, rfl⟩ := Int.eq_ofNat_of_zero_le ha.1
  obtain ⟨m, rfl⟩ := Int.eq_ofNat_of_zero_le hb.1
  rw [dotB_bit, dotB_bit, ← bit_get hi, ← bit_get hi, ← BitVec.getLsbD_or]
  exact dotB_vec
theorem less_dot {a b : Int} (ha : u16' a) (hb : u16' b) {i : Nat} (hi : i < 16) : dotB (lessI a b) i = (dotB a i && !dotB b i) := by
  obtain ⟨n, rfl⟩ := Int.eq_ofNat_of_zero_le ha.1
  obtain ⟨m, rfl⟩ := Int.eq_ofNat_of_zero_le hb.1
  have e1 : (BitVec.ofInt 16 (n : Int) &&& ~~~BitVec.ofInt 16 (m : Int)).getLsbD i = ((BitVec.ofInt 16 (n : Int)).getLsbD i && !(BitVec.ofInt 16 (m : Int)).getLsbD i) := by
    rw [BitVec.getLsbD_and, BitVec.getLsbD_not]; simp [hi]
  rw [dotB_bit, dotB_bit, ← bit_get hi, ← bit_get hi, ← e1]
  exact dotB_vec
theorem hasF_dots {p : Nat → Nat → Bool} {x y : Nat} (hx : x < 12) (hy : y < 12) : hasF (dotsF p) x y = p x y := by
  rw [hasF, dotsF_nth hy, dotB_bit, rowN_bit]; simp [hx]
theorem VF.dots {f : List Int} (h : VF f) : dotsF (hasF f) = f := by
  refine (ext_nth (by rw [dotsF_length, h.W.len]) fun y hy => ?_)
  rw [dotsF_length] at hy
  obtain ⟨n, hn, hlt⟩ := okF_row h.ok h.W hy
  rw [dotsF_nth hy, hn]
  have := rowN_eq (q := fun x => hasF f x y) (n := n) (m := 12) hlt fun x hx => by rw [hasF, hn, dotB_bit]
  rw [← this]
theorem VF.ext {f g : List Int} (hf : VF f) (hg : VF g) (h : ∀ x y, x < 12 → y < 12 → hasF f x y = hasF g x y) : f = g := by
  rw [← hf.dots, ← hg.dots]
  exact dotsF_congr h
theorem mix_or {f g : List Int} (hf : VF f) (hg : VF g) {x y : Nat} (hx : x < 12) (hy : y < 12) : hasF (mixF orI f g) x y = (hasF f x y || hasF g x y) := by
  rw [hasF, mixF, nth_tabN hy]; exact or_dot (hf.row hy).1 (hg.row hy).1 (by omega)
theorem mix_less {f g : List Int} (hf : VF f) (hg : VF g) {x y : Nat} (hx : x < 12) (hy : y < 12) : hasF (mixF lessI f g) x y = (hasF f x y && !hasF g x y) := by
  rw [hasF, mixF, nth_tabN hy]; exact less_dot (hf.row hy).1 (hg.row hy).1 (by omega)
theorem mixV {op : Int → Int → Int} {f g : List Int} (hf : VF f) (hg : VF g) (h : ∀ a b, u16' a → u16' b → okRow a = true → okRow b = true → u16' (op a b) ∧ okRow (op a b) = true) : VF (mixF op f g) := by
  have key : ∀ i, i < 12 → u16' (nth (mixF op f g) i) ∧ okRow (nth (mixF op f g) i) = true := fun i hi => by
    rw [mixF, nth_tabN hi]
    exact h _ _ (hf.row hi).1 (hg.row hi).1 (hf.row hi).2 (hg.row hi).2
  exact ⟨⟨mixF_length, fun n hn => by obtain ⟨i, hi, rfl⟩ := mem_nth hn; rw [mixF_length] at hi; exact (key i hi).1⟩, okF_true mixF_length fun i hi => (key i hi).2⟩
theorem or_V {f g : List Int} (hf : VF f) (hg : VF g) : VF (mixF orI f g) := mixV hf hg fun _ _ h1 h2 h3 h4 => ⟨orI_ok, orI_row h1 h2 h3 h4⟩
theorem less_V {f g : List Int} (hf : VF f) (hg : VF g) : VF (mixF lessI f g) := mixV hf hg fun _ _ h1 h2 h3 _ => ⟨lessI_ok, lessI_row h1 h3⟩
theorem hasF_zero {x y : Nat} (hx : x < 12) (hy : y < 12) : hasF (zr 12 0) x y = false := by rw [← dotsF_none, hasF_dots hx hy]
theorem less_none {f g : List Int} (hf : VF f) (hg : VF g) (h : ∀ x y, x < 12 → y < 12 → hasF f x y = true → hasF g x y = true) : mixF lessI f g = zr 12 0 :=
  (less_V hf hg).ext .zero fun x y hx hy => by
    rw [mix_less hf hg hx hy, hasF_zero hx hy]
    cases h1 : hasF f x y with
    | false => rfl
    | true => rw [h x y hx hy h1]; rfl
/-- A list of bytes in memory. -/
structure By (H : Heap) (x : Value) (bs : List Int) : Prop where
  s : SlR H x 1 bs.length (cs .u8 bs)
  b : ∀ v ∈ bs, 0 ≤ v ∧ v ≤ 255
theorem By.pre {H G : Heap} {x : Value} {bs : List Int} (p : Pre H G) (h : By H x bs) : By G x bs := ⟨h.s.pre p, h.b⟩
theorem call84 {pu : Bool} {H : Heap} {x y : Value} {bs cs : List Int} (hx : By H x bs) (hy : By H y cs) : Call tab pu 84 [x, y] H = some (.bool (decide (3000 < bs.length) || decide (3000 < cs.length)), H) := by
  refine Call_wp t84 (.inr rfl) rfl ?_
  have e2 : decide ((3000 : Int) < cs.length) = decide (3000 < cs.length) := decide_eq_decide.2 (by omega)
  by_cases h : 3000 < bs.length
  · have h' : (3000 : Int) < bs.length := by omega
    simp [c84, k84, hx.s.lenV, hy.s.lenV, h, h', skip]
  · have h' : ¬ (3000 : Int) < bs.length := by omega
    simp [c84, k84, hx.s.lenV, hy.s.lenV, h, h', e2]
theorem call124 {pu : Bool} {H : Heap} {x : Value} {bs : List Int} {i : Nat} {n : Int} (hx : By H x bs) (hi : i ≤ 1000000) (hn : 1 ≤ n ∧ n ≤ 1000000) : ∃ v, Call tab pu 124 [x, .int .i64 i, .int .i64 n] H = some (.int .i64 v, H) ∧ 0 ≤ v ∧ v < n := by
  by_cases h : i < bs.length
  · obtain ⟨q, off, ver, ha, hr⟩ := hx.s.get1 h
    rw [elem_i h] at hr
    have hb := nthI_ok hx.b h
    have h1 : (nth bs i).tmod n = nth bs i % n := Int.tmod_eq_emod_of_nonneg hb.1
    have h2 := Int.emod_nonneg (nth bs i) (show n ≠ 0 by omega)
    have h3 := Int.emod_lt_of_pos (nth bs i) (show 0 < n by omega)
    have w1 : IntKind.wrap .i64 (nth bs i) = nth bs i := wrap64 (by omega)
    have w2 : IntKind.wrap .i64 (nth bs i % n) = nth bs i % n := wrap64 (by omega)
    have hn0 : n ≠ 0 := by omega
    have hn1 : ¬ n < 1 := by omega
    have hge : ¬ bs.length ≤ i := by omega
    refine ⟨nth bs i % n, Call_wp t124 (.inr rfl) rfl ?_, h2, h3⟩
    simp [c124, k124, hx.s.lenV, hge, hn1, ha, hr, w1, hn0, h1, w2]
  · have hge : bs.length ≤ i := by omega
    refine ⟨0, Call_wp t124 (.inr rfl) rfl ?_, by omega, by omega⟩
    simp [c124, k124, hx.s.lenV, hge, skip]
/-- In a function that draws: the source, and a list of the call's own in the first new block. -/
structure LoG (G G' : Heap) (P k : Nat) (x : Value) (esz n : Nat) (vs : List Value) : Prop where
  src : Src G' P k
  ls : ∃ ver, x = slc G.length 0 ver n n ∧ G'[G.length]? = some ⟨vs, esz, ver, false⟩
  size : vs.length = n * esz
  len : G.length + 1 ≤ G'.length
  get : ∀ j, j < G.length → j ≠ P → G'[j]? = G[j]?
  lt : P < G.length
theorem LoG.mv {G G' G'' : Heap} {P k k' esz n : Nat} {x : Value} {vs : List Value} (h : LoG G G' P k x esz n vs) (m : Mv P G' G'') (s : Src G'' P k') : LoG G G'' P k' x esz n vs := by
  have := h.lt
  exact ⟨s, by obtain ⟨ver, e, g⟩ := h.ls; exact ⟨ver, e, by rw [m.get _ (by omega)]; exact g⟩, h.size, by rw [m.len]; exact h.len, fun j hj hp => by rw [m.get j hp]; exact h.get j hj hp, h.lt⟩
theorem LoG.le {G G' : Heap} {P k k' esz n : Nat} {x : Value} {vs : List Value} (h : LoG G G' P k x esz n vs) (hk : k ≤ k') : LoG G G' P k' x esz n vs := ⟨h.src.le hk, h.ls, h.size, h.len, h.get, h.lt⟩
theorem LoG.pick {G G' : Heap} {P k esz m : Nat} {x : Value} {vs : List Value} {n : Int} (h : LoG G G' P k x esz m vs) (hk : k ≤ 100000000000) (hn : 1 ≤ n ∧ n ≤ 1000000) : ∃ v G'', Call tab false 459 [adr P 0 0, .int .i64 n] G' = some (.int .i64 v, G'') ∧ (0 ≤ v ∧ v < n) ∧ LoG G G'' P (k + 2) x esz m vs := by
  obtain ⟨v, G'', c, hv, mv, s⟩ := call459 h.src hk hn
  exact ⟨v, G'', c, hv, h.mv mv s⟩
theorem LoG.new {G : Heap} {P k esz : Nat} (h : Src G P k) : LoG G (G ++ [⟨[], esz, 0, false⟩]) P k (slc G.length 0 0 0 0) esz 0 [] :=
  ⟨h.pre Pre.one, ⟨0, rfl, get_last⟩, by simp, by simp, fun j hj _ => Pre.one.get hj, h.lt⟩
theorem LoG.push {G G' : Heap} {P k esz n bytes : Nat} {x : Value} {vs c : List Value} (h : LoG G G' P k x esz n vs) (hc : c.length = esz) (hb : (n + 1) * bytes ≤ roomMax) :
    ∃ x' G'', ((srcOf esz (G' ++ [⟨c, esz, 0, false⟩]) (slc G'.length 0 0 1 1)).bind fun q => appendTo G.length true esz bytes (G' ++ [⟨c, esz, 0, false⟩]) x q.1 q.2) = some (x', G'') ∧ LoG G G'' P k x' esz (n + 1) (vs ++ c) := by
  have hl := h.lt
  have hlen := h.len
  have hsrc := h.src
  have hget := h.get
  have hs := h.size
  obtain ⟨ver, rfl, g⟩ := h.ls
  have gA : ∀ j, j < G'.length → (G' ++ [(⟨c, esz, 0, false⟩ : Blk)])[j]? = G'[j]? := fun j hj => List.getElem?_append_left hj
  have g' : (G' ++ [(⟨c, esz, 0, false⟩ : Blk)])[G.length]? = some ⟨vs, esz, ver, false⟩ := by rw [gA _ (by omega)]; exact g
  have e1 : srcOf esz (G' ++ [⟨c, esz, 0, false⟩]) (slc G'.length 0 0 1 1) = some (1, c) := by
    show (rd (G' ++ [⟨c, esz, 0, false⟩]) G'.length 0 0 (1 * esz)).map (fun cs => (1, cs)) = _
    rw [Nat.one_mul, rd_last rfl (by simpa using hc)]; rfl
  refine ⟨slc G.length 0 (ver + 1) (n + 1) (n + 1), (G' ++ [(⟨c, esz, 0, false⟩ : Blk)]).set G.length ⟨vs ++ c, esz, ver + 1, false⟩, ?_, ?_⟩
  · rw [e1, Option.bind_some]
    exact appendTo_grow g' rfl rfl (by simp [may]) rfl hs.symm (by omega) hb
  · exact ⟨hsrc.mv (by rw [List.getElem?_set_ne (by omega), gA _ (by omega)]) fun j hj => by rw [List.getElem?_set_ne (by omega), gA _ (by omega)], ⟨ver + 1, rfl, get_set g'⟩, by simp [hs, hc, Nat.succ_mul], by simp; omega,
      fun j hj hp => by rw [List.getElem?_set_ne (by omega), gA _ (by omega)]; exact hget j hj hp, hl⟩
theorem LoG.rd {G G' : Heap} {P k esz n o m : Nat} {x : Value} {vs : List Value} (h : LoG G G' P k x esz n vs) {ver : Nat} (hx : x = slc G.length 0 ver n n) (ho : o + m ≤ n * esz) : Fb.rd G' G.length o ver m = some ((vs.drop o).take m) := by
  obtain ⟨ver', e, g⟩ := h.ls
  rw [hx] at e
  have hve : ver = ver' := by
    have := e
    simp [slc] at this
    exact this
  subst hve
  exact rd_at (ver := ver) g rfl (by rw [h.size]; exact ho)
theorem LoG.done {G G' : Heap} {P k esz n : Nat} {x : Value} {vs : List Value} (h : LoG G G' P k x esz n vs) (hf : NoRef vs) :
    finish G.length G' [x] = (slc G.length 0 0 n n, G'.take G.length ++ [⟨vs, esz, 0, false⟩]) ∧ Mv P G (G'.take G.length) ∧ Src (G'.take G.length) P k := by
  have hlen := h.len
  refine ⟨?_, ⟨by simp; omega, fun j hj => ?_⟩, h.src.take h.lt⟩
  · obtain ⟨ver, rfl, g⟩ := h.ls
    rw [finish_slc' (Nat.le_refl _) g rfl rfl hf.all]
  · rw [List.getElem?_take]
    split
    · exact h.get j ‹_› hj
    · exact (List.getElem?_eq_none (by omega)).symm
/-- Keys of a drawn track: all behind one another, ahead of t. -/
structure KG (ks : List Ky) (t : Int) : Prop where
  r : ∀ i, i < ks.length → (0 ≤ (ky ks i).1 ∧ (ky ks i).1 < t) ∧ (-6 ≤ (ky ks i).2.1 ∧ (ky ks i).2.1 ≤ 6) ∧ -6 ≤ (ky ks i).2.2 ∧ (ky ks i).2.2 ≤ 6
  s : ∀ i, i + 1 < ks.length → (ky ks i).1 < (ky ks (i + 1)).1
theorem ky_push {ks : List Ky} {k : Ky} {i : Nat} : ky (ks ++ [k]) i = if i < ks.length then ky ks i else if i = ks.length then k else default := by
  unfold ky at0
  rw [List.getD_eq_getElem?_getD, List.getElem?_append]
  split
  · rw [List.getD_eq_getElem?_getD]
  · rename_i h
    split
    · rename_i h2; subst h2; simp
    · rw [List.getElem?_eq_none (by simp; omega)]; rfl
theorem KG.push {ks : List Ky} {t t' a b : Int} (h : KG ks t) (ht : 0 ≤ t) (htt : t < t') (ha : -6 ≤ a ∧ a ≤ 6) (hb : -6 ≤ b ∧ b ≤ 6) : KG (ks ++ [(t, a, b)]) t' := by
  refine ⟨fun i hi => ?_, fun i hi => ?_⟩
  · have hi : i < ks.length + 1 := by simpa using hi
    rw [ky_push]
    by_cases h1 : i < ks.length
    · rw [if_pos h1]; have := h.r i h1; exact ⟨by omega, this.2⟩
    · rw [if_neg h1, if_pos (by omega)]; exact ⟨⟨ht, htt⟩, ha, hb⟩
  · have hi : i + 1 < ks.length + 1 := by simpa using hi
    rw [ky_push, ky_push, if_pos (by omega)]
    by_cases h1 : i + 1 < ks.length
    · rw [if_pos h1]; exact h.s i h1
    · rw [if_neg h1, if_pos (by omega)]; exact (h.r i (by omega)).1.2
/-- A drawn track. -/
structure DT (ks : List Ky) : Prop where
  n1 : 1 ≤ ks.length
  n5 : ks.length ≤ 5
  ok : okTk ks = true
/-- A drawn part. -/
structure DP (s : Pt) : Prop where
  f : VF s.f
  e : 0 ≤ s.e ∧ s.e ≤ 3
  ks : DT s.ks
theorem DT.W {ks : List Ky} (h : DT ks) : KyW ks := fun k hk => by
  have V := okTk_V h.ok
  obtain ⟨i, hi, rfl⟩ := List.getElem_of_mem hk
  have := V.r i hi
  have e : ky ks i = ks[i] := Option.some.inj ((at0_get hi).symm.trans (List.getElem?_eq_getElem hi))
  rw [e] at this
  exact ⟨by omega, ⟨by omega, by omega⟩, ⟨by omega, by omega⟩⟩
theorem DP.ok {s : Pt} (h : DP s) : okPt s = true := by
  have := h.e
  simp [okPt, h.f.ok, h.ks.ok, in1, this]
theorem DP.W {s : Pt} (h : DP s) : PtW s := ⟨h.f.W.ok, ⟨by have := h.e; omega, by have := h.e; omega⟩, h.ks.W⟩
theorem call356 {pu : Bool} {G : Heap} {x y : Value} {l : List Int} (hx : SlR G x 1 l.length (cs .i64 l)) (hy : SlR G y 1 l.length (cs .i64 l)) (hn : l.length ≤ 1000000) : Call tab pu 356 [x, y] G = some (.bool true, G) := by
  refine Call_wp t356 (.inr rfl) rfl ?_
  simp [c356, k356, hx.lenV, hy.lenV]
  refine WP_forH 5 l.length _ rfl (by omega) (fun i e => e 0 = x ∧ e 1 = y) ?_ ?_ (by simp) (by simp)
  · rintro i e hi hii e4 h5 ⟨h0, h1⟩
    obtain ⟨q, off, ver, ha, hr⟩ := hx.get1 hi
    obtain ⟨q', off', ver', ha', hr'⟩ := hy.get1 hi
    rw [elem_i hi] at hr hr'
    simp [b356_1, h5, h0, h1, hii, hx.lenV, ha, hr, ha', hr', e4]
  · rintro e h5 ⟨h0, h1⟩
    simp [b356_1, h5, h0, hx.lenV]
theorem hasF_put {g : List Int} (h : VF g) {x y u v : Nat} (hx : x < 12) (hy : y < 12) (hu : u < 12) (hv : v < 12) : hasF (putF g x y) u v = (hasF g u v || (decide (u = x) && decide (v = y))) := by
  have e : putF g x y = putF (dotsF (hasF g)) x y := by rw [h.dots]
  rw [e, putF_dots hx hy, hasF_dots hu hv]
theorem at0_pre {α : Type} [Inhabited α] {l r : List α} {i : Nat} (h : i < l.length) : at0 (l ++ r) i = at0 l i := by
  unfold at0
  rw [List.getD_eq_getElem?_getD, List.getD_eq_getElem?_getD, List.getElem?_append_left h]
theorem at0_snoc {α : Type} [Inhabited α] {l : List α} {a : α} : at0 (l ++ [a]) l.length = a := by
  unfold at0
  rw [List.getD_eq_getElem?_getD, List.getElem?_append_right (Nat.le_refl _)]
  simp
theorem eqB {b : Bool} : eqV .b (.bool b) (.bool b) = some true := by cases b <;> rfl
def lpD (b : List (List Int)) (n i : Nat) : Int := difF (fr b (i + n - 1)) (fr b i)
/-- The best of what was visited. -/
def LpI (b : List (List Int)) (o : Lp) (S : Nat → Nat → Prop) : Prop := match o with
  | none => ∀ n i, ¬ S n i
  | some (f, c, j) => S c f ∧ j = lpD b c f ∧ ∀ n i, S n i → j ≤ lpD b n i ∧ (lpD b n i = j → n < c ∨ (n = c ∧ f ≤ i))
theorem LpI.step {b : List (List Int)} {o : Lp} {S S' : Nat → Nat → Prop} {n i : Nat} (h : LpI b o S) (hS : ∀ n' i', S' n' i' ↔ S n' i' ∨ (n' = n ∧ i' = i)) (ho : ∀ n' i', S n' i' → n < n' ∨ (n = n' ∧ i' < i)) : LpI b (stepL b n i o) S' := by
  cases o with
  | none =>
    refine ⟨(hS n i).2 (.inr ⟨rfl, rfl⟩), rfl, fun n' i' hs => ?_⟩
    rcases (hS n' i').1 hs with h1 | ⟨rfl, rfl⟩
    · exact absurd h1 (h n' i')
    · exact ⟨Int.le_refl _, fun _ => .inr ⟨rfl, Nat.le_refl _⟩⟩
  | some q =>
    obtain ⟨f, c, j⟩ := q
    obtain ⟨h1, h2, h3⟩ := h
    show LpI b (if lpD b n i < j then some (i, n, lpD b n i) else some (f, c, j)) S'
    split
    · rename_i hlt
      refine ⟨(hS n i).2 (.inr ⟨rfl, rfl⟩), rfl, fun n' i' hs => ?_⟩
      rcases (hS n' i').1 hs with h4 | ⟨rfl, rfl⟩
      · have := (h3 n' i' h4).1
        exact ⟨by omega, fun he => by omega⟩
      · exact ⟨Int.le_refl _, fun _ => .inr ⟨rfl, Nat.le_refl _⟩⟩
    · rename_i hge
      refine ⟨(hS c f).2 (.inl h1), h2, fun n' i' hs => ?_⟩
      rcases (hS n' i').1 hs with h4 | ⟨rfl, rfl⟩
      · exact h3 n' i' h4
      · refine ⟨by omega, fun _ => ?_⟩
        rcases ho c f h1 with h5 | h5
        · exact .inl h5
        · exact .inr ⟨h5.1, by omega⟩
theorem call130 {pu : Bool} {G : Heap} {x y : Value} {l : List Int} (hx : SlR G x 1 l.length (cs .i64 l)) (hy : SlR G y 1 l.length (cs .i64 l)) (hn : l.length ≤ 1000000) : Call tab pu 130 [x, y] G = some (.bool true, G) := by
  refine Call_wp t130 (.inr rfl) rfl ?_
  simp [c130, k130, call356 hx hy hn]
/-- What is left of a text behind some of its parts. -/
def tailC : Nat → Cd → Cd
  | 0, c => c
  | n + 1, .seq _ b => tailC n b
  | _, c => c
/-- What ends a law well. -/
def QL (n0 : Nat) (H : Heap) : Ex → Env → Heap → Prop := fun x e' H' => (∀ i, x ≠ .exit i) ∧ (resVs e' H' [.t 4]).map (finish n0 H') = some (.bool true, H)
structure C1 (G : Heap) (x cx l1 l2 l3 : Value) (b c : List (List Int)) (frm : Nat) : Prop where
  bk : Bk G x b
  ck : Bk G cx c
  Vb : ∀ f ∈ b, VF f
  nb : b.length ≤ 1000
  c1 : 1 ≤ c.length
  cb : frm + c.length ≤ b.length
  sub : ∀ i, i < c.length → fr c i = fr b (frm + i)
  s1 : SlR G l1 1 (mcK b c 0 (mcN b c)).1.length (cs .i64 (mcK b c 0 (mcN b c)).1)
  s2 : SlR G l2 1 (mcK b c 1 (mcN b c)).1.length (cs .i64 (mcK b c 1 (mcN b c)).1)
  s3 : SlR G l3 2 (mcK b c 1 (mcN b c)).1.length (mvsC (mcK b c 1 (mcN b c)).2)
theorem C1.V {G : Heap} {x cx l1 l2 l3 : Value} {b c : List (List Int)} {frm : Nat} (h : C1 G x cx l1 l2 l3 b c frm) {i : Nat} (hi : i < c.length) : VF (fr c i) := by
  rw [h.sub i hi]
  have := h.cb
  exact h.Vb _ (at0_mem (by omega))
/-- What the walk knows all along. -/
structure K17 (H G : Heap) (x y : Value) (b : List (List Int)) (bs : List Int) (tw : Bool) (pv : Int) : Prop where
  P : Pre H G
  by' : By G y bs
  bk : Bk G x b
  V : ∀ f ∈ b, VF f
  nb : b.length ≤ 40
  tw' : tw = true → ∃ L, b = L ++ L
  pv' : 1 ≤ b.length → pv = findN (perP b) (b.length + 1)
theorem K17.pre {H G G' : Heap} {x y : Value} {b : List (List Int)} {bs : List Int} {tw : Bool} {pv : Int} (h : K17 H G x y b bs tw pv) (p : Pre G G') : K17 H G' x y b bs tw pv := ⟨h.P.trans p, h.by'.pre p, h.bk.pre p, h.V, h.nb, h.tw', h.pv'⟩
/-- A text with another one behind some of its parts. -/
def headC : Nat → Cd → Cd → Cd
  | 0, _, t => t
  | n + 1, .seq a b, t => .seq a (headC n b t)
  | _, c, _ => c
/-- A loop that counts to n, however great, in a heap that stays. -/
theorem WP_forM {T : Tab} {n0 : Nat} {wb : Bool} {e : Env} {H : Heap} {Q : Ex → Env → Heap → Prop} {fs : List Fr} {b : Cd} (v n : Nat) (hn : n ≤ 9223372036854775807) (I : Nat → Env → Prop)
    (round : ∀ i e', i < n → (i : Int) < n → IntKind.wrap .i64 ((i : Int) + 1) = (i : Int) + 1 → e' v = .int .i64 (i : Int) → I i e' →
      WK T n0 wb b [] e' H (rnd T n0 wb (fun e1 H1 => H1 = H ∧ e1 v = .int .i64 ((i : Int) + 1) ∧ I (i + 1) e1) fs Q))
    (last : ∀ e', e' v = .int .i64 n → I n e' → WK T n0 wb b [] e' H (rnd T n0 wb (fun _ _ => False) fs Q))
    (hv : e v = .int .i64 0) (h0 : I 0 e) : WK T n0 wb (.loop b) fs e H Q := by
  refine WK_loop (fun i e' H' => H' = H ∧ e' v = .int .i64 (i : Int) ∧ I i e') n ?_ (Nat.zero_le _) ⟨rfl, hv, h0⟩
  rintro i e' _ hf hi ⟨rfl, h1, h2⟩
  by_cases hlt : i < n
  · refine (round i e' hlt (by omega) (wrap64 (by omega)) h1 h2).mono fun x e1 H1 h => ?_
    cases x with
    | normal => exact ⟨hlt, h.1, by rw [h.2.1]; rfl, h.2.2⟩
    | exit j => exact h
    | ret => exact h
  · obtain rfl : i = n := by omega
    refine (last e' h1 h2).mono fun x e1 H1 h => ?_
    cases x with
    | normal => exact h.elim
    | exit j => exact h
    | ret => exact h
theorem any281 {pu : Bool} {H : Heap} {x : Value} {l : List Ly} (hs : Sc H x l) (hw : ScW l) : Call tab pu 281 [x] H = some (.bool (okSc l), H) := by
  by_cases hl : l.length ≤ 8
  · exact call281 hs hw (by omega)
  · refine Call_wp t281 (.inr rfl) rfl ?_
    have hl' : ¬ (l.length : Int) ≤ 8 := by omega
    simp [c281, k281, SlR.lenV hs, hl', skip, okSc, hl]
end Fb
