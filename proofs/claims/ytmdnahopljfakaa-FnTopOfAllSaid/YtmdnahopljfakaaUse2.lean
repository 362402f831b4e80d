/- What each function computes. -/
import Derived.Test.YtmdnahopljfakaaUse1
set_option linter.unusedVariables false
set_option linter.unusedSimpArgs false
namespace Fb
open Go
theorem fill24 {a b : List Int} (ha : a.length = 12) (hb : b.length = 12) : fill (cs .u16 (zr 24 0)) [(0, 12, iv .u16 a), (12, 12, iv .u16 b)] = some (cs .u16 (a ++ b)) := by
  have l1 : (cs .u16 a).length = 12 := by simp [ha]
  have l2 : (cs .u16 b).length = 12 := by simp [hb]
  show (if (cs .u16 a).length = 12 ∧ 0 + 12 ≤ (cs .u16 (zr 24 0)).length then fill (splice (cs .u16 (zr 24 0)) 0 (cs .u16 a)) [(12, 12, iv .u16 b)] else none) = _
  rw [if_pos ⟨l1, by simp⟩, splice_cs, wrt_a (by simp) ha]
  show (if (cs .u16 b).length = 12 ∧ 12 + 12 ≤ (cs .u16 (a ++ (zr 24 0).drop 12)).length then fill (splice (cs .u16 (a ++ (zr 24 0).drop 12)) 12 (cs .u16 b)) [] else none) = _
  rw [if_pos ⟨l2, by simp [ha]⟩, splice_cs, wrt_b ha (by simp) hb]; rfl
theorem call336 {pu : Bool} {H : Heap} {s : Ly} {x y : Int} (hw : LyW s) (h : okLy s = true) (hx : -100 ≤ x ∧ x ≤ 100) (hy : -100 ≤ y ∧ y ≤ 100) :
    Call tab pu 336 [iv .u16 s.f, .int .i64 (offX s x), .int .i64 (offY s y)] H = some (iv .u16 (lyI s x y ++ lyM s x y), H) := by
  refine Call_wp t336 (.inr rfl) rfl ?_
  obtain ⟨h1, h2, h3, h4, h5⟩ := okLy_d h
  obtain ⟨o1, o2⟩ := off_ok h hx hy
  have c1 := call358 (pu := true) (H := H) (dx := offX s x) (dy := offY s y) hw.ink h4 (by omega) (by omega)
  have c2 := call358 (pu := true) (H := H) (dx := offX s x) (dy := offY s y) hw.msk h5 (by omega) (by omega)
  have d1 : ldc 12 true (iv .u16 s.f) 0 = some (iv .u16 (inkL s)) := d24a hw.len
  have d2 : ldc 12 true (iv .u16 s.f) 12 = some (iv .u16 (mskL s)) := d24b hw.len
  have e1 : shF (inkL s) (offX s x) (offY s y) = lyI s x y := rfl
  have e2 : shF (mskL s) (offX s x) (offY s y) = lyM s x y := rfl
  rw [e1] at c1
  rw [e2] at c2
  have hl : (lyI s x y ++ lyM s x y).length = 24 := by simp [lyI_W.len, lyM_W.len]
  have s3 := stc_zr (k := .u16) (n := 24) (l := lyI s x y ++ lyM s x y) hl
  have hf := fill24 (a := lyI s x y) (b := lyM s x y) lyI_W.len lyM_W.len
  simp [c336, k336, d1, d2, c1, c2, zs_cs, hf, agg_cs, hl, s3]
def fldV (off n : Nat) (isAgg : Bool) : Value → Option Value
  | .agg cs => if off + n ≤ cs.size then ldv isAgg ((cs.toList.drop off).take n) else none
  | _ => none
theorem ev1_fld {T : Tab} {n0 : Nat} {wb : Bool} {e : Env} {H : Heap} {off n : Nat} {g : Bool} {x : Opd} : ev1 (Call T) n0 wb e H (.fld off n g x) = (fldV off n g (x.ev e)).map (·, H) := rfl
theorem fldV_a {a b : List Int} (ha : a.length = 12) (hb : b.length = 12) : fldV 0 12 true (iv .u16 (a ++ b)) = some (iv .u16 a) := by
  show (if 0 + 12 ≤ (cs .u16 (a ++ b)).toArray.size then ldv true (((cs .u16 (a ++ b)).toArray.toList.drop 0).take 12) else none) = _
  rw [if_pos (by simp [ha, hb])]
  simp only [cs_sub, (join_sub ha hb).1]; rfl
theorem ldAB_a {a b : List Int} (ha : a.length = 12) (hb : b.length = 12) : ldc 12 true (iv .u16 (a ++ b)) 0 = some (iv .u16 a) := by
  have := ldc_sub (k := .u16) (l := a ++ b) (o := 0) (n := 12) (by simp [ha])
  rw [this, (join_sub ha hb).1]
theorem ldAB_b {a b : List Int} (ha : a.length = 12) (hb : b.length = 12) : ldc 12 true (iv .u16 (a ++ b)) 12 = some (iv .u16 b) := by
  have := ldc_sub (k := .u16) (l := a ++ b) (o := 12) (n := 12) (by simp [ha, hb])
  rw [this, (join_sub ha hb).2]
/-- A scene laid flat: what has ink. -/
def flI (l : List Ly) (x y : Int) (k : Nat) : List Int := itN (fun i a => mixF orI a (mixF lessI (lyI (at0 l i) x y) (cvr l x y i))) (zr 12 0) k
theorem flI_zero {l : List Ly} {x y : Int} : flI l x y 0 = zr 12 0 := itN_zero
theorem flI_succ {l : List Ly} {x y : Int} {k : Nat} : flI l x y (k + 1) = mixF orI (flI l x y k) (mixF lessI (lyI (at0 l k) x y) (cvr l x y k)) := itN_succ
theorem flI_len {l : List Ly} {x y : Int} {k : Nat} : (flI l x y k).length = 12 := by
  cases k with
  | zero => rw [flI_zero]; simp
  | succ k => rw [flI_succ]; exact mixF_length
theorem call497 {pu : Bool} {H : Heap} {a b c d : List Int} (ha : a.length = 12) (hb : b.length = 12) (hc : c.length = 12) (hd : d.length = 12) :
    Call tab pu 497 [iv .u16 (a ++ b), iv .u16 (c ++ d)] H = some (iv .u16 (mixF orI a (mixF lessI c b) ++ mixF orI b d), H) := by
  refine Call_wp t497 (.inr rfl) rfl ?_
  have c1 := call350 (pu := true) (H := H) hc hb
  have c2 := call338 (pu := true) (H := H) ha (mixF_length (op := lessI) (a := c) (b := b))
  have c3 := call338 (pu := true) (H := H) hb hd
  have hf := fill24 (a := mixF orI a (mixF lessI c b)) (b := mixF orI b d) mixF_length mixF_length
  have hl : (mixF orI a (mixF lessI c b) ++ mixF orI b d).length = 24 := by simp [mixF_length]
  have s3 := stc_zr (k := .u16) (n := 24) (l := mixF orI a (mixF lessI c b) ++ mixF orI b d) hl
  simp [c497, k497, ldAB_a ha hb, ldAB_b ha hb, ldAB_a hc hd, ldAB_b hc hd, c1, c2, c3, zs_cs, hf, agg_cs, hl, s3]
theorem call330 {pu : Bool} {H : Heap} {z : Value} {l : List Ly} {x y : Int} (hs : Sc H z l) (hw : ScW l) (hok : okSc l = true) (hx : -100 ≤ x ∧ x ≤ 100) (hy : -100 ≤ y ∧ y ≤ 100) :
    Call tab pu 330 [z, .int .i64 x, .int .i64 y] H = some (iv .u16 (flI l x y l.length ++ cvr l x y l.length), H) := by
  refine Call_wp t330 (.inr rfl) rfl ?_
  have hn := okSc_len hok
  have hz24 := stc_zr (k := .u16) (n := 24) (l := zr 24 0) (by simp)
  simp [c330, k330, fill, zs_cs, agg_cs, hz24, SlR.lenV hs]
  refine WP_forH 13 l.length _ rfl (by omega) (fun i e => e 1 = .int .i64 x ∧ e 2 = .int .i64 y ∧ e 6 = iv .u16 (zr 24 0) ∧ e 7 = iv .u16 (flI l x y i ++ cvr l x y i) ∧ e 11 = z ∧ e 12 = .int .i64 l.length) ?_ ?_ (by simp) ⟨by simp, by simp, by simp, by simp [flI_zero, cvr_zero]; rfl, by simp, by simp⟩
  · rintro i e hi hii e4 h13 ⟨h1, h2, h6, h7, h11, h12⟩
    obtain ⟨q, off, ver, ha, hr, _⟩ := Sc.get hs hw hi
    have hlw := hw _ (at0_mem hi)
    have hlo := okSc_get hok hi
    have c1 := call335 (pu := true) (H := H) hlw hlo hx hy
    have c2 := call336 (pu := true) (H := H) hlw hlo hx hy
    have c3 := call497 (pu := true) (H := H) (flI_len (l := l) (x := x) (y := y) (k := i)) (cvr_len (l := l) (x := x) (y := y) (k := i)) (lyI_W (s := at0 l i) (x := x) (y := y)).len (lyM_W (s := at0 l i) (x := x) (y := y)).len
    rw [← flI_succ, ← cvr_succ] at c3
    have hz : (zr 24 0).length = 24 := rfl
    have hl := hlw.len
    simp only [lyC] at hr c1
    have st := stLall (a := .int .i8 0) (b := .int .i8 0) (c := .int .i8 0) (a' := .int .i8 (at0 l i).x) (b' := .int .i8 (at0 l i).y) (c' := .int .i8 (at0 l i).d) hz hl
    have l1 : (flI l x y i ++ cvr l x y i).length = 24 := by simp [flI_len, cvr_len]
    have l2 : (flI l x y (i + 1) ++ cvr l x y (i + 1)).length = 24 := by simp [flI_len, cvr_len]
    have hst3 : stc (iv .u16 (flI l x y i ++ cvr l x y i)) 0 (cs .u16 (flI l x y (i + 1) ++ cvr l x y (i + 1))) = some (iv .u16 (flI l x y (i + 1) ++ cvr l x y (i + 1))) := stc_all (by rw [l1, l2])
    simp [b330_1, h13, h1, h2, h6, h7, h11, h12, hii, z27, lyZ, ha, hr, lyT_len hl, st, l1, ldLall hl, ldL0 hl, c1, c2, c3, flI_len, cvr_len, hst3, e4]
  · rintro e h13 ⟨h1, h2, h6, h7, h11, h12⟩
    have l1 : (flI l x y l.length ++ cvr l x y l.length).length = 24 := by simp [flI_len, cvr_len]
    have s3 := stc_zr (k := .u16) (n := 24) (l := flI l x y l.length ++ cvr l x y l.length) l1
    simp [b330_1, h13, h12, h6, h7, l1, s3, flI_len, cvr_len, agg_cs]
theorem call468 {pu : Bool} {H : Heap} {q off ver : Nat} {s : Ly} {x y : Int} (hw : LyW s) (hr : LyR H q off ver s) (h : okLy s = true) (hx : -100 ≤ x ∧ x ≤ 100) (hy : -100 ≤ y ∧ y ≤ 100) :
    Call tab pu 468 [adr q off ver, .int .i64 (offX s x), .int .i64 (offY s y)] H = some (iv .u16 (lyI s x y ++ lyM s x y), H) := by
  refine Call_wp t468 (.inr rfl) rfl ?_
  obtain ⟨o1, o2⟩ := off_ok h hx hy
  have c1 := call355 (pu := true) (H := H) (dx := offX s x) (dy := offY s y) hw.ink hr.ink (by omega) (by omega)
  have c2 := call355 (pu := true) (H := H) (dx := offX s x) (dy := offY s y) hw.msk hr.msk (by omega) (by omega)
  have e1 : shF (inkL s) (offX s x) (offY s y) = lyI s x y := rfl
  have e2 : shF (mskL s) (offX s x) (offY s y) = lyM s x y := rfl
  rw [e1] at c1
  rw [e2] at c2
  have hl : (lyI s x y ++ lyM s x y).length = 24 := by simp [lyI_W.len, lyM_W.len]
  have s3 := stc_zr (k := .u16) (n := 24) (l := lyI s x y ++ lyM s x y) hl
  have hf := fill24 (a := lyI s x y) (b := lyM s x y) lyI_W.len lyM_W.len
  simp [c468, k468, c1, c2, zs_cs, hf, agg_cs, hl, s3, lyI_W.len, lyM_W.len]
theorem rd24 {G : Heap} {P : Nat} {a b : List Int} (h : G[P]? = some ⟨cs .u16 (a ++ b), 1, 0, false⟩) (ha : a.length = 12) (hb : b.length = 12) : rd G P 0 0 12 = some (cs .u16 a) ∧ rd G P 12 0 12 = some (cs .u16 b) ∧ rd G P 0 0 24 = some (cs .u16 (a ++ b)) := by
  have h24 : rd G P 0 0 24 = some (cs .u16 (a ++ b)) := by
    rw [rd_at h rfl (by simp [ha, hb])]
    simp only [List.drop_zero]; rw [List.take_of_length_le (by simp [ha, hb])]
  have h1 := rd_cs h24 (o := 0) (m := 12) (by omega)
  have h2 := rd_cs h24 (o := 12) (m := 12) (by omega)
  rw [(join_sub ha hb).1] at h1
  rw [(join_sub ha hb).2] at h2
  exact ⟨h1, by simpa using h2, h24⟩
theorem call500 {pu : Bool} {H : Heap} {P Q : Nat} {a b c d : List Int} (hP : H[P]? = some ⟨cs .u16 (a ++ b), 1, 0, false⟩) (hQ : H[Q]? = some ⟨cs .u16 (c ++ d), 1, 0, false⟩) (ha : a.length = 12) (hb : b.length = 12) (hc : c.length = 12) (hd : d.length = 12) :
    Call tab pu 500 [adr P 0 0, adr Q 0 0] H = some (iv .u16 (mixF orI a (mixF lessI c b) ++ mixF orI b d), H) := by
  refine Call_wp t500 (.inr rfl) rfl ?_
  obtain ⟨p1, p2, _⟩ := rd24 hP ha hb
  obtain ⟨q1, q2, _⟩ := rd24 hQ hc hd
  have hlC : (mixF lessI c b).length = 12 := mixF_length
  obtain ⟨G1, hG1⟩ : ∃ G1, G1 = H ++ [(⟨cs .u16 (zr 12 0), 1, 0, false⟩ : Blk)] := ⟨_, rfl⟩
  have pa : Pre H G1 := by rw [hG1]; exact Pre.one
  have c1 := call349 (pu := true) hc hb (pa.rd q1) (pa.rd p2)
  have c1' := call349 (pu := true) hc hb q1 p2
  obtain ⟨G2, hG2⟩ : ∃ G2, G2 = H ++ [(⟨cs .u16 (mixF lessI c b), 1, 0, false⟩ : Blk)] := ⟨_, rfl⟩
  have pb : Pre H G2 := by rw [hG2]; exact Pre.one
  have hwr : wr H.length false G1 H.length 0 0 (cs .u16 (mixF lessI c b)) = some G2 := by
    rw [hG1, wr_last (b := ⟨cs .u16 (zr 12 0), 1, 0, false⟩) rfl rfl (Nat.le_refl _) (by simp [hlC]), hG2]
  have rL : rd G2 H.length 0 0 12 = some (cs .u16 (mixF lessI c b)) := by rw [hG2]; exact rd_last rfl (by simp [hlC])
  have c2 := call337 (pu := true) ha hlC (pb.rd p1) rL
  have c3 := call337 (pu := true) hb hd (pb.rd p2) (pb.rd q2)
  have hf := fill24 (a := mixF orI a (mixF lessI c b)) (b := mixF orI b d) mixF_length mixF_length
  have hl : (mixF orI a (mixF lessI c b) ++ mixF orI b d).length = 24 := by simp [mixF_length]
  have s3 := stc_zr (k := .u16) (n := 24) (l := mixF orI a (mixF lessI c b) ++ mixF orI b d) hl
  simp [c500, k500, zs_cs, ← hG1, c1, c1', hlC, hwr, wbOf, c2, c3, hf, agg_cs, hl, s3, mixF_length, pb.take]
theorem call332 {pu : Bool} {H : Heap} {z : Value} {l : List Ly} {x y : Int} (hs : Sc H z l) (hw : ScW l) (hok : okSc l = true) (hx : -100 ≤ x ∧ x ≤ 100) (hy : -100 ≤ y ∧ y ≤ 100) :
    Call tab pu 332 [z, .int .i64 x, .int .i64 y] H = some (iv .u16 (flI l x y l.length ++ cvr l x y l.length), H) := by
  refine Call_wp t332 (.inr rfl) rfl ?_
  have hn := okSc_len hok
  obtain ⟨G1, hG1⟩ : ∃ G1, G1 = H ++ [(⟨cs .u16 (zr 24 0), 1, 0, false⟩ : Blk)] := ⟨_, rfl⟩
  have p1 : Pre H G1 := by rw [hG1]; exact Pre.one
  have g1 : G1[H.length]? = some ⟨cs .u16 (flI l x y 0 ++ cvr l x y 0), 1, 0, false⟩ := by rw [hG1, flI_zero, cvr_zero]; simp; rfl
  have hwr : wr H.length false G1 H.length 0 0 (cs .u16 (zr 24 0)) = some G1 := by
    rw [hG1, wr_last (b := ⟨cs .u16 (zr 24 0), 1, 0, false⟩) rfl rfl (Nat.le_refl _) (by simp)]
  simp [c332, k332, fill, zs_cs, agg_cs, ← hG1, hwr, wbOf]
  refine WP_count 8 l.length _ rfl (fun i e G => e 0 = z ∧ e 1 = .int .i64 x ∧ e 2 = .int .i64 y ∧ e 6 = iv .u16 (zr 24 0) ∧ e 7 = adr H.length 0 0 ∧ G[H.length]? = some ⟨cs .u16 (flI l x y i ++ cvr l x y i), 1, 0, false⟩ ∧ Pre H G) (by omega) ?_ ?_ (by simp) ⟨by simp, by simp, by simp, by simp, by simp, g1, p1⟩
  · rintro i e G _ hi hii e4 h8 ⟨h0, h1, h2, h6, h7, gC, hPG⟩
    obtain ⟨q, off, ver, ha, _, hr⟩ := Sc.get (SlR.pre hPG hs) hw hi
    have hlw := hw _ (at0_mem hi)
    have hlo := okSc_get hok hi
    have c1 := call499 (pu := true) hr hlo hx hy
    have c2 := call468 (pu := true) hlw hr hlo hx hy
    obtain ⟨Ga, hGa⟩ : ∃ Ga, Ga = G ++ [(⟨cs .u16 (zr 24 0), 1, 0, false⟩ : Blk)] := ⟨_, rfl⟩
    obtain ⟨Gb, hGb⟩ : ∃ Gb, Gb = G ++ [(⟨cs .u16 (lyI (at0 l i) x y ++ lyM (at0 l i) x y), 1, 0, false⟩ : Blk)] := ⟨_, rfl⟩
    have pb : Pre G Gb := by rw [hGb]; exact Pre.one
    have hHG : H.length ≤ G.length := hPG.len
    have l2 : (lyI (at0 l i) x y ++ lyM (at0 l i) x y).length = 24 := by simp [lyI_W.len, lyM_W.len]
    have hwa : wr H.length false Ga G.length 0 0 (cs .u16 (lyI (at0 l i) x y ++ lyM (at0 l i) x y)) = some Gb := by
      rw [hGa, wr_last (b := ⟨cs .u16 (zr 24 0), 1, 0, false⟩) rfl rfl hHG (by simp [lyI_W.len, lyM_W.len]), hGb]
    have hlC := (List.getElem?_eq_some_iff.1 gC).1
    have gCb : Gb[H.length]? = some ⟨cs .u16 (flI l x y i ++ cvr l x y i), 1, 0, false⟩ := by rw [pb.get hlC]; exact gC
    have gNb : Gb[G.length]? = some ⟨cs .u16 (lyI (at0 l i) x y ++ lyM (at0 l i) x y), 1, 0, false⟩ := by rw [hGb]; exact get_last
    have c3 := call500 (pu := true) gCb gNb flI_len cvr_len lyI_W.len lyM_W.len
    rw [← flI_succ, ← cvr_succ] at c3
    have l1 : (flI l x y i ++ cvr l x y i).length = 24 := by simp [flI_len, cvr_len]
    have l3 : (flI l x y (i + 1) ++ cvr l x y (i + 1)).length = 24 := by simp [flI_len, cvr_len]
    obtain ⟨Gd, hGd⟩ : ∃ Gd, Gd = Gb.set H.length ⟨cs .u16 (flI l x y (i + 1) ++ cvr l x y (i + 1)), 1, 0, false⟩ := ⟨_, rfl⟩
    have hwd : wr H.length false Gb H.length 0 0 (cs .u16 (flI l x y (i + 1) ++ cvr l x y (i + 1))) = some Gd := by
      rw [wr_at gCb rfl rfl (by simp [may]) (by simp [flI_len, cvr_len]), hGd]
      have hdn : (cs .u16 (flI l x y i ++ cvr l x y i)).drop 24 = [] := List.drop_eq_nil_of_le (by simp [flI_len, cvr_len])
      simp only [splice, List.take_zero, List.nil_append, Nat.zero_add, length_cs, l3, hdn, List.append_nil]
    simp [b332_1, h8, h0, h1, h2, h6, h7, SlR.lenV hs, hii, ha, c1, c2, zs_cs, ← hGa, hwa, wbOf, lyI_W.len, lyM_W.len, c3, flI_len, cvr_len, hwd, e4]
    exact ⟨by rw [hGd]; exact get_set gCb, by rw [hGd]; exact (hPG.trans pb).set (Nat.le_refl _)⟩
  · rintro e G _ h8 ⟨h0, h1, h2, h6, h7, gC, hPG⟩
    have l1 : (flI l x y l.length ++ cvr l x y l.length).length = 24 := by simp [flI_len, cvr_len]
    have s3 := stc_zr (k := .u16) (n := 24) (l := flI l x y l.length ++ cvr l x y l.length) l1
    obtain ⟨_, _, r24⟩ := rd24 gC flI_len cvr_len
    simp [b332_1, h8, h0, h6, h7, SlR.lenV hs, r24, l1, s3, flI_len, cvr_len, hPG.take, agg_cs]
/- Keys. -/
abbrev Ky := Int × Int × Int
def kyC (k : Ky) : List Value := [.int .i16 k.1, .int .i8 k.2.1, .int .i8 k.2.2]
def kysC (l : List Ky) : List Value := rowsC kyC l
theorem kysC_length {l : List Ky} : (kysC l).length = l.length * 3 := rows_length (f := kyC) (esz := 3) fun _ _ => rfl
def kyF : List Value := [.int .i16 (-30101), .int .i8 (-101), .int .i8 (-101)]
/- Parts. -/
structure Pt where
  f : List Int
  e : Int
  ks : List Ky
  len : f.length = 12
instance : Inhabited Pt := ⟨⟨zr 12 0, 0, [], rfl⟩⟩
structure PtW (s : Pt) : Prop where
  ok : ∀ n ∈ s.f, u16' n
  e : i8 s.e
  ks : ∀ k ∈ s.ks, (-32768 ≤ k.1 ∧ k.1 ≤ 32767) ∧ i8 k.2.1 ∧ i8 k.2.2
def ptT (f : List Int) (a b : Value) : List Value := cs .u16 f ++ [a, b]
def ptC (s : Pt) (y : Value) : List Value := ptT s.f (.int .i8 s.e) y
theorem ptT_len {f : List Int} {a b : Value} (h : f.length = 12) : (ptT f a b).length = 14 := by simp [ptT, h]
theorem ptC_len {s : Pt} {y : Value} : (ptC s y).length = 14 := ptT_len s.len
theorem ptT_at {f : List Int} {a b : Value} (h : f.length = 12) {k : Nat} : (ptT f a b).drop (12 + k) = [a, b].drop k := by
  unfold ptT
  rw [show 12 + k = (cs .u16 f).length + k by simp [h], List.drop_length_add_append]
/-- Keys of a part in memory. -/
abbrev Kr (G : Heap) (y : Value) (s : Pt) : Prop := SlR G y 3 s.ks.length (kysC s.ks)
abbrev KrC (G : Heap) (y : Value) (s : Pt) : Prop := IsCp G y 3 s.ks.length (kysC s.ks) kyF
/-- Parts in memory. -/
def PtS (G : Heap) (x : Value) (l : List Pt) : Prop := ∃ vs, SlR G x 14 l.length vs ∧ ∀ i, i < l.length → ∃ y, elem vs 14 i = ptC (at0 l i) y ∧ Kr G y (at0 l i)
theorem PtS.pre {H G : Heap} {x : Value} {l : List Pt} (p : Pre H G) (h : PtS H x l) : PtS G x l := by
  obtain ⟨vs, h1, h2⟩ := h
  exact ⟨vs, h1.pre p, fun i hi => by obtain ⟨y, h3, h4⟩ := h2 i hi; exact ⟨y, h3, h4.pre p⟩⟩
theorem PtS.lenV {G : Heap} {x : Value} {l : List Pt} (h : PtS G x l) : lenV x = some (.int .i64 l.length) := by
  obtain ⟨vs, h1, _⟩ := h; exact h1.lenV
theorem PtS.get {G : Heap} {x : Value} {l : List Pt} (h : PtS G x l) {i : Nat} (hi : i < l.length) : ∃ q off ver y, idxAV 14 x (.int .i64 (i : Int)) = some (adr q off ver) ∧ rd G q off ver 14 = some (ptC (at0 l i) y) ∧ Kr G y (at0 l i) := by
  obtain ⟨vs, h1, h2⟩ := h
  obtain ⟨q, off, ver, h3, h4⟩ := h1.get1 hi
  obtain ⟨y, h5, h6⟩ := h2 i hi
  rw [h5] at h4
  exact ⟨q, off, ver, y, h3, h4, h6⟩
/-- A copy of a part: what stands in the block, whatever stands in that block itself. -/
structure CqI (H G : Heap) (b : Nat) (flag : Bool) (s : Pt) (y : Value) : Prop where
  r : ∀ k, Kr (G.set b k) y s
  n : y = .slice none 0 0 ∨ old0 H.length y = false
  c : flag = false → (∀ k, KrC (G.set b k) y s) ∧ old0 H.length y = false
theorem CqI.set {H G : Heap} {b : Nat} {flag : Bool} {s : Pt} {y : Value} {k : Blk} (h : CqI H G b flag s y) : CqI H (G.set b k) b flag s y := ⟨fun k' => by rw [set_set]; exact h.r k', h.n, fun hf => ⟨fun k' => by rw [set_set]; exact (h.c hf).1 k', (h.c hf).2⟩⟩
theorem CqI.pre {H G G' : Heap} {b : Nat} {flag : Bool} {s : Pt} {y : Value} (h : CqI H G b flag s y) (p : Pre G G') (hb : b < G.length) : CqI H G' b flag s y :=
  ⟨fun k => (h.r k).pre (set_pre p hb), h.n, fun hf => ⟨fun k => ((h.c hf).1 k).pre (set_pre p hb), (h.c hf).2⟩⟩
def ptF : Pt := ⟨bkF, -101, [(-30101, -101, -101)], rfl⟩
/-- Steps copied, with room behind. -/
def CqS (G : Heap) (x : Value) (l : List Pt) : Prop := ∃ b ver vs, x = slc b 0 ver l.length (l.length + roomN l.length) ∧ G[b]? = some ⟨vs, 14, ver, false⟩ ∧ vs.length = (l.length + roomN l.length) * 14 ∧
  (∀ i, i < l.length → ∃ y, elem vs 14 i = ptC (at0 l i) y ∧ KrC G y (at0 l i)) ∧ ∀ i, l.length ≤ i → i < l.length + roomN l.length → ∃ y, elem vs 14 i = ptC ptF y ∧ Kr G y ptF
theorem CqS.sl {G : Heap} {x : Value} {l : List Pt} (h : CqS G x l) : PtS G x l := by
  obtain ⟨b, ver, vs, rfl, hg, hl, h1, h2⟩ := h
  have e1 : l.length * 14 ≤ vs.length := by omega
  refine ⟨vs.take (l.length * 14), ⟨by simp; omega, .inr ⟨b, 0, ver, _, rfl, by omega, by rw [rd_at hg rfl (by simp; omega)]; simp, _, hg, rfl, rfl⟩⟩, fun i hi => ?_⟩
  obtain ⟨y, h3, h4⟩ := h1 i hi
  exact ⟨y, by rw [elem_take hi, h3], h4.sl kysC_length rfl⟩
theorem CqS.pre {H G : Heap} {x : Value} {l : List Pt} (p : Pre H G) (h : CqS H x l) : CqS G x l := by
  obtain ⟨b, ver, vs, rfl, hg, hl, h1, h2⟩ := h
  refine ⟨b, ver, vs, rfl, by rw [p.get (List.getElem?_eq_some_iff.1 hg).1]; exact hg, hl, fun i hi => ?_, fun i hi hi2 => ?_⟩
  · obtain ⟨y, h3, h4⟩ := h1 i hi; exact ⟨y, h3, h4.pre p⟩
  · obtain ⟨y, h3, h4⟩ := h2 i hi hi2; exact ⟨y, h3, h4.pre p⟩
def ky (ks : List Ky) (i : Nat) : Ky := at0 ks i
def kyB (ks : List Ky) (j : Nat) : Bool := ((in1 (ky ks j).1 0 200 && in1 (ky ks j).2.1 (-24) 24) && in1 (ky ks j).2.2 (-24) 24) && (decide (j = 0) || decide ((ky ks (j - 1)).1 < (ky ks j).1))
def okTk (ks : List Ky) : Bool := allN (kyB ks) ks.length && in1 ks.length 1 20
def okPt (s : Pt) : Bool := (okF s.f && okTk s.ks) && in1 s.e 0 3
abbrev KyW (ks : List Ky) : Prop := ∀ k ∈ ks, (-32768 ≤ k.1 ∧ k.1 ≤ 32767) ∧ i8 k.2.1 ∧ i8 k.2.2
/-- A part in memory. -/
structure PtR (H : Heap) (q off ver : Nat) (s : Pt) (y : Value) : Prop where
  rf : rd H q off ver 12 = some (cs .u16 s.f)
  re : rd H q (off + 12) ver 1 = some [.int .i8 s.e]
  ry : rd H q (off + 13) ver 1 = some [y]
  rk : Kr H y s
theorem PtR.of {H : Heap} {q off ver : Nat} {s : Pt} {y : Value} (h : rd H q off ver 14 = some (ptC s y)) (hk : Kr H y s) : PtR H q off ver s y := by
  have hl := s.len
  have g1 := rd_part h (o := 0) (m := 12) (by omega)
  have g2 := rd_part h (o := 12) (m := 1) (by omega)
  have g3 := rd_part h (o := 13) (m := 1) (by omega)
  unfold ptC at g1 g2 g3
  rw [show 12 = 12 + 0 from rfl, ptT_at hl] at g2
  rw [show 13 = 12 + 1 from rfl, ptT_at hl] at g3
  rw [Nat.add_zero, List.drop_zero] at g1
  unfold ptT at g1
  rw [List.take_left' (by simp [hl])] at g1
  exact ⟨g1, g2, g3, hk⟩
theorem PtR.pre {H G : Heap} {q off ver : Nat} {s : Pt} {y : Value} (p : Pre H G) (h : PtR H q off ver s y) : PtR G q off ver s y := ⟨p.rd h.rf, p.rd h.re, p.rd h.ry, SlR.pre p h.rk⟩
structure TkV (ks : List Ky) : Prop where
  n1 : 1 ≤ ks.length
  n20 : ks.length ≤ 20
  r : ∀ i, i < ks.length → (0 ≤ (ky ks i).1 ∧ (ky ks i).1 ≤ 200) ∧ (-24 ≤ (ky ks i).2.1 ∧ (ky ks i).2.1 ≤ 24) ∧ -24 ≤ (ky ks i).2.2 ∧ (ky ks i).2.2 ≤ 24
  s : ∀ i, i + 1 < ks.length → (ky ks i).1 < (ky ks (i + 1)).1
theorem okTk_V {ks : List Ky} (h : okTk ks = true) : TkV ks := by
  simp only [okTk, Bool.and_eq_true] at h
  obtain ⟨h1, h2⟩ := h
  have hl : 1 ≤ ks.length ∧ ks.length ≤ 20 := by simp [in1] at h2; omega
  refine ⟨hl.1, hl.2, fun i hi => ?_, fun i hi => ?_⟩
  · have := allN_get (p := kyB ks) h1 hi
    simp only [kyB, Bool.and_eq_true, in1, decide_eq_true_eq] at this
    exact ⟨this.1.1.1, this.1.1.2, this.1.2⟩
  · have := allN_get (p := kyB ks) h1 hi
    simp only [kyB, Bool.and_eq_true, in1, decide_eq_true_eq, Bool.or_eq_true] at this
    rcases this.2 with h | h
    · omega
    · exact h
theorem PtW.fr {s : Pt} (h : PtW s) : FrW s.f := ⟨s.len, h.ok⟩
theorem bkC_push {l : List (List Int)} {f : List Int} : bkC l ++ cs .u16 f = bkC (l ++ [f]) := by rw [bkC, bkC, rowsC_app]; simp [rowsC, frC]
theorem andI_ok {a b : Int} : u16' (andI a b) := by
  have e0 : IntKind.bits .u16 = 16 := rfl
  unfold andI bitsOf
  simp only []
  have : (BitVec.ofInt (IntKind.bits .u16) a &&& BitVec.ofInt (IntKind.bits .u16) b).toNat < 2 ^ 16 := by rw [e0]; exact BitVec.isLt _
  rw [wrapu16 (by omega)]; omega
theorem andI_row {a b : Int} (ha : u16' a) (hb : u16' b) (h1 : okRow a = true) (h2 : okRow b = true) : okRow (andI a b) = true := by
  obtain ⟨n, rfl⟩ := Int.eq_ofNat_of_zero_le ha.1
  obtain ⟨m, rfl⟩ := Int.eq_ofNat_of_zero_le hb.1
  simp [okRow] at h1 h2 ⊢
  have e0 : IntKind.bits .u16 = 16 := rfl
  unfold andI bitsOf
  simp only []
  have e1 : (BitVec.ofInt (IntKind.bits .u16) (n : Int) &&& BitVec.ofInt (IntKind.bits .u16) (m : Int)).toNat = n &&& m := by
    rw [BitVec.toNat_and, e0, BitVec.ofInt_natCast, BitVec.ofInt_natCast, BitVec.toNat_ofNat, BitVec.toNat_ofNat, Nat.mod_eq_of_lt (show n < 2 ^ 16 by omega), Nat.mod_eq_of_lt (show m < 2 ^ 16 by omega)]
  have e2 : n &&& m < 2 ^ 12 := Nat.and_lt_two_pow n (show m < 2 ^ 12 by omega)
  rw [e1, wrapu16 (by omega)]; omega
theorem PtR.new {H G : Heap} {s : Pt} {y : Value} (h : Kr H y s) (p : Pre (H ++ [⟨ptC s y, 1, 0, false⟩]) G) : PtR G H.length 0 0 s y := by
  have hr : rd (H ++ [(⟨ptC s y, 1, 0, false⟩ : Blk)]) H.length 0 0 14 = some (ptC s y) := rd_last rfl ptC_len
  exact PtR.of (p.rd hr) ((h.pre Pre.one).pre p)
/-- A source: a block of three cells; its bytes are elder. At most k bytes were taken. -/
def srB (x : Value) (i sd : Int) : Blk := ⟨[x, .int .i64 i, .int .u64 sd], 1, 0, false⟩
def Src (G : Heap) (P k : Nat) : Prop := ∃ x bs i sd, G[P]? = some (srB x i sd) ∧ SlR (G.take P) x 1 bs.length (cs .u8 bs) ∧ (∀ b ∈ bs, 0 ≤ b ∧ b ≤ 255) ∧ bs.length ≤ 1000000 ∧ 0 ≤ i ∧ i ≤ k
theorem pre_take {G G' : Heap} {n : Nat} (p : Pre G G') (hn : n ≤ G.length) : G'.take n = G.take n := by
  obtain ⟨L, rfl⟩ := p
  rw [List.take_append_of_le_length hn]
theorem Src.lt {G : Heap} {P k : Nat} (h : Src G P k) : P < G.length := by
  obtain ⟨x, bs, i, sd, h1, _⟩ := h
  exact (List.getElem?_eq_some_iff.1 h1).1
theorem Src.le {G : Heap} {P k k' : Nat} (h : Src G P k) (hk : k ≤ k') : Src G P k' := by
  obtain ⟨x, bs, i, sd, h1, h2, h3, h4, h5, h6⟩ := h
  exact ⟨x, bs, i, sd, h1, h2, h3, h4, h5, by omega⟩
theorem Src.pre {G G' : Heap} {P k : Nat} (p : Pre G G') (h : Src G P k) : Src G' P k := by
  have hl := h.lt
  obtain ⟨x, bs, i, sd, h1, h2, h3⟩ := h
  exact ⟨x, bs, i, sd, by rw [p.get hl]; exact h1, by rw [pre_take p (Nat.le_of_lt hl)]; exact h2, h3⟩
/-- Nothing but the source's block has changed. -/
structure Mv (P : Nat) (G G' : Heap) : Prop where
  len : G'.length = G.length
  get : ∀ j, j ≠ P → G'[j]? = G[j]?
theorem Mv.refl {P : Nat} {G : Heap} : Mv P G G := ⟨rfl, fun _ _ => rfl⟩
theorem Mv.trans {P : Nat} {G G' G'' : Heap} (h : Mv P G G') (h' : Mv P G' G'') : Mv P G G'' := ⟨h'.len.trans h.len, fun j hj => (h'.get j hj).trans (h.get j hj)⟩
theorem Mv.set {P : Nat} {G : Heap} {k : Blk} : Mv P G (G.set P k) := ⟨by simp, fun j hj => List.getElem?_set_ne (Ne.symm hj)⟩
theorem Mv.take {P : Nat} {G G' : Heap} (h : Mv P G G') {n0 : Nat} (hn : n0 ≤ P) : G'.take n0 = G.take n0 := by
  apply List.ext_getElem?
  intro i
  rw [List.getElem?_take, List.getElem?_take]
  split
  · rw [h.get i (by omega)]
  · rfl
theorem Src.mv {P k : Nat} {G G' : Heap} (h : Src G P k) (hP : G'[P]? = G[P]?) (hj : ∀ j, j < P → G'[j]? = G[j]?) : Src G' P k := by
  obtain ⟨x, bs, i, sd, h1, h2, h3⟩ := h
  refine ⟨x, bs, i, sd, by rw [hP]; exact h1, ?_, h3⟩
  have : G'.take P = G.take P := by
    apply List.ext_getElem?
    intro j
    rw [List.getElem?_take, List.getElem?_take]
    split
    · exact hj j ‹_›
    · rfl
  rw [this]; exact h2
theorem Src.take {P k n : Nat} {G : Heap} (h : Src G P k) (hn : P < n) : Src (G.take n) P k :=
  h.mv (by rw [List.getElem?_take, if_pos hn]) fun j hj => by rw [List.getElem?_take, if_pos (by omega)]
theorem orI_ok {a b : Int} : u16' (orI a b) := by
  have e0 : IntKind.bits .u16 = 16 := rfl
  unfold orI bitsOf
  simp only []
  have : (BitVec.ofInt (IntKind.bits .u16) a ||| BitVec.ofInt (IntKind.bits .u16) b).toNat < 2 ^ 16 := by rw [e0]; exact BitVec.isLt _
  rw [wrapu16 (by omega)]; omega
theorem orI_row {a b : Int} (ha : u16' a) (hb : u16' b) (h1 : okRow a = true) (h2 : okRow b = true) : okRow (orI a b) = true := by
  obtain ⟨n, rfl⟩ := Int.eq_ofNat_of_zero_le ha.1
  obtain ⟨m, rfl⟩ := Int.eq_ofNat_of_zero_le hb.1
  simp [okRow] at h1 h2 ⊢
  have e0 : IntKind.bits .u16 = 16 := rfl
  unfold orI bitsOf
  simp only []
  have e1 : (BitVec.ofInt (IntKind.bits .u16) (n : Int) ||| BitVec.ofInt (IntKind.bits .u16) (m : Int)).toNat = n ||| m := by
    rw [BitVec.toNat_or, e0, BitVec.ofInt_natCast, BitVec.ofInt_natCast, BitVec.toNat_ofNat, BitVec.toNat_ofNat, Nat.mod_eq_of_lt (show n < 2 ^ 16 by omega), Nat.mod_eq_of_lt (show m < 2 ^ 16 by omega)]
  have e2 : n ||| m < 2 ^ 12 := Nat.or_lt_two_pow (show n < 2 ^ 12 by omega) (show m < 2 ^ 12 by omega)
  rw [e1, wrapu16 (by omega)]; omega
/-- A valid frame. -/
structure VF (f : List Int) : Prop where
  W : FrW f
  ok : okF f = true
theorem VF.row {f : List Int} (h : VF f) {i : Nat} (hi : i < 12) : u16' (nth f i) ∧ okRow (nth f i) = true := ⟨h.W.nth hi, List.all_eq_true.1 (show f.all okRow = true from h.ok) _ (nth_mem (by rw [h.W.len]; exact hi))⟩
theorem VF.set {f : List Int} {i : Nat} {r : Int} (h : VF f) (hr : u16' r) (ho : okRow r = true) : VF (f.set i r) :=
  ⟨⟨by simp [h.W.len], fun n hn => (List.mem_or_eq_of_mem_set hn).elim (h.W.ok n) (fun e => by rw [e]; exact hr)⟩,
    List.all_eq_true.2 fun n hn => (List.mem_or_eq_of_mem_set hn).elim (fun h1 => List.all_eq_true.1 (show f.all okRow = true from h.ok) n h1) (fun e => by rw [e]; exact ho)⟩
theorem VF.zero : VF (zr 12 0) := ⟨⟨by simp, fun n hn => by simp [zr] at hn; subst hn; exact ⟨by omega, by omega⟩⟩, by decide⟩
/-- In a function that draws: the source and a frame of its own. -/
structure Loc (G G' : Heap) (P k : Nat) (f : List Int) : Prop where
  src : Src G' P k
  fr : G'[G.length]? = some ⟨cs .u16 f, 1, 0, false⟩
  V : VF f
  len : G'.length = G.length + 1
  get : ∀ j, j < G.length → j ≠ P → G'[j]? = G[j]?
  lt : P < G.length
theorem Loc.mv {G G' G'' : Heap} {P k k' : Nat} {f : List Int} (h : Loc G G' P k f) (m : Mv P G' G'') (s : Src G'' P k') : Loc G G'' P k' f := by
  have := h.lt
  exact ⟨s, by rw [m.get _ (by omega)]; exact h.fr, h.V, by rw [m.len]; exact h.len, fun j hj hp => by rw [m.get j hp]; exact h.get j hj hp, h.lt⟩
theorem Loc.le {G G' : Heap} {P k k' : Nat} {f : List Int} (h : Loc G G' P k f) (hk : k ≤ k') : Loc G G' P k' f := ⟨h.src.le hk, h.fr, h.V, h.len, h.get, h.lt⟩
theorem Loc.set {G G' : Heap} {P k : Nat} {f g : List Int} (h : Loc G G' P k f) (hg : VF g) : Loc G (G'.set G.length ⟨cs .u16 g, 1, 0, false⟩) P k g := by
  have := h.lt
  exact ⟨h.src.mv (List.getElem?_set_ne (by omega)) fun j hj => List.getElem?_set_ne (by omega), get_set h.fr, hg, by simp [h.len], fun j hj hp => by rw [List.getElem?_set_ne (by omega)]; exact h.get j hj hp, h.lt⟩
theorem shF_V {f : List Int} {dx dy : Int} : VF (shF f dx dy) := ⟨dotsF_W, dotsF_ok⟩
structure Lo2 (G G' : Heap) (P k : Nat) (x : Value) (L : List (List Int)) (f : List Int) : Prop where
  src : Src G' P k
  ls : ∃ ver, x = slc G.length 0 ver L.length L.length ∧ G'[G.length]? = some ⟨bkC L, 12, ver, false⟩
  VL : ∀ g ∈ L, VF g
  fr : G'[G.length + 1]? = some ⟨cs .u16 f, 1, 0, false⟩
  V : VF f
  len : G.length + 2 ≤ G'.length
  get : ∀ j, j < G.length → j ≠ P → G'[j]? = G[j]?
  lt : P < G.length
theorem Lo2.mv {G G' G'' : Heap} {P k k' : Nat} {x : Value} {L : List (List Int)} {f : List Int} (h : Lo2 G G' P k x L f) (m : Mv P G' G'') (s : Src G'' P k') : Lo2 G G'' P k' x L f := by
  have := h.lt
  exact ⟨s, by obtain ⟨ver, e, g⟩ := h.ls; exact ⟨ver, e, by rw [m.get _ (by omega)]; exact g⟩, h.VL, by rw [m.get _ (by omega)]; exact h.fr, h.V, by rw [m.len]; exact h.len, fun j hj hp => by rw [m.get j hp]; exact h.get j hj hp, h.lt⟩
theorem Lo2.le {G G' : Heap} {P k k' : Nat} {x : Value} {L : List (List Int)} {f : List Int} (h : Lo2 G G' P k x L f) (hk : k ≤ k') : Lo2 G G' P k' x L f := ⟨h.src.le hk, h.ls, h.VL, h.fr, h.V, h.len, h.get, h.lt⟩
theorem Lo2.set {G G' : Heap} {P k : Nat} {x : Value} {L : List (List Int)} {f g : List Int} (h : Lo2 G G' P k x L f) (hg : VF g) : wr G.length true G' (G.length + 1) 0 0 (cs .u16 g) = some (G'.set (G.length + 1) ⟨cs .u16 g, 1, 0, false⟩) ∧ Lo2 G (G'.set (G.length + 1) ⟨cs .u16 g, 1, 0, false⟩) P k x L g := by
  have hl := h.lt
  have hlen := h.len
  have hw := wr_at (n0 := G.length) (wb := true) (off := 0) (vs := cs .u16 g) (ver := 0) h.fr rfl rfl (by simp [may]) (by simp [h.V.W.len, hg.W.len])
  have hsp : splice (cs .u16 f) 0 (cs .u16 g) = cs .u16 g := by
    unfold splice
    rw [List.take_zero, List.nil_append, Nat.zero_add, List.drop_eq_nil_of_le (by simp [h.V.W.len, hg.W.len]), List.append_nil]
  simp only [hsp] at hw
  exact ⟨hw, h.src.mv (List.getElem?_set_ne (by omega)) fun j hj => List.getElem?_set_ne (by omega), by obtain ⟨ver, e, g⟩ := h.ls; exact ⟨ver, e, by rw [List.getElem?_set_ne (by omega)]; exact g⟩, h.VL, get_set h.fr, hg, by simpa using hlen,
    fun j hj hp => by rw [List.getElem?_set_ne (by omega)]; exact h.get j hj hp, hl⟩
theorem vl_size {L : List (List Int)} (h : ∀ g ∈ L, VF g) : (bkC L).length = L.length * 12 := bkC_length fun f hf => (h f hf).W
theorem Lo2.bk {G G' : Heap} {P k : Nat} {x : Value} {L : List (List Int)} {f : List Int} (h : Lo2 G G' P k x L f) : Bk G' x L := by
  obtain ⟨ver, rfl, g⟩ := h.ls
  have hs := vl_size h.VL
  exact ⟨hs, .inr ⟨_, 0, ver, L.length, rfl, Nat.le_refl _, by rw [rd_at g rfl (by simp [hs])]; simp [take_all, hs], _, g, rfl, rfl⟩⟩
theorem Lo2.push {G G' : Heap} {P k : Nat} {x : Value} {L : List (List Int)} {f : List Int} (h : Lo2 G G' P k x L f) (hn : L.length ≤ 1000000) :
    ∃ x' G'', ((srcOf 12 (G' ++ [⟨cs .u16 f, 12, 0, false⟩]) (slc G'.length 0 0 1 1)).bind fun q => appendTo G.length true 12 24 (G' ++ [⟨cs .u16 f, 12, 0, false⟩]) x q.1 q.2) = some (x', G'') ∧ Lo2 G G'' P k x' (L ++ [f]) f := by
  have hl := h.lt
  have hlen := h.len
  have hf := h.V.W.len
  have hs := vl_size h.VL
  have hfr := h.fr
  have hsrc := h.src
  have hget := h.get
  obtain ⟨ver, rfl, g⟩ := h.ls
  have gA : ∀ j, j < G'.length → (G' ++ [(⟨cs .u16 f, 12, 0, false⟩ : Blk)])[j]? = G'[j]? := fun j hj => List.getElem?_append_left hj
  have g' : (G' ++ [(⟨cs .u16 f, 12, 0, false⟩ : Blk)])[G.length]? = some ⟨bkC L, 12, ver, false⟩ := by rw [gA _ (by omega)]; exact g
  have e1 : srcOf 12 (G' ++ [⟨cs .u16 f, 12, 0, false⟩]) (slc G'.length 0 0 1 1) = some (1, cs .u16 f) := by
    show (rd (G' ++ [⟨cs .u16 f, 12, 0, false⟩]) G'.length 0 0 (1 * 12)).map (fun cs => (1, cs)) = _
    rw [Nat.one_mul, rd_last rfl (by simpa using hf)]; rfl
  have e2 : (L ++ [f]).length = L.length + 1 := by simp
  refine ⟨slc G.length 0 (ver + 1) (L.length + 1) (L.length + 1), (G' ++ [(⟨cs .u16 f, 12, 0, false⟩ : Blk)]).set G.length ⟨bkC L ++ cs .u16 f, 12, ver + 1, false⟩, ?_, ?_⟩
  · rw [e1, Option.bind_some]
    exact appendTo_grow g' rfl rfl (by simp [may]) rfl hs.symm (by omega) (room24 (by omega))
  · refine ⟨hsrc.mv (by rw [List.getElem?_set_ne (by omega), gA _ (by omega)]) fun j hj => by rw [List.getElem?_set_ne (by omega), gA _ (by omega)], ⟨ver + 1, by rw [e2], by rw [get_set g', bkC_push]⟩, fun g hg => ?_, by rw [List.getElem?_set_ne (by omega), gA _ (by omega)]; exact hfr, h.V, by simp; omega, fun j hj hp => by rw [List.getElem?_set_ne (by omega), gA _ (by omega)]; exact hget j hj hp, hl⟩
    rcases List.mem_append.1 hg with h1 | h1
    · exact h.VL g h1
    · rw [List.mem_singleton.1 h1]; exact h.V
/-- In a function that draws: the source, and blocks of the call's own behind. -/
structure Lo0 (G G' : Heap) (P k : Nat) : Prop where
  src : Src G' P k
  len : G.length ≤ G'.length
  get : ∀ j, j < G.length → j ≠ P → G'[j]? = G[j]?
  lt : P < G.length
theorem Lo0.mv {G G' G'' : Heap} {P k k' : Nat} (h : Lo0 G G' P k) (m : Mv P G' G'') (s : Src G'' P k') : Lo0 G G'' P k' :=
  ⟨s, by rw [m.len]; exact h.len, fun j hj hp => by rw [m.get j hp]; exact h.get j hj hp, h.lt⟩
theorem Lo0.pre {G G' G'' : Heap} {P k : Nat} (h : Lo0 G G' P k) (p : Pre G' G'') : Lo0 G G'' P k := by
  have h1 := h.len
  exact ⟨h.src.pre p, Nat.le_trans h1 p.len, fun j hj hp => by rw [p.get (by omega)]; exact h.get j hj hp, h.lt⟩
theorem Lo0.le {G G' : Heap} {P k k' : Nat} (h : Lo0 G G' P k) (hk : k ≤ k') : Lo0 G G' P k' := ⟨h.src.le hk, h.len, h.get, h.lt⟩
/-- Valid light. -/
structure VL (l : List Int) : Prop where
  len : l.length = 144
  ok : okAll l = true
theorem VL.set {l : List Int} {i : Nat} {v : Int} (h : VL l) (hv : 0 ≤ v ∧ v ≤ 1000) : VL (l.set i v) :=
  ⟨by simp [h.len], List.all_eq_true.2 fun n hn => (List.mem_or_eq_of_mem_set hn).elim (fun h1 => List.all_eq_true.1 (show l.all okL = true from h.ok) n h1) (fun e => by rw [e]; simpa [okL] using hv)⟩
theorem VL.zero : VL (zr 144 0) := ⟨by simp, by decide⟩
theorem bit_get {n : Nat} {i : Nat} (h : i < 16) : (BitVec.ofInt 16 (n : Int)).getLsbD i = n.testBit i := by
  rw [BitVec.ofInt_natCast, BitVec.getLsbD_ofNat]
  simp [h]
theorem dotB_vec {v : BitVec 16} {i : Nat} : dotB (IntKind.wrap .u16 (v.toNat : Int)) i = v.getLsbD i := by
  have := v.isLt
  rw [wrapu16 (by omega), dotB_bit]
  exact BitVec.testBit_toNat v
theorem and_dot {a b : Int} (ha : u16' a) (hb : u16' b) {i : Nat} (hi : i < 16) : dotB (andI a b) i = (dotB a i && dotB b i) := by
  obtain ⟨n, rfl⟩ := Int.eq_ofNat_of_zero_le ha.1
  obtain ⟨m, rfl⟩ := Int.eq_ofNat_of_zero_le hb.1
  rw [dotB_bit, dotB_bit, ← bit_get hi, ← bit_get hi, ← BitVec.getLsbD_and]
  exact dotB_vec
theorem or_dot {a b : Int} (ha : u16' a) (hb : u16' b) {i : Nat} (hi : i < 16) : dotB (orI a b) i = (dotB a i || dotB b i) := by
  obtain ⟨n, rfl⟩ := Int.eq_ofNat_of_zero_le ha.1
  obtain ⟨m, rfl⟩ := Int.eq_ofNat_of_zero_le hb.1
  rw [dotB_bit, dotB_bit, ← bit_get hi, ← bit_get hi, ← BitVec.getLsbD_or]
  exact dotB_vec
theorem less_dot {a b : Int} (ha : u16' a) (hb : u16' b) {i : Nat} (hi : i < 16) : dotB (lessI a b) i = (dotB a i && !dotB b i) := by
  obtain ⟨n, rfl⟩ := Int.eq_ofNat_of_zero_le ha.1
  obtain ⟨m, rfl⟩ := Int.eq_ofNat_of_zero_le hb.1
  have e1 : (BitVec.ofInt 16 (n : Int) &&& ~~~BitVec.ofInt 16 (m : Int)).getLsbD i = ((BitVec.ofInt 16 (n : Int)).getLsbD i && !(BitVec.ofInt 16 (m : Int)).getLsbD i) := by
    rw [BitVec.getLsbD_and, BitVec.getLsbD_not]; simp [hi]
  rw [dotB_bit, dotB_bit, ← bit_get hi, ← bit_get hi, ← e1]
  exact dotB_vec
theorem hasF_dots {p : Nat → Nat → Bool} {x y : Nat} (hx : x < 12) (hy : y < 12) : hasF (dotsF p) x y = p x y := by
  rw [hasF, dotsF_nth hy, dotB_bit, rowN_bit]; simp [hx]
theorem VF.dots {f : List Int} (h : VF f) : dotsF (hasF f) = f := by
  refine (ext_nth (by rw [dotsF_length, h.W.len]) fun y hy => ?_)
  rw [dotsF_length] at hy
  obtain ⟨n, hn, hlt⟩ := okF_row h.ok h.W hy
  rw [dotsF_nth hy, hn]
  have := rowN_eq (q := fun x => hasF f x y) (n := n) (m := 12) hlt fun x hx => by rw [hasF, hn, dotB_bit]
  rw [← this]
theorem VF.ext {f g : List Int} (hf : VF f) (hg : VF g) (h : ∀ x y, x < 12 → y < 12 → hasF f x y = hasF g x y) : f = g := by
  rw [← hf.dots, ← hg.dots]
  exact dotsF_congr h
theorem mix_and {f g : List Int} (hf : VF f) (hg : VF g) {x y : Nat} (hx : x < 12) (hy : y < 12) : hasF (mixF andI f g) x y = (hasF f x y && hasF g x y) := by
  rw [hasF, mixF, nth_tabN hy]; exact and_dot (hf.row hy).1 (hg.row hy).1 (by omega)
theorem mix_or {f g : List Int} (hf : VF f) (hg : VF g) {x y : Nat} (hx : x < 12) (hy : y < 12) : hasF (mixF orI f g) x y = (hasF f x y || hasF g x y) := by
  rw [hasF, mixF, nth_tabN hy]; exact or_dot (hf.row hy).1 (hg.row hy).1 (by omega)
theorem mix_less {f g : List Int} (hf : VF f) (hg : VF g) {x y : Nat} (hx : x < 12) (hy : y < 12) : hasF (mixF lessI f g) x y = (hasF f x y && !hasF g x y) := by
  rw [hasF, mixF, nth_tabN hy]; exact less_dot (hf.row hy).1 (hg.row hy).1 (by omega)
theorem mixV {op : Int → Int → Int} {f g : List Int} (hf : VF f) (hg : VF g) (h : ∀ a b, u16' a → u16' b → okRow a = true → okRow b = true → u16' (op a b) ∧ okRow (op a b) = true) : VF (mixF op f g) := by
  have key : ∀ i, i < 12 → u16' (nth (mixF op f g) i) ∧ okRow (nth (mixF op f g) i) = true := fun i hi => by
    rw [mixF, nth_tabN hi]
    exact h _ _ (hf.row hi).1 (hg.row hi).1 (hf.row hi).2 (hg.row hi).2
  exact ⟨⟨mixF_length, fun n hn => by obtain ⟨i, hi, rfl⟩ := mem_nth hn; rw [mixF_length] at hi; exact (key i hi).1⟩, okF_true mixF_length fun i hi => (key i hi).2⟩
theorem and_V {f g : List Int} (hf : VF f) (hg : VF g) : VF (mixF andI f g) := mixV hf hg fun _ _ h1 h2 h3 h4 => ⟨andI_ok, andI_row h1 h2 h3 h4⟩
theorem or_V {f g : List Int} (hf : VF f) (hg : VF g) : VF (mixF orI f g) := mixV hf hg fun _ _ h1 h2 h3 h4 => ⟨orI_ok, orI_row h1 h2 h3 h4⟩
theorem less_V {f g : List Int} (hf : VF f) (hg : VF g) : VF (mixF lessI f g) := mixV hf hg fun _ _ h1 h2 h3 _ => ⟨lessI_ok, lessI_row h1 h3⟩
theorem hasF_zero {x y : Nat} (hx : x < 12) (hy : y < 12) : hasF (zr 12 0) x y = false := by rw [← dotsF_none, hasF_dots hx hy]
theorem less_none {f g : List Int} (hf : VF f) (hg : VF g) (h : ∀ x y, x < 12 → y < 12 → hasF f x y = true → hasF g x y = true) : mixF lessI f g = zr 12 0 :=
  (less_V hf hg).ext .zero fun x y hx hy => by
    rw [mix_less hf hg hx hy, hasF_zero hx hy]
    cases h1 : hasF f x y with
    | false => rfl
    | true => rw [h x y hx hy h1]; rfl
/-- A list of bytes in memory. -/
structure By (H : Heap) (x : Value) (bs : List Int) : Prop where
  s : SlR H x 1 bs.length (cs .u8 bs)
  b : ∀ v ∈ bs, 0 ≤ v ∧ v ≤ 255
theorem By.pre {H G : Heap} {x : Value} {bs : List Int} (p : Pre H G) (h : By H x bs) : By G x bs := ⟨h.s.pre p, h.b⟩
theorem g4a {a b c d : Value} : ([a, b, c, d] : List Value)[0]? = some a := rfl
theorem g4b {a b c : Value} : ([a, b, c] : List Value)[0]? = some a := rfl
theorem g4c {a b : Value} : ([a, b] : List Value)[0]? = some a := rfl
theorem g4d {a : Value} : ([a] : List Value)[0]? = some a := rfl
theorem okB_V {b : List (List Int)} (h : ∀ g ∈ b, VF g) (hn : b.length ≤ 40) : okB b = true := by
  have h1 : okFs b = true := List.all_eq_true.2 fun f hf => (h f hf).ok
  simp [okB, h1, hn]
/-- In a function that draws: the source, and a list of the call's own in the first new block. -/
structure LoG (G G' : Heap) (P k : Nat) (x : Value) (esz n : Nat) (vs : List Value) : Prop where
  src : Src G' P k
  ls : ∃ ver, x = slc G.length 0 ver n n ∧ G'[G.length]? = some ⟨vs, esz, ver, false⟩
  size : vs.length = n * esz
  len : G.length + 1 ≤ G'.length
  get : ∀ j, j < G.length → j ≠ P → G'[j]? = G[j]?
  lt : P < G.length
theorem LoG.mv {G G' G'' : Heap} {P k k' esz n : Nat} {x : Value} {vs : List Value} (h : LoG G G' P k x esz n vs) (m : Mv P G' G'') (s : Src G'' P k') : LoG G G'' P k' x esz n vs := by
  have := h.lt
  exact ⟨s, by obtain ⟨ver, e, g⟩ := h.ls; exact ⟨ver, e, by rw [m.get _ (by omega)]; exact g⟩, h.size, by rw [m.len]; exact h.len, fun j hj hp => by rw [m.get j hp]; exact h.get j hj hp, h.lt⟩
theorem LoG.le {G G' : Heap} {P k k' esz n : Nat} {x : Value} {vs : List Value} (h : LoG G G' P k x esz n vs) (hk : k ≤ k') : LoG G G' P k' x esz n vs := ⟨h.src.le hk, h.ls, h.size, h.len, h.get, h.lt⟩
theorem LoG.new {G : Heap} {P k esz : Nat} (h : Src G P k) : LoG G (G ++ [⟨[], esz, 0, false⟩]) P k (slc G.length 0 0 0 0) esz 0 [] :=
  ⟨h.pre Pre.one, ⟨0, rfl, get_last⟩, by simp, by simp, fun j hj _ => Pre.one.get hj, h.lt⟩
theorem LoG.push {G G' : Heap} {P k esz n bytes : Nat} {x : Value} {vs c : List Value} (h : LoG G G' P k x esz n vs) (hc : c.length = esz) (hb : (n + 1) * bytes ≤ roomMax) :
    ∃ x' G'', ((srcOf esz (G' ++ [⟨c, esz, 0, false⟩]) (slc G'.length 0 0 1 1)).bind fun q => appendTo G.length true esz bytes (G' ++ [⟨c, esz, 0, false⟩]) x q.1 q.2) = some (x', G'') ∧ LoG G G'' P k x' esz (n + 1) (vs ++ c) := by
  have hl := h.lt
  have hlen := h.len
  have hsrc := h.src
  have hget := h.get
  have hs := h.size
  obtain ⟨ver, rfl, g⟩ := h.ls
  have gA : ∀ j, j < G'.length → (G' ++ [(⟨c, esz, 0, false⟩ : Blk)])[j]? = G'[j]? := fun j hj => List.getElem?_append_left hj
  have g' : (G' ++ [(⟨c, esz, 0, false⟩ : Blk)])[G.length]? = some ⟨vs, esz, ver, false⟩ := by rw [gA _ (by omega)]; exact g
  have e1 : srcOf esz (G' ++ [⟨c, esz, 0, false⟩]) (slc G'.length 0 0 1 1) = some (1, c) := by
    show (rd (G' ++ [⟨c, esz, 0, false⟩]) G'.length 0 0 (1 * esz)).map (fun cs => (1, cs)) = _
    rw [Nat.one_mul, rd_last rfl (by simpa using hc)]; rfl
  refine ⟨slc G.length 0 (ver + 1) (n + 1) (n + 1), (G' ++ [(⟨c, esz, 0, false⟩ : Blk)]).set G.length ⟨vs ++ c, esz, ver + 1, false⟩, ?_, ?_⟩
  · rw [e1, Option.bind_some]
    exact appendTo_grow g' rfl rfl (by simp [may]) rfl hs.symm (by omega) hb
  · exact ⟨hsrc.mv (by rw [List.getElem?_set_ne (by omega), gA _ (by omega)]) fun j hj => by rw [List.getElem?_set_ne (by omega), gA _ (by omega)], ⟨ver + 1, rfl, get_set g'⟩, by simp [hs, hc, Nat.succ_mul], by simp; omega,
      fun j hj hp => by rw [List.getElem?_set_ne (by omega), gA _ (by omega)]; exact hget j hj hp, hl⟩
/-- Keys of a drawn track: all behind one another, ahead of t. -/
structure KG (ks : List Ky) (t : Int) : Prop where
  r : ∀ i, i < ks.length → (0 ≤ (ky ks i).1 ∧ (ky ks i).1 < t) ∧ (-6 ≤ (ky ks i).2.1 ∧ (ky ks i).2.1 ≤ 6) ∧ -6 ≤ (ky ks i).2.2 ∧ (ky ks i).2.2 ≤ 6
  s : ∀ i, i + 1 < ks.length → (ky ks i).1 < (ky ks (i + 1)).1
theorem ky_push {ks : List Ky} {k : Ky} {i : Nat} : ky (ks ++ [k]) i = if i < ks.length then ky ks i else if i = ks.length then k else default := by
  unfold ky at0
  rw [List.getD_eq_getElem?_getD, List.getElem?_append]
  split
  · rw [List.getD_eq_getElem?_getD]
  · rename_i h
    split
    · rename_i h2; subst h2; simp
    · rw [List.getElem?_eq_none (by simp; omega)]; rfl
theorem KG.push {ks : List Ky} {t t' a b : Int} (h : KG ks t) (ht : 0 ≤ t) (htt : t < t') (ha : -6 ≤ a ∧ a ≤ 6) (hb : -6 ≤ b ∧ b ≤ 6) : KG (ks ++ [(t, a, b)]) t' := by
  refine ⟨fun i hi => ?_, fun i hi => ?_⟩
  · have hi : i < ks.length + 1 := by simpa using hi
    rw [ky_push]
    by_cases h1 : i < ks.length
    · rw [if_pos h1]; have := h.r i h1; exact ⟨by omega, this.2⟩
    · rw [if_neg h1, if_pos (by omega)]; exact ⟨⟨ht, htt⟩, ha, hb⟩
  · have hi : i + 1 < ks.length + 1 := by simpa using hi
    rw [ky_push, ky_push, if_pos (by omega)]
    by_cases h1 : i + 1 < ks.length
    · rw [if_pos h1]; exact h.s i h1
    · rw [if_neg h1, if_pos (by omega)]; exact (h.r i (by omega)).1.2
/-- A drawn track. -/
structure DT (ks : List Ky) : Prop where
  n1 : 1 ≤ ks.length
  n5 : ks.length ≤ 5
  ok : okTk ks = true
/-- A drawn part. -/
structure DP (s : Pt) : Prop where
  f : VF s.f
  e : 0 ≤ s.e ∧ s.e ≤ 3
  ks : DT s.ks
theorem DT.W {ks : List Ky} (h : DT ks) : KyW ks := fun k hk => by
  have V := okTk_V h.ok
  obtain ⟨i, hi, rfl⟩ := List.getElem_of_mem hk
  have := V.r i hi
  have e : ky ks i = ks[i] := Option.some.inj ((at0_get hi).symm.trans (List.getElem?_eq_getElem hi))
  rw [e] at this
  exact ⟨by omega, ⟨by omega, by omega⟩, ⟨by omega, by omega⟩⟩
theorem DP.ok {s : Pt} (h : DP s) : okPt s = true := by
  have := h.e
  simp [okPt, h.f.ok, h.ks.ok, in1, this]
theorem DP.W {s : Pt} (h : DP s) : PtW s := ⟨h.f.W.ok, ⟨by have := h.e; omega, by have := h.e; omega⟩, h.ks.W⟩
theorem call323 {pu : Bool} {G : Heap} {x y : Value} {b : List (List Int)} (hx : Bk G x b) (hy : Bk G y b) (hw : ∀ f ∈ b, f.length = 12) (hn : b.length ≤ 1000000) (hbw : BkW b) : Call tab pu 323 [x, y] G = some (.bool true, G) := by
  refine Call_wp t323 (.inr rfl) rfl ?_
  simp [c323, k323, hx.lenV, hy.lenV]
  refine WP_forH 5 b.length _ rfl (by omega) (fun i e => e 0 = x ∧ e 1 = y) ?_ ?_ (by simp) (by simp)
  · rintro i e hi hii e4 h5 ⟨h0, h1⟩
    obtain ⟨q, off, ver, ha, hr⟩ := Bk.get hx hbw hi
    obtain ⟨q', off', ver', ha', hr'⟩ := Bk.get hy hbw hi
    have hl := (hbw.fr hi).len
    have q1 := eqV_iv (k := .u16) hl hl
    simp [b323_1, h5, h0, h1, hii, hx.lenV, ha, hr, ha', hr', agg_cs, q1, e4]
  · rintro e h5 ⟨h0, h1⟩
    simp [b323_1, h5, h0, hx.lenV]
theorem call91 {pu : Bool} {G : Heap} {x y : Value} {b : List (List Int)} (hx : Bk G x b) (hy : Bk G y b) (hn : b.length ≤ 1000000) (hbw : BkW b) : Call tab pu 91 [x, y] G = some (.bool true, G) := by
  refine Call_wp t91 (.inr rfl) rfl ?_
  simp [c91, k91, call323 hx hy (fun f hf => (hbw f hf).len) hn hbw]
def lpD (b : List (List Int)) (n i : Nat) : Int := difF (fr b (i + n - 1)) (fr b i)
/-- The best of what was visited. -/
def LpI (b : List (List Int)) (o : Lp) (S : Nat → Nat → Prop) : Prop := match o with
  | none => ∀ n i, ¬ S n i
  | some (f, c, j) => S c f ∧ j = lpD b c f ∧ ∀ n i, S n i → j ≤ lpD b n i ∧ (lpD b n i = j → n < c ∨ (n = c ∧ f ≤ i))
theorem LpI.step {b : List (List Int)} {o : Lp} {S S' : Nat → Nat → Prop} {n i : Nat} (h : LpI b o S) (hS : ∀ n' i', S' n' i' ↔ S n' i' ∨ (n' = n ∧ i' = i)) (ho : ∀ n' i', S n' i' → n < n' ∨ (n = n' ∧ i' < i)) : LpI b (stepL b n i o) S' := by
  cases o with
  | none =>
    refine ⟨(hS n i).2 (.inr ⟨rfl, rfl⟩), rfl, fun n' i' hs => ?_⟩
    rcases (hS n' i').1 hs with h1 | ⟨rfl, rfl⟩
    · exact absurd h1 (h n' i')
    · exact ⟨Int.le_refl _, fun _ => .inr ⟨rfl, Nat.le_refl _⟩⟩
  | some q =>
    obtain ⟨f, c, j⟩ := q
    obtain ⟨h1, h2, h3⟩ := h
    show LpI b (if lpD b n i < j then some (i, n, lpD b n i) else some (f, c, j)) S'
    split
    · rename_i hlt
      refine ⟨(hS n i).2 (.inr ⟨rfl, rfl⟩), rfl, fun n' i' hs => ?_⟩
      rcases (hS n' i').1 hs with h4 | ⟨rfl, rfl⟩
      · have := (h3 n' i' h4).1
        exact ⟨by omega, fun he => by omega⟩
      · exact ⟨Int.le_refl _, fun _ => .inr ⟨rfl, Nat.le_refl _⟩⟩
    · rename_i hge
      refine ⟨(hS c f).2 (.inl h1), h2, fun n' i' hs => ?_⟩
      rcases (hS n' i').1 hs with h4 | ⟨rfl, rfl⟩
      · exact h3 n' i' h4
      · refine ⟨by omega, fun _ => ?_⟩
        rcases ho c f h1 with h5 | h5
        · exact .inl h5
        · exact .inr ⟨h5.1, by omega⟩
theorem LpI.congr {b : List (List Int)} {o : Lp} {S S' : Nat → Nat → Prop} (h : LpI b o S) (hS : ∀ n i, S' n i ↔ S n i) : LpI b o S' := by
  have : S' = S := funext fun n => funext fun i => propext (hS n i)
  rw [this]; exact h
theorem allL_I {b : List (List Int)} {k : Nat} (hk : k ≤ b.length) : LpI b (allL b k) fun n i => b.length - k < n ∧ i + n ≤ b.length := by
  induction k with
  | zero => rw [allL_zero]; intro n i h; omega
  | succ k ih =>
    have ih := ih (by omega)
    have row : ∀ i, i ≤ k + 1 → LpI b (rowL b (b.length - k) (allL b k) i) fun n i' => (b.length - k < n ∧ i' + n ≤ b.length) ∨ (n = b.length - k ∧ i' < i) := by
      intro i
      induction i with
      | zero => intro _; rw [rowL_zero]; exact ih.congr fun n i => ⟨fun h => h.elim id fun h => by omega, .inl⟩
      | succ i ih2 =>
        intro hi
        rw [rowL_succ]
        refine (ih2 (by omega)).step (fun n' i' => ?_) fun n' i' h => ?_
        · constructor
          · rintro (h | h)
            · exact .inl (.inl h)
            · by_cases hii : i' < i
              · exact .inl (.inr ⟨h.1, hii⟩)
              · exact .inr ⟨h.1, by omega⟩
          · rintro ((h | h) | h)
            · exact .inl h
            · exact .inr ⟨h.1, by omega⟩
            · exact .inr ⟨h.1, by omega⟩
        · rcases h with h | h
          · exact .inl h.1
          · exact .inr ⟨h.1.symm, h.2⟩
    rw [allL_succ]
    refine (row (k + 1) (Nat.le_refl _)).congr fun n i => ?_
    constructor
    · rintro ⟨h1, h2⟩
      by_cases hn : b.length - k < n
      · exact .inl ⟨hn, h2⟩
      · exact .inr ⟨by omega, by omega⟩
    · rintro (h | h)
      · exact ⟨by omega, h.2⟩
      · exact ⟨by omega, by omega⟩
theorem best_loop {b : List (List Int)} {least : Nat} (h1 : 1 ≤ least) (h2 : least ≤ b.length) : ∃ f c j, allL b (b.length - least + 1) = some (f, c, j) ∧ least ≤ c ∧ f + c ≤ b.length ∧ j = lpD b c f ∧
    ∀ n i, least ≤ n → i + n ≤ b.length → j ≤ lpD b n i ∧ (lpD b n i = j → n < c ∨ (n = c ∧ f ≤ i)) := by
  obtain ⟨f, c, j, h⟩ := allL_some (b := b) (k := b.length - least)
  have I := allL_I (b := b) (k := b.length - least + 1) (by omega)
  rw [h] at I
  obtain ⟨i1, i2, i3⟩ := I
  exact ⟨f, c, j, h, by omega, i1.2, i2, fun n i hn hi => i3 n i ⟨by omega, hi⟩⟩
theorem least_of {P : Nat → Bool} {n : Nat} : (∃ i, i < n ∧ P i = true) → ∃ i, i < n ∧ P i = true ∧ ∀ j, j < i → P j = false := by
  induction n with
  | zero => rintro ⟨i, h, _⟩; omega
  | succ n ih =>
    rintro ⟨i, hi, hp⟩
    by_cases h : ∃ i, i < n ∧ P i = true
    · obtain ⟨i, h1, h2, h3⟩ := ih h
      exact ⟨i, by omega, h2, h3⟩
    · have hin : i = n := by
        by_cases hin : i < n
        · exact absurd ⟨i, hin, hp⟩ h
        · omega
      subst hin
      refine ⟨i, by omega, hp, fun j hj => ?_⟩
      cases hh : P j with
      | false => rfl
      | true => exact absurd ⟨j, hj, hh⟩ h
theorem fr_app {a b : List (List Int)} {i : Nat} : fr (a ++ b) i = if i < a.length then fr a i else fr b (i - a.length) := by
  unfold fr at0
  rw [List.getD_eq_getElem?_getD, List.getElem?_append]
  split
  · rw [List.getD_eq_getElem?_getD]
  · rw [List.getD_eq_getElem?_getD]
theorem mv_app {l : ML} {a : Int × Int} {i : Nat} : mv (l ++ [a]) i = if i < l.length then mv l i else if i = l.length then a else default := by
  unfold mv at0
  rw [List.getD_eq_getElem?_getD, List.getElem?_append]
  split
  · rw [List.getD_eq_getElem?_getD]
  · rename_i h
    split
    · rename_i h2; subst h2; simp
    · rw [List.getElem?_eq_none (by simp; omega)]; rfl
theorem nth_snoc {l : List Int} {a : Int} {i : Nat} (hi : i < l.length + 1) : nth (l ++ [a]) i = if i < l.length then nth l i else a := by
  unfold nth
  rw [List.getD_eq_getElem?_getD, List.getElem?_append]
  split
  · rw [List.getD_eq_getElem?_getD]
  · rw [show i - l.length = 0 by omega]; rfl
theorem call125 {pu : Bool} {H : Heap} {a b : List Int} (ha : VF a) (hb : VF b) : Call tab pu 125 [iv .u16 a, iv .u16 b] H = some (tup [.int .i64 (difF a b), .int .i64 0], H) := by
  refine Call_wp t125 (.inr rfl) rfl ?_
  have hc := two351 (H := H) ha.W hb.W
  obtain ⟨G, hG⟩ : ∃ G, G = H ++ [(⟨bkC [a, b], 12, 0, false⟩ : Blk)] := ⟨_, rfl⟩
  have p1 : Pre H G := by rw [hG]; exact Pre.one
  rw [← hG, ha.ok, hb.ok] at hc
  have hf := fill_two ha.W.len hb.W.len
  simp [c125, k125, ha.W.len, hb.W.len, zs_cs, hf, ← hG, hc, call324 ha.W hb.W ha.ok hb.ok, p1.take]
/-- What is left of a text behind some of its parts. -/
def tailC : Nat → Cd → Cd
  | 0, c => c
  | n + 1, .seq _ b => tailC n b
  | _, c => c
structure C1 (G : Heap) (x cx l1 l2 l3 : Value) (b c : List (List Int)) (frm : Nat) : Prop where
  bk : Bk G x b
  ck : Bk G cx c
  Vb : ∀ f ∈ b, VF f
  nb : b.length ≤ 1000
  c1 : 1 ≤ c.length
  cb : frm + c.length ≤ b.length
  sub : ∀ i, i < c.length → fr c i = fr b (frm + i)
  s1 : SlR G l1 1 (mcK b c 0 (mcN b c)).1.length (cs .i64 (mcK b c 0 (mcN b c)).1)
  s2 : SlR G l2 1 (mcK b c 1 (mcN b c)).1.length (cs .i64 (mcK b c 1 (mcN b c)).1)
  s3 : SlR G l3 2 (mcK b c 1 (mcN b c)).1.length (mvsC (mcK b c 1 (mcN b c)).2)
theorem C1.V {G : Heap} {x cx l1 l2 l3 : Value} {b c : List (List Int)} {frm : Nat} (h : C1 G x cx l1 l2 l3 b c frm) {i : Nat} (hi : i < c.length) : VF (fr c i) := by
  rw [h.sub i hi]
  have := h.cb
  exact h.Vb _ (at0_mem (by omega))
theorem bk_of {G : Heap} {F ver n cap : Nat} {L : List (List Int)} (hg : G[F]? = some ⟨bkC L, 12, ver, false⟩) (hV : ∀ f ∈ L, VF f) (hn : L.length = n) (hc : n ≤ cap) : Bk G (slc F 0 ver n cap) L := by
  subst hn
  have hs := vl_size hV
  exact ⟨hs, .inr ⟨F, 0, ver, cap, rfl, hc, by rw [rd_at hg rfl (by simp [hs])]; simp [take_all, hs], _, hg, rfl, rfl⟩⟩
/-- What the walk knows all along. -/
structure K17 (H G : Heap) (x y : Value) (b : List (List Int)) (bs : List Int) (tw : Bool) (pv : Int) : Prop where
  P : Pre H G
  by' : By G y bs
  bk : Bk G x b
  V : ∀ f ∈ b, VF f
  nb : b.length ≤ 40
  tw' : tw = true → ∃ L, b = L ++ L
  pv' : 1 ≤ b.length → pv = findN (perP b) (b.length + 1)
theorem K17.pre {H G G' : Heap} {x y : Value} {b : List (List Int)} {bs : List Int} {tw : Bool} {pv : Int} (h : K17 H G x y b bs tw pv) (p : Pre G G') : K17 H G' x y b bs tw pv := ⟨h.P.trans p, h.by'.pre p, h.bk.pre p, h.V, h.nb, h.tw', h.pv'⟩
/-- A text with another one behind some of its parts. -/
def headC : Nat → Cd → Cd → Cd
  | 0, _, t => t
  | n + 1, .seq a b, t => .seq a (headC n b t)
  | _, c, _ => c
/-- The distinct pages among the first k, and where each one stands. -/
def dsS (b : List (List Int)) (k : Nat) (s : List (List Int) × List Int) : List (List Int) × List Int :=
  if 0 ≤ findN (fun j => decide (fr b k = fr s.1 j)) s.1.length then (s.1, s.2 ++ [findN (fun j => decide (fr b k = fr s.1 j)) s.1.length]) else (s.1 ++ [fr b k], s.2 ++ [(s.1.length : Int)])
def dsL (b : List (List Int)) (k : Nat) : List (List Int) × List Int := itN (dsS b) ([], []) k
theorem dsL_zero {b : List (List Int)} : dsL b 0 = ([], []) := itN_zero
theorem dsL_succ {b : List (List Int)} {k : Nat} : dsL b (k + 1) = dsS b k (dsL b k) := itN_succ
/-- What is true of them. -/
structure DsI (b : List (List Int)) (k : Nat) (s : List (List Int) × List Int) : Prop where
  l2 : s.2.length = k
  l1 : s.1.length ≤ k
  at' : ∀ i, i < k → ∃ j : Nat, nth s.2 i = j ∧ j < s.1.length ∧ fr s.1 j = fr b i
  has : ∀ j, j < s.1.length → ∃ i, i < k ∧ fr s.1 j = fr b i
  one : ∀ i j, i < s.1.length → j < s.1.length → fr s.1 i = fr s.1 j → i = j
theorem fr_snoc {l : List (List Int)} {f : List Int} {i : Nat} (h : i < l.length + 1) : fr (l ++ [f]) i = if i < l.length then fr l i else f := by
  rw [fr_app]
  split
  · rfl
  · rw [show i - l.length = 0 by omega]; rfl
theorem findN_get {p : Nat → Bool} {n : Nat} (h : 0 ≤ findN p n) : ∃ j : Nat, findN p n = j ∧ j < n ∧ p j = true := by
  have h' : decide (0 ≤ findN p n) = true := decide_eq_true h
  rw [findN_ge] at h'
  unfold anyN at h'
  obtain ⟨i, hi, hp⟩ := List.any_eq_true.1 h'
  obtain ⟨j, j1, j2, j3⟩ := least_of (P := p) (n := n) ⟨i, by simpa using hi, hp⟩
  exact ⟨j, findN_some j1 j3 j2, j1, j2⟩
theorem findN_neg {p : Nat → Bool} {n : Nat} (h : ¬ 0 ≤ findN p n) {j : Nat} (hj : j < n) : p j = false := by
  cases hp : p j with
  | false => rfl
  | true =>
    have h' : decide (0 ≤ findN p n) = false := decide_eq_false h
    rw [findN_ge] at h'
    have : anyN p n = true := List.any_eq_true.2 ⟨j, by simpa using hj, hp⟩
    rw [this] at h'; cases h'
theorem dsL_I {b : List (List Int)} {k : Nat} : DsI b k (dsL b k) := by
  induction k with
  | zero =>
    rw [dsL_zero]
    exact ⟨rfl, Nat.le_refl _, fun i hi => by omega, fun j hj => by simp at hj, fun i j hi => by simp at hi⟩
  | succ k ih =>
    obtain ⟨h1, h2, h3, h4, h5⟩ := ih
    rw [dsL_succ]
    generalize dsL b k = s at *
    unfold dsS
    split
    · rename_i h
      obtain ⟨m, e1, e2, e3⟩ := findN_get h
      have e3 := of_decide_eq_true e3
      rw [e1]
      refine ⟨by simp [h1], by simp only []; omega, fun i hi => ?_, fun j hj => ?_, h5⟩
      · simp only [nth_snoc (show i < s.2.length + 1 by omega), h1]
        by_cases hik : i < k
        · rw [if_pos hik]; exact h3 i hik
        · rw [if_neg hik]
          have : i = k := by omega
          subst this
          exact ⟨m, rfl, e2, e3.symm⟩
      · obtain ⟨i, i1, i2⟩ := h4 j hj
        exact ⟨i, by omega, i2⟩
    · rename_i h
      refine ⟨by simp [h1], by simp; omega, fun i hi => ?_, fun j hj => ?_, fun i j hi hj he => ?_⟩
      · simp only [nth_snoc (show i < s.2.length + 1 by omega), h1, List.length_append, List.length_singleton]
        by_cases hik : i < k
        · rw [if_pos hik]
          obtain ⟨j, j1, j2, j3⟩ := h3 i hik
          exact ⟨j, j1, by omega, by rw [fr_snoc (by omega), if_pos j2]; exact j3⟩
        · rw [if_neg hik]
          have : i = k := by omega
          subst this
          exact ⟨s.1.length, rfl, by omega, by rw [fr_snoc (by omega), if_neg (by omega)]⟩
      · have hj : j < s.1.length + 1 := by simpa using hj
        simp only [fr_snoc hj]
        by_cases hjk : j < s.1.length
        · rw [if_pos hjk]
          obtain ⟨i, i1, i2⟩ := h4 j hjk
          exact ⟨i, by omega, i2⟩
        · rw [if_neg hjk]; exact ⟨k, by omega, rfl⟩
      · have hi : i < s.1.length + 1 := by simpa using hi
        have hj : j < s.1.length + 1 := by simpa using hj
        simp only [fr_snoc hi, fr_snoc hj] at he
        by_cases hik : i < s.1.length
        · by_cases hjk : j < s.1.length
          · rw [if_pos hik, if_pos hjk] at he; exact h5 i j hik hjk he
          · rw [if_pos hik, if_neg hjk] at he
            have := of_decide_eq_false (findN_neg h hik)
            exact absurd he.symm this
        · by_cases hjk : j < s.1.length
          · rw [if_neg hik, if_pos hjk] at he
            have := of_decide_eq_false (findN_neg h hjk)
            exact absurd he this
          · omega
theorem dsL_V {b : List (List Int)} (hV : ∀ f ∈ b, VF f) {k : Nat} (hk : k ≤ b.length) : ∀ f ∈ (dsL b k).1, VF f := fun f hf => by
  obtain ⟨j, hj, rfl⟩ := List.getElem_of_mem hf
  obtain ⟨i, i1, i2⟩ := (dsL_I (b := b) (k := k)).has j hj
  have e : fr (dsL b k).1 j = (dsL b k).1[j] := Option.some.inj ((at0_get hj).symm.trans (List.getElem?_eq_getElem hj))
  rw [← e, i2]
  exact hV _ (at0_mem (by omega))
/- The walk. -/
theorem call491 {pu : Bool} {G : Heap} {x : Value} {D : List (List Int)} {f : List Int} (h : Bk G x D) (hw : BkW D) (hf : f.length = 12) (hn : D.length ≤ 1000000) : Call tab pu 491 [x, iv .u16 f] G = some (.int .i64 (findN (fun j => decide (f = fr D j)) D.length), G) := by
  refine Call_wp t491 (.inr rfl) rfl ?_
  simp [c491, k491, h.lenV]
  refine WP_forH 8 D.length D.length rfl (by omega) (fun i e => e 0 = x ∧ e 3 = iv .u16 f ∧ e 7 = .int .i64 D.length ∧ ∀ j, j < i → decide (f = fr D j) = false) ?_ ?_ (by simp) ⟨by simp, by simp, by simp, fun j hj => by omega⟩
  · rintro i e hi hii e9 h8 ⟨h0, h3, h7, hj⟩
    obtain ⟨q, off, ver, ha, hr⟩ := Bk.get h hw hi
    have hl := (hw.fr hi).len
    have q1 := eqV_iv (k := .u16) hf hl
    cases hd : decide (f = fr D i) with
    | true =>
      rw [hd] at q1
      have e1 := findN_some (p := fun j => decide (f = fr D j)) hi hj hd
      simp [b491_1, h8, h0, h3, h7, hii, ha, hr, agg_cs, hf, q1, e1]
    | false =>
      rw [hd] at q1
      simp [b491_1, h8, h0, h3, h7, hii, ha, hr, agg_cs, hf, q1, e9]
      intro j hji
      by_cases hj2 : j < i
      · exact of_decide_eq_false (hj j hj2)
      · rw [show j = i by omega]; exact of_decide_eq_false hd
  · rintro e h8 ⟨h0, h3, h7, hj⟩
    have e1 := findN_none (p := fun j => decide (f = fr D j)) hj
    simp [b491_1, h8, h7, e1]
theorem fin_pair {H G : Heap} {b1 b2 : Nat} {x y : Value} {e1 e2 n1 n2 : Nat} {vs ws : List Value} (g1 : GrB H G b1 x e1 n1 vs) (g2 : GrB H G b2 y e2 n2 ws) (hne : b1 ≠ b2) (h1 : NoRef vs) (h2 : NoRef ws) :
    finish H.length G [x, y] = (tup [slc H.length 0 0 n1 n1, slc (H.length + 1) 0 0 n2 n2], H ++ [⟨vs, e1, 0, false⟩, ⟨ws, e2, 0, false⟩]) := by
  obtain ⟨v1, rfl, q1, l1, z1, p1⟩ := g1
  obtain ⟨v2, rfl, q2, l2, z2, _⟩ := g2
  have o1 : old1 H.length (slc b1 0 v1 n1 n1) = false := by
    show (true && decide (b1 < H.length)) = false
    simp; omega
  have o2 : old1 H.length (slc b2 0 v2 n2 n2) = false := by
    show (true && decide (b2 < H.length)) = false
    simp; omega
  have a1 : vs.all (old0 H.length) = true := h1.all
  have a2 : ws.all (old0 H.length) = true := h2.all
  have hc : ([b1] : List Nat).contains b2 = false := by
    rw [List.contains_eq_mem]; simp; exact Ne.symm hne
  have s2 : pack H.length G [slc b2 0 v2 n2 n2] [b1] [⟨vs, e1, 0, false⟩] = some ([slc (H.length + 1) 0 0 n2 n2], [⟨vs, e1, 0, false⟩, ⟨ws, e2, 0, false⟩]) := by
    rw [pack, if_neg (by rw [o2]; decide)]
    show (match G[b2]? with
      | some k => if ([b1] : List Nat).contains b2 = false ∧ v2 = k.ver ∧ k.ro = false ∧ k.cells.all (old0 H.length) = true then (pack H.length G [] (b2 :: [b1]) ([(⟨vs, e1, 0, false⟩ : Blk)] ++ [{ k with ver := 0 }])).map fun (q : List Value × List Blk) => (slc (H.length + ([(⟨vs, e1, 0, false⟩ : Blk)] : List Blk).length) 0 0 n2 n2 :: q.1, q.2) else none
      | none => none) = _
    rw [q2]
    simp only []
    rw [if_pos ⟨hc, by simp, by simp, a2⟩]; rfl
  have s1 : pack H.length G [slc b1 0 v1 n1 n1, slc b2 0 v2 n2 n2] [] [] = some ([slc H.length 0 0 n1 n1, slc (H.length + 1) 0 0 n2 n2], [⟨vs, e1, 0, false⟩, ⟨ws, e2, 0, false⟩]) := by
    rw [pack, if_neg (by rw [o1]; decide)]
    show (match G[b1]? with
      | some k => if ([] : List Nat).contains b1 = false ∧ v1 = k.ver ∧ k.ro = false ∧ k.cells.all (old0 H.length) = true then (pack H.length G [slc b2 0 v2 n2 n2] (b1 :: []) ([] ++ [{ k with ver := 0 }])).map fun (q : List Value × List Blk) => (slc (H.length + ([] : List Blk).length) 0 0 n1 n1 :: q.1, q.2) else none
      | none => none) = _
    rw [q1]
    simp only []
    rw [if_pos ⟨by simp, by simp, by simp, a1⟩]
    show (pack H.length G [slc b2 0 v2 n2 n2] [b1] [⟨vs, e1, 0, false⟩]).map _ = _
    rw [s2]; rfl
  rw [finish_some s1, p1.take]; rfl
theorem grB_bk {H G : Heap} {F : Nat} {x : Value} {D : List (List Int)} (g : GrB H G F x 12 D.length (bkC D)) (hV : ∀ f ∈ D, VF f) : Bk G x D := by
  obtain ⟨ver, rfl, h1, _⟩ := g
  exact bk_of h1 hV rfl (Nat.le_refl _)
def dsV (N : Nat) (b : List (List Int)) : Value := tup [slc N 0 0 (dsL b b.length).1.length (dsL b b.length).1.length, slc (N + 1) 0 0 b.length b.length]
def dsH (H : Heap) (b : List (List Int)) : Heap := H ++ [⟨bkC (dsL b b.length).1, 12, 0, false⟩, ⟨cs .i64 (dsL b b.length).2, 1, 0, false⟩]
theorem call317 {pu : Bool} {H : Heap} {x : Value} {b : List (List Int)} (h : Bk H x b) (hV : ∀ f ∈ b, VF f) (hn : b.length ≤ 1000) : Call tab pu 317 [x] H = some (dsV H.length b, dsH H b) := by
  have hw : BkW b := fun f hf => (hV f hf).W
  refine Call_wp t317 (.inr rfl) rfl ?_
  have hf0 : fill (rep 0 (cs .u16 (zr 12 0))) [] = some [] := rfl
  have hf1 : fill (rep 0 [.int .i64 0]) [] = some [] := rfl
  obtain ⟨G1, hG1⟩ : ∃ G1, G1 = H ++ [(⟨[], 12, 0, false⟩ : Blk)] := ⟨_, rfl⟩
  obtain ⟨G2, hG2⟩ : ∃ G2, G2 = G1 ++ [(⟨[], 1, 0, false⟩ : Blk)] := ⟨_, rfl⟩
  have p1 : Pre H G1 := by rw [hG1]; exact Pre.one
  have p2 : Pre G1 G2 := by rw [hG2]; exact Pre.one
  have l1 : G1.length = H.length + 1 := by rw [hG1]; simp
  have z1 : GrB H G2 H.length (slc H.length 0 0 0 0) 12 0 (bkC []) := GrB.mk' (by rw [p2.get (by omega), hG1]; exact get_last) (Nat.le_refl _) (p1.trans p2)
  have z2 : GrB H G2 (H.length + 1) (slc (H.length + 1) 0 0 0 0) 1 0 (cs .i64 []) := GrB.mk' (by rw [hG2, ← l1]; exact get_last) (by omega) (p1.trans p2)
  simp [c317, k317, hf0, hf1, zs_cs, ← hG1, ← hG2, l1, h.lenV]
  refine WP_count 13 b.length b.length rfl (fun i e G => e 11 = x ∧ e 12 = .int .i64 b.length ∧ ∃ x4 x5, e 4 = x4 ∧ e 5 = x5 ∧ GrB H G H.length x4 12 (dsL b i).1.length (bkC (dsL b i).1) ∧ GrB H G (H.length + 1) x5 1 i (cs .i64 (dsL b i).2)) (by omega) ?_ ?_ (by simp)
    ⟨by simp, by simp, _, _, by simp; rfl, by simp; rfl, by rw [dsL_zero]; exact z1, by rw [dsL_zero]; exact z2⟩
  · rintro i e G _ hi hii e14 h13 ⟨h11, h12, x4, x5, h4, h5, g1, g2⟩
    have I := dsL_I (b := b) (k := i)
    have VD := dsL_V hV (k := i) (by omega)
    obtain ⟨q, off, ver, ha, hr⟩ := Bk.get (h.pre g1.pr) hw hi
    have hl := (hw.fr hi).len
    have s1 := stc_zr (k := .u16) (n := 12) (l := fr b i) hl
    have dk := grB_bk g1 VD
    have c1 := call491 (pu := true) dk (fun f hf => (VD f hf).W) hl (by have := I.l1; omega)
    have hs := dsL_succ (b := b) (k := i)
    have hd1 := I.l1
    have hd2 := I.l2
    generalize hD : dsL b i = s at *
    obtain ⟨m, hm⟩ : ∃ m, m = findN (fun j => decide (fr b i = fr s.1 j)) s.1.length := ⟨_, rfl⟩
    rw [← hm] at c1
    by_cases hneg : m < 0
    · have hge : ¬ 0 ≤ m := by omega
      unfold dsS at hs
      rw [← hm, if_neg hge] at hs
      obtain ⟨x4', G3, c2, g3, kp⟩ := g1.push (c := cs .u16 (fr b i)) (bytes := 24) (by simp [hl]) (room24 (by omega)) (wb := false)
      have g4 := g2.kept (kp _ (by omega) g2.ltG) g3.pr
      obtain ⟨x5', G4, c3, g5, kp2⟩ := g4.push (c := [.int .i64 (s.1.length : Int)]) (bytes := 8) rfl (room8 (by omega)) (wb := false)
      have g6 := g3.kept (kp2 _ (by omega) g3.ltG) g5.pr
      rw [bkC_push] at g6
      rw [cs_push] at g5
      have hf2 := fill_one (z := [.int .i64 0]) (v := .int .i64 (s.1.length : Int)) (esz := 1) rfl rfl
      have d1 : (dsL b (i + 1)).1 = s.1 ++ [fr b i] := by rw [hs]
      have d2 : (dsL b (i + 1)).2 = s.2 ++ [(s.1.length : Int)] := by rw [hs]
      have ld := dk.lenV
      simp [b317_1, h13, h11, h12, h4, h5, hii, ha, hr, zs_cs, agg_cs, hl, s1, c1, hneg, ld, fillF hl, c2, wbOf, hf2, c3, e14]
      exact ⟨by rw [d1]; simpa using g6, by rw [d2]; exact g5⟩
    · have hge : 0 ≤ m := by omega
      unfold dsS at hs
      rw [← hm, if_pos hge] at hs
      obtain ⟨x5', G4, c3, g5, kp2⟩ := g2.push (c := [.int .i64 m]) (bytes := 8) rfl (room8 (by omega)) (wb := false)
      have g6 := g1.kept (kp2 _ (by omega) g1.ltG) g5.pr
      rw [cs_push] at g5
      have hf2 := fill_one (z := [.int .i64 0]) (v := .int .i64 m) (esz := 1) rfl rfl
      have d1 : (dsL b (i + 1)).1 = s.1 := by rw [hs]
      have d2 : (dsL b (i + 1)).2 = s.2 ++ [m] := by rw [hs]
      simp [b317_1, h13, h11, h12, h4, h5, hii, ha, hr, zs_cs, agg_cs, hl, s1, c1, hneg, hf2, c3, wbOf, e14]
      exact ⟨by rw [d1]; exact g6, by rw [d2]; exact g5⟩
  · rintro e G _ h13 ⟨h11, h12, x4, x5, h4, h5, g1, g2⟩
    have hfin := fin_pair g1 g2 (by omega) bkC_flat flat_cs
    simp [b317_1, h13, h12, h4, h5, hfin, dsV, dsH]
def rpA (b : List (List Int)) (i : Nat) : Int := findN (fun j => decide (fr b j = fr b i)) (i + 1)
def rpL (b : List (List Int)) (k : Nat) : List Int := (List.range k).map (rpA b)
theorem Gr.pr {H G : Heap} {x : Value} {esz n : Nat} {vs : List Value} (g : Gr H G x esz n vs) : Pre H G := by
  obtain ⟨_, _, _, _, _, _, h⟩ := g; exact h
theorem rpA_spec (b : List (List Int)) (i : Nat) : ∃ r : Nat, rpA b i = r ∧ r ≤ i ∧ fr b r = fr b i ∧ ∀ j, j < r → fr b j ≠ fr b i := by
  obtain ⟨j, j1, j2, j3⟩ := least_of (P := fun j => decide (fr b j = fr b i)) (n := i + 1) ⟨i, by omega, by simp⟩
  refine ⟨j, findN_some j1 j3 j2, by omega, of_decide_eq_true j2, fun k hk h => ?_⟩
  have := j3 k hk
  rw [decide_eq_true h] at this; cases this
theorem rpL_succ {b : List (List Int)} {k : Nat} : rpL b (k + 1) = rpL b k ++ [rpA b k] := by simp [rpL, List.range_succ]
theorem rpL_len {b : List (List Int)} {k : Nat} : (rpL b k).length = k := by simp [rpL]
theorem rpL_at {b : List (List Int)} {k i : Nat} (h : i < k) : nth (rpL b k) i = rpA b i := by
  simp [rpL, nth, h]
theorem call492 {pu : Bool} {H : Heap} {x : Value} {b : List (List Int)} (h : Bk H x b) (hw : BkW b) (hn : b.length ≤ 1000000) : Call tab pu 492 [x] H = some (slc H.length 0 0 b.length b.length, H ++ [⟨cs .i64 (rpL b b.length), 1, 0, false⟩]) := by
  refine Call_wp t492 (.inr rfl) rfl ?_
  have hf1 : fill (rep 0 [.int .i64 0]) [] = some [] := rfl
  obtain ⟨G1, hG1⟩ : ∃ G1, G1 = H ++ [(⟨[], 1, 0, false⟩ : Blk)] := ⟨_, rfl⟩
  have p1 : Pre H G1 := by rw [hG1]; exact Pre.one
  have z1 : Gr H G1 (slc H.length 0 0 0 0) 1 0 (cs .i64 []) := (GrB.mk' (by rw [hG1]; exact get_last) (Nat.le_refl _) p1).gr
  simp [c492, k492, hf1, ← hG1]
  refine WP_count 4 b.length b.length rfl (fun i e G => e 0 = x ∧ ∃ x3, e 3 = x3 ∧ Gr H G x3 1 i (cs .i64 (rpL b i))) (by omega) ?_ ?_ (by simp) ⟨by simp, _, by simp, z1⟩
  · rintro i e G _ hi hii e4 h4 ⟨h0, x3, h3, g⟩
    obtain ⟨r, hr, hri, hre, hrn⟩ := rpA_spec b i
    have hG : Bk G x b := h.pre g.pr
    have hl := hG.lenV
    simp [b492_2, h4, h0, h3, hl, hii]
    refine WK_loop (fun a e1 G1 => e1 0 = x ∧ e1 3 = x3 ∧ e1 4 = .int .i64 (i : Int) ∧ e1 5 = .int .i64 (a : Int) ∧ G1 = G) r ?_ (Nat.zero_le _) ⟨by simp [h0], by simp [h3], by simp [h4], by simp, rfl⟩
    rintro a e1 G2 _ ha ⟨q0, q3, q4, q5, rfl⟩
    obtain ⟨u, off, ver, a1, r1⟩ := Bk.get hG hw (show a < b.length by omega)
    obtain ⟨u', off', ver', a2, r2⟩ := Bk.get hG hw hi
    have l1 := (hw.fr (show a < b.length by omega)).len
    have l2 := (hw.fr hi).len
    have eq := eqV_iv (k := .u16) l1 l2
    by_cases har : a = r
    · subst har
      rw [decide_eq_true hre] at eq
      obtain ⟨x4, G3, c3, g3⟩ := g.push (c := [.int .i64 (a : Int)]) (bytes := 8) rfl (room8 (by omega)) (wb := false)
      have hf2 := fill_one (z := [.int .i64 0]) (v := .int .i64 (a : Int)) (esz := 1) rfl rfl
      rw [cs_push, ← hr, ← rpL_succ] at g3
      simp [b492_1, q0, q3, q4, q5, a1, a2, r1, r2, agg_cs, l1, l2, eq, hf2, c3, wbOf, e4]
      exact g3
    · have hne : fr b a ≠ fr b i := hrn a (by omega)
      rw [decide_eq_false hne] at eq
      have w : IntKind.wrap .i64 ((a : Int) + 1) = (a : Int) + 1 := wrap64 (by omega)
      simp [b492_1, q0, q3, q4, q5, a1, a2, r1, r2, agg_cs, l1, l2, eq, w]
      omega
  · rintro e G _ h4 ⟨h0, x3, h3, g⟩
    have hG : Bk G x b := h.pre g.pr
    have hl := hG.lenV
    have hfin := g.fin flat_cs
    simp [b492_2, h4, h0, h3, hl, hfin]
theorem ds_new {b : List (List Int)} {i : Nat} (h : ∀ j, j < i → fr b j ≠ fr b i) : dsL b (i + 1) = ((dsL b i).1 ++ [fr b i], (dsL b i).2 ++ [((dsL b i).1.length : Int)]) := by
  have I := dsL_I (b := b) (k := i)
  rw [dsL_succ, dsS]
  rw [if_neg]
  intro hg
  obtain ⟨j, _, j2, j3⟩ := findN_get hg
  obtain ⟨q, q1, q2⟩ := I.has j j2
  exact h q q1 (by rw [← q2, ← of_decide_eq_true j3])
theorem ds_old {b : List (List Int)} {i r : Nat} (hr : r < i) (h : fr b r = fr b i) : dsL b (i + 1) = ((dsL b i).1, (dsL b i).2 ++ [nth (dsL b i).2 r]) := by
  have I := dsL_I (b := b) (k := i)
  obtain ⟨j, j1, j2, j3⟩ := I.at' r hr
  rw [dsL_succ, dsS]
  have hge : 0 ≤ findN (fun j => decide (fr b i = fr (dsL b i).1 j)) (dsL b i).1.length := by
    by_cases hn : 0 ≤ findN (fun j => decide (fr b i = fr (dsL b i).1 j)) (dsL b i).1.length
    · exact hn
    · have := findN_neg hn j2
      exact absurd (by rw [j3, h]) (of_decide_eq_false this)
  rw [if_pos hge]
  obtain ⟨m, m1, m2, m3⟩ := findN_get hge
  have : m = j := I.one m j m2 j2 (by rw [← of_decide_eq_true m3, j3, h])
  rw [m1, j1, this]
theorem GrB.get_i {H G : Heap} {b n : Nat} {x : Value} {l : List Int} (g : GrB H G b x 1 n (cs .i64 l)) {i : Nat} (hi : i < n) :
    ∃ off ver, idxAV 1 x (.int .i64 (i : Int)) = some (adr b off ver) ∧ rd G b off ver 1 = some [.int .i64 (nth l i)] := by
  obtain ⟨ver, rfl, h1, _, h3, _⟩ := g
  have hl : l.length = n := by simpa using h3
  refine ⟨i, ver, by simp [hi], ?_⟩
  rw [rd_at h1 rfl (by simp; omega)]
  simp only []
  rw [cs_one (by omega)]
theorem call319 {pu : Bool} {H : Heap} {x : Value} {b : List (List Int)} (h : Bk H x b) (hV : ∀ f ∈ b, VF f) (hn : b.length ≤ 1000) : Call tab pu 319 [x] H = some (dsV H.length b, dsH H b) := by
  have hw : BkW b := fun f hf => (hV f hf).W
  refine Call_wp t319 (.inr rfl) rfl ?_
  have hf0 : fill (rep 0 (cs .u16 (zr 12 0))) [] = some [] := rfl
  have hf1 : fill (rep 0 [.int .i64 0]) [] = some [] := rfl
  have c492 := call492 (pu := true) h hw (by omega)
  obtain ⟨G0, hG0⟩ : ∃ G0, G0 = H ++ [(⟨cs .i64 (rpL b b.length), 1, 0, false⟩ : Blk)] := ⟨_, rfl⟩
  obtain ⟨G1, hG1⟩ : ∃ G1, G1 = G0 ++ [(⟨[], 12, 0, false⟩ : Blk)] := ⟨_, rfl⟩
  obtain ⟨G2, hG2⟩ : ∃ G2, G2 = G1 ++ [(⟨[], 1, 0, false⟩ : Blk)] := ⟨_, rfl⟩
  rw [← hG0] at c492
  have p0 : Pre H G0 := by rw [hG0]; exact Pre.one
  have p1 : Pre G0 G1 := by rw [hG1]; exact Pre.one
  have p2 : Pre G1 G2 := by rw [hG2]; exact Pre.one
  have l0 : G0.length = H.length + 1 := by rw [hG0]; simp
  have l1 : G1.length = H.length + 2 := by rw [hG1]; simp [l0]
  have pp := p0.trans (p1.trans p2)
  have z0 : GrB H G2 H.length (slc H.length 0 0 b.length b.length) 1 b.length (cs .i64 (rpL b b.length)) := ⟨0, rfl, by rw [(p1.trans p2).get (by omega), hG0]; exact get_last, Nat.le_refl _, by simp [rpL_len], pp⟩
  have z1 : GrB H G2 (H.length + 1) (slc (H.length + 1) 0 0 0 0) 12 0 (bkC []) := GrB.mk' (by rw [p2.get (by omega), hG1, ← l0]; exact get_last) (by omega) pp
  have z2 : GrB H G2 (H.length + 2) (slc (H.length + 2) 0 0 0 0) 1 0 (cs .i64 []) := GrB.mk' (by rw [hG2, ← l1]; exact get_last) (by omega) pp
  simp [c319, k319, hf0, hf1, zs_cs, c492, ← hG1, ← hG2, l0, l1]
  refine WP_count 7 b.length b.length rfl (fun i e G => e 0 = x ∧ ∃ x4 x5 x6, e 4 = x4 ∧ e 5 = x5 ∧ e 6 = x6 ∧ GrB H G H.length x4 1 b.length (cs .i64 (rpL b b.length)) ∧ GrB H G (H.length + 1) x5 12 (dsL b i).1.length (bkC (dsL b i).1) ∧ GrB H G (H.length + 2) x6 1 i (cs .i64 (dsL b i).2)) (by omega) ?_ ?_ (by simp)
    ⟨by simp, _, _, _, by simp, by simp; rfl, by simp; rfl, z0, by rw [dsL_zero]; exact z1, by rw [dsL_zero]; exact z2⟩
  · rintro i e G _ hi hii e14 h7 ⟨h0, x4, x5, x6, h4, h5, h6, g0, g1, g2⟩
    have I := dsL_I (b := b) (k := i)
    have VD := dsL_V hV (k := i) (by omega)
    have hB := h.pre g1.pr
    have hlB := hB.lenV
    obtain ⟨q, off, ver, ha, hr⟩ := Bk.get hB hw hi
    have hl := (hw.fr hi).len
    have hlD : lenV x5 = some (.int .i64 (dsL b i).1.length) := (grB_bk g1 VD).lenV
    obtain ⟨o4, v4, a4, r4⟩ := g0.get_i hi
    rw [rpL_at hi] at r4
    obtain ⟨r, hr1, hr2, hr3, hr4⟩ := rpA_spec b i
    rw [hr1] at r4
    have hd1 := I.l1
    by_cases hri : r = i
    · subst hri
      have hs := ds_new hr4
      obtain ⟨x6', G3, c2, g3, kp⟩ := g2.push (c := [.int .i64 ((dsL b r).1.length : Int)]) (bytes := 8) rfl (room8 (by omega)) (wb := false)
      have g4 := g1.kept (kp _ (by omega) g1.ltG) g3.pr
      have g0' := g0.kept (kp _ (by omega) g0.ltG) g3.pr
      have hB3 := h.pre g3.pr
      obtain ⟨q', off', ver', ha', hr'⟩ := Bk.get hB3 hw hi
      obtain ⟨x5', G4, c3, g5, kp2⟩ := g4.push (c := cs .u16 (fr b r)) (bytes := 24) (by simp [hl]) (room24 (by omega)) (wb := false)
      have g6 := g3.kept (kp2 _ (by omega) g3.ltG) g5.pr
      have g0'' := g0'.kept (kp2 _ (by omega) g0'.ltG) g5.pr
      rw [bkC_push] at g5
      rw [cs_push] at g6
      have hf2 := fill_one (z := [.int .i64 0]) (v := .int .i64 ((dsL b r).1.length : Int)) (esz := 1) rfl rfl
      have d1 : (dsL b (r + 1)).1 = (dsL b r).1 ++ [fr b r] := by rw [hs]
      have d2 : (dsL b (r + 1)).2 = (dsL b r).2 ++ [((dsL b r).1.length : Int)] := by rw [hs]
      simp [b319_1, h7, h0, h4, h5, h6, hii, hlB, hlD, a4, r4, hf2, c2, ha', hr', zs_cs, agg_cs, hl, fillF hl, c3, wbOf, e14]
      exact ⟨g0'', by rw [d1]; simpa using g5, by rw [d2]; exact g6⟩
    · have hs := ds_old (show r < i by omega) hr3
      obtain ⟨o6, v6, a6, r6⟩ := g2.get_i (show r < i by omega)
      obtain ⟨x6', G3, c2, g3, kp⟩ := g2.push (c := [.int .i64 (nth (dsL b i).2 r)]) (bytes := 8) rfl (room8 (by omega)) (wb := false)
      have g4 := g1.kept (kp _ (by omega) g1.ltG) g3.pr
      have g0' := g0.kept (kp _ (by omega) g0.ltG) g3.pr
      rw [cs_push] at g3
      have hf2 := fill_one (z := [.int .i64 0]) (v := .int .i64 (nth (dsL b i).2 r)) (esz := 1) rfl rfl
      have d1 : (dsL b (i + 1)).1 = (dsL b i).1 := by rw [hs]
      have d2 : (dsL b (i + 1)).2 = (dsL b i).2 ++ [nth (dsL b i).2 r] := by rw [hs]
      have hne : ((r : Int) == (i : Int)) = false := by simp; omega
      simp [b319_1, h7, h0, h4, h5, h6, hii, hlB, a4, r4, hne, a6, r6, hf2, c2, wbOf, e14]
      exact ⟨g0', by rw [d1]; exact g4, by rw [d2]; exact g3⟩
  · rintro e G _ h7 ⟨h0, x4, x5, x6, h4, h5, h6, g0, g1, g2⟩
    have hlB := (h.pre g1.pr).lenV
    have hfin := fin_pair g1 g2 (by omega) bkC_flat flat_cs
    simp [b319_1, h7, h0, h5, h6, hlB, hfin, dsV, dsH]
theorem and_u32 {n : Nat} (h : n < 4294967296) : bitsOf .and .u64 (n : Int) 4294967295 = (n : Int) := by
  have e1 : (BitVec.ofInt 64 (n : Int) &&& BitVec.ofInt 64 4294967295).toNat = n := by
    rw [BitVec.toNat_and, BitVec.toNat_ofInt, BitVec.toNat_ofInt]
    have a1 : ((n : Int) % ((2 ^ 64 : Nat) : Int)).toNat = n := by
      rw [Int.emod_eq_of_lt (by omega) (by omega)]; simp
    have a2 : ((4294967295 : Int) % ((2 ^ 64 : Nat) : Int)).toNat = 2 ^ 32 - 1 := by decide
    rw [a1, a2, Nat.and_two_pow_sub_one_eq_mod, Nat.mod_eq_of_lt (by omega)]
  show IntKind.wrap .u64 (((BitVec.ofInt 64 (n : Int) &&& BitVec.ofInt 64 4294967295).toNat : Nat) : Int) = _
  rw [e1]
  exact wrapu64 (by omega)
theorem shr_u32 {n : Nat} (h : n < 4294967296) : shiftOf .shr .u64 (n : Int) 32 = some (.int .u64 0) := by
  unfold shiftOf
  rw [if_neg (by omega)]
  show some (Value.int .u64 ((n : Int).fdiv 4294967296)) = _
  rw [Int.fdiv_eq_ediv_of_nonneg _ (by omega), Int.ediv_eq_zero_of_lt (by omega) (by omega)]
theorem call588 {pu : Bool} {H : Heap} {a b : Nat} (ha : a < 65536) (hb : b < 65536) : Call tab pu 588 [.int .u64 (a : Int), .int .u64 (b : Int)] H = some (tup [.int .u64 0, .int .u64 ((a * b : Nat) : Int)], H) := by
  have hab : a * b < 4294967296 := by
    have := Nat.mul_le_mul (show a ≤ 65535 by omega) (show b ≤ 65535 by omega)
    omega
  refine Call_wp t588 (.inr rfl) rfl ?_
  have m1 := and_u32 (n := a) (by omega)
  have m2 := and_u32 (n := b) (by omega)
  have s1 := shr_u32 (n := a) (by omega)
  have s2 := shr_u32 (n := b) (by omega)
  have s3 := shr_u32 hab
  have s0 : shiftOf .shr .u64 0 32 = some (.int .u64 0) := shr_u32 (n := 0) (by omega)
  have m0 : bitsOf .and .u64 0 4294967295 = 0 := and_u32 (n := 0) (by omega)
  have w : IntKind.wrap .u64 ((a : Int) * (b : Int)) = ((a * b : Nat) : Int) := by
    rw [← Int.natCast_mul]; exact wrapu64 (by omega)
  simp [c588, k588, m1, m2, s1, s2, w, s3, s0, m0, -Int.natCast_mul]
theorem call562 {pu : Bool} {H : Heap} {a b : Nat} (ha : a < 65536) (hb : b < 65536) : Call tab pu 562 [.int .u64 (a : Int), .int .u64 (b : Int)] H = some (tup [.int .u64 0, .int .u64 ((a * b : Nat) : Int)], H) := by
  refine Call_wp t562 (.inr rfl) rfl ?_
  simp [c562, k562, call588 ha hb, -Int.natCast_mul]
theorem srcOf_one {G : Heap} {x v : Value} (h : SlR G x 1 1 [v]) : srcOf 1 G x = some (1, [v]) := by
  rcases h.is with ⟨_, h0⟩ | ⟨b, off, ver, cap, rfl, _, hr, _⟩
  · omega
  · show (rd G b off ver (1 * 1)).map _ = _
    rw [hr]; rfl
noncomputable def cpyV (n0 : Nat) (wb : Bool) (esz : Nat) (H : Heap) (x y : Value) : Option (Value × Heap) := (srcOf esz H y).bind fun (q : Nat × List Value) => match x with
    | .slice none 0 0 => some (.int .i64 0, H)
    | .slice (some ⟨b, off, some ver⟩) len _ => (wr n0 wb H b off ver (q.2.take (min q.1 len * esz))).map fun H' => (.int .i64 (min q.1 len : Nat), H')
    | _ => none
theorem ev1_cpyV {cl : Cl} {n0 : Nat} {wb : Bool} {e : Env} {H : Heap} {esz : Nat} {x y : Opd} : ev1 cl n0 wb e H (.cpy esz x y) = cpyV n0 wb esz H (x.ev e) (y.ev e) := rfl
theorem cpyV_at {n0 : Nat} {wb : Bool} {esz b off ver len cap n : Nat} {H H' : Heap} {y : Value} {vs : List Value} (h : srcOf esz H y = some (n, vs)) (hw : wr n0 wb H b off ver (vs.take (min n len * esz)) = some H') :
    cpyV n0 wb esz H (slc b off ver len cap) y = some (.int .i64 ((min n len : Nat) : Int), H') := by
  unfold cpyV
  rw [h]
  show (wr n0 wb H b off ver (vs.take (min n len * esz))).map _ = _
  rw [hw]; rfl
theorem slcAV_lo1 {H : Heap} {b n cap lo : Nat} {k : Blk} (hk : H[b]? = some k) (hv : 0 = k.ver) (he : k.esz = 1) (h : lo ≤ n) :
    slcAV H 1 (slc b 0 0 n cap) (some (.int .i64 (lo : Int))) none none = some (slc b lo 0 (n - lo) (cap - lo)) := by
  rw [slcAV_get hk hv he]
  simp [bnds, bnd_nat h]
/-- A number so many times, and noughts behind. -/
def rqL (v : Int) (n p : Nat) : List Int := List.replicate p v ++ List.replicate (n - p) 0
def rqH (H : Heap) (v : Int) (n p : Nat) : Heap := H ++ [⟨cs .i64 (rqL v n p), 1, 0, false⟩]
theorem rqL_len {v : Int} {n p : Nat} (h : p ≤ n) : (rqL v n p).length = n := by simp [rqL]; omega
theorem rqH_get {H : Heap} {v : Int} {n p : Nat} : (rqH H v n p)[H.length]? = some ⟨cs .i64 (rqL v n p), 1, 0, false⟩ := get_last
theorem rqL_more {v : Int} {n p m : Nat} (h : p + m ≤ n) : splice (cs .i64 (rqL v n p)) p (cs .i64 (List.replicate m v)) = cs .i64 (rqL v n (p + m)) := by
  have e1 : (rqL v n p).take p = List.replicate p v := by simp [rqL]
  have e2 : (rqL v n p).drop (p + m) = List.replicate (n - (p + m)) 0 := by
    rw [rqL, List.drop_append]
    simp
    omega
  have e3 : (cs .i64 (List.replicate m v)).length = m := by simp
  unfold splice
  rw [e3]
  unfold cs
  rw [← List.map_take, ← List.map_drop, e1, e2, rqL, ← List.map_append, ← List.map_append, List.replicate_append_replicate]
theorem rqH_wr {H : Heap} {v : Int} {n p m : Nat} {wb : Bool} (h : p + m ≤ n) : wr H.length wb (rqH H v n p) H.length p 0 (cs .i64 (List.replicate m v)) = some (rqH H v n (p + m)) := by
  rw [wr_at rqH_get rfl rfl (by simp [may]) (by simp [rqL_len (show p ≤ n by omega)]; omega), rqL_more h]
  simp [rqH]
theorem call494 {pu : Bool} {H : Heap} {x : Value} {v : Int} {n : Nat} (hx : SlR H x 1 1 [.int .i64 v]) (h1 : 1 ≤ n) (hn : n ≤ 1000) : Call tab pu 494 [x, .int .i64 (n : Int)] H = some (slc H.length 0 0 n n, H ++ [⟨cs .i64 (List.replicate n v), 1, 0, false⟩]) := by
  refine Call_wp t494 (.inr rfl) rfl ?_
  have c := call562 (pu := true) (H := H) (a := 1) (b := n) (by omega) (by omega)
  rw [Nat.one_mul, show ((1 : Nat) : Int) = 1 from rfl] at c
  have hneg : ¬ (n : Int) < 0 := by omega
  have w0 : IntKind.wrap .u64 (n : Int) = n := wrapu64 (by omega)
  have w1 : IntKind.wrap .i64 (n : Int) = n := wrap64 (by omega)
  have hg : ¬ (9223372036854775807 : Int) < n := by omega
  have hmk : 0 ≤ (n : Int) ∧ (n : Int) ≤ n ∧ (n : Int) * 8 ≤ roomMax := by have : (roomMax : Int) = 140737488355328 := rfl; omega
  have hz : H ++ [(⟨rep n [.int .i64 0], 1, 0, false⟩ : Blk)] = rqH H v n 0 := by
    rw [rep_zr, rqH, rqL]; simp [zr]
  have hs : srcOf 1 (rqH H v n 0) x = some (1, [.int .i64 v]) := srcOf_one (hx.app)
  have hw : wr H.length false (rqH H v n 0) H.length 0 0 [.int .i64 v] = some (rqH H v n 1) := rqH_wr (m := 1) (by omega)
  have hmin : min 1 n = 1 := by omega
  have cv : cpyV H.length false 1 (rqH H v n 0) (slc H.length 0 0 n n) x = some (.int .i64 1, rqH H v n 1) := by
    have := cpyV_at (n0 := H.length) (wb := false) (b := H.length) (off := 0) (ver := 0) (len := n) (cap := n) (H' := rqH H v n 1) hs (by rw [hmin]; exact hw)
    rw [hmin] at this; exact this
  simp [c494, k494, hx.lenV, hneg, c, w0, w1, hg, ev1_mkS, mksV_int, hmk, hz, skip, ev1_cpyV, cv, wbOf]
  refine WK_loop (fun i e G => ∃ p : Nat, i < p ∧ p ≤ n ∧ e 7 = slc H.length 0 0 n n ∧ e 8 = .int .i64 (p : Int) ∧ G = rqH H v n p) n ?_ (Nat.zero_le _) ⟨1, by omega, h1, by simp, by simp, rfl⟩
  rintro i e G _ hi ⟨p, hp1, hp2, h7, h8, rfl⟩
  by_cases hpn : p < n
  · have hlt : (p : Int) < n := by omega
    have a1 := slcAV_lo1 (n := n) (cap := n) (lo := p) (rqH_get (H := H) (v := v) (n := n) (p := p)) rfl rfl (by omega)
    have a2 := slcAV_hi (len := n) (cap := n) (off := 0) (hi := p) (kk := .i64) (rqH_get (H := H) (v := v) (n := n) (p := p)) rfl rfl (by omega)
    have hr : srcOf 1 (rqH H v n p) (slc H.length 0 0 p n) = some (p, cs .i64 (List.replicate p v)) := by
      show (rd (rqH H v n p) H.length 0 0 (p * 1)).map _ = _
      rw [rd_at rqH_get rfl (by simp [rqL_len hp2]; omega)]
      simp [rqL, cs]
    have hw2 : wr H.length false (rqH H v n p) H.length p 0 ((cs .i64 (List.replicate p v)).take (min p (n - p))) = some (rqH H v n (p + min p (n - p))) := by
      have e1 : (cs .i64 (List.replicate p v)).take (min p (n - p)) = cs .i64 (List.replicate (min p (n - p)) v) := by
        unfold cs
        rw [← List.map_take, List.take_replicate, Nat.min_eq_left (by omega)]
      rw [e1]; exact rqH_wr (by omega)
    have w3 : IntKind.wrap .i64 ((p : Int) + ((min p (n - p) : Nat) : Int)) = ((p + min p (n - p) : Nat) : Int) := by
      rw [← Int.natCast_add]; exact wrap64 (by omega)
    obtain ⟨m, hm⟩ : ∃ m, m = min p (n - p) := ⟨_, rfl⟩
    have cv2 := cpyV_at (n0 := H.length) (wb := false) (esz := 1) (b := H.length) (off := p) (ver := 0) (len := n - p) (cap := n - p) (H' := rqH H v n (p + min p (n - p))) hr (by rw [Nat.mul_one]; exact hw2)
    rw [← hm] at cv2 w3
    simp [b494_1, h7, h8, hlt, a1, a2, ev1_cpyV, cv2, w3, wbOf, -Int.natCast_add]
    exact ⟨by omega, p + m, by omega, by omega, rfl, rfl⟩
  · obtain rfl : p = n := by omega
    have hfin : finish H.length (rqH H v p p) [slc H.length 0 0 p p] = (slc H.length 0 0 p p, H ++ [⟨cs .i64 (List.replicate p v), 1, 0, false⟩]) := by
      have g : Gr H (rqH H v p p) (slc H.length 0 0 p p) 1 p (cs .i64 (rqL v p p)) := ⟨H.length, 0, rfl, rqH_get, Nat.le_refl _, by simp [rqL_len (Nat.le_refl p)], Pre.one⟩
      rw [g.fin flat_cs]; simp [rqL]
    simp [b494_1, h7, h8, hfin]
def tckL (s : ML) (k : Nat) : List Int := itN (fun i t => t ++ List.replicate (mv s i).2.toNat (mv s i).1) [] k
theorem tckL_zero {s : ML} : tckL s 0 = [] := itN_zero
theorem tckL_succ {s : ML} {k : Nat} : tckL s (k + 1) = tckL s k ++ List.replicate (mv s k).2.toNat (mv s k).1 := itN_succ
theorem tckL_len {s : ML} {n k : Nat} (h : ∀ i, i < n → (mv s i).2 ≤ 24) (hk : k ≤ n) : (tckL s k).length ≤ k * 24 := by
  induction k with
  | zero => rw [tckL_zero]; simp
  | succ k ih =>
    have := ih (by omega)
    have := h k (by omega)
    rw [tckL_succ]; simp; omega
theorem call321 {pu : Bool} {H : Heap} {x : Value} {s : ML} (hs : SlR H x 2 s.length (mvsC s)) (hv : ∀ i, i < s.length → 1 ≤ (mv s i).2 ∧ (mv s i).2 ≤ 24 ∧ -128 ≤ (mv s i).1 ∧ (mv s i).1 ≤ 127) (hn : s.length ≤ 80) :
    Call tab pu 321 [x] H = some (slc H.length 0 0 (tckL s s.length).length (tckL s s.length).length, H ++ [⟨cs .i64 (tckL s s.length), 1, 0, false⟩]) := by
  refine Call_wp t321 (.inr rfl) rfl ?_
  have hf1 : fill (rep 0 [.int .i64 0]) [] = some [] := rfl
  obtain ⟨G1, hG1⟩ : ∃ G1, G1 = H ++ [(⟨[], 1, 0, false⟩ : Blk)] := ⟨_, rfl⟩
  have p1 : Pre H G1 := by rw [hG1]; exact Pre.one
  have z1 : GrB H G1 H.length (slc H.length 0 0 0 0) 1 0 (cs .i64 []) := GrB.mk' (by rw [hG1]; exact get_last) (Nat.le_refl _) p1
  simp [c321, k321, hf1, ← hG1, hs.lenV]
  refine WP_count 9 s.length s.length rfl (fun i e G => e 7 = x ∧ e 8 = .int .i64 s.length ∧ ∃ x3, e 3 = x3 ∧ GrB H G H.length x3 1 (tckL s i).length (cs .i64 (tckL s i))) (by omega) ?_ ?_ (by simp) ⟨by simp, by simp, _, by simp; rfl, by rw [tckL_zero]; exact z1⟩
  · rintro i e G _ hi hii e9 h9 ⟨h7, h8, x3, h3, g⟩
    obtain ⟨v1, v2, v3, v4⟩ := hv i hi
    have hL := tckL_len (s := s) (n := s.length) (k := i) (fun j hj => (hv j hj).2.1) (by omega)
    obtain ⟨q, off, ver, ha, hr⟩ := (SlR.pre g.pr hs).get1 hi
    rw [mvsC_elem hi] at hr
    have hts := tckL_succ (s := s) (k := i)
    generalize hm : mv s i = m at *
    obtain ⟨a, c⟩ := m
    obtain ⟨n, rfl⟩ : ∃ n : Nat, c = n := ⟨c.toNat, by simp only [] at v1; omega⟩
    simp only [Int.toNat_natCast] at hts v1 v2 v3 v4
    obtain ⟨Ga, hGa⟩ : ∃ Ga, Ga = G ++ [(⟨cs .i64 [a], 1, 0, false⟩ : Blk)] := ⟨_, rfl⟩
    have pa : Pre G Ga := by rw [hGa]; exact Pre.one
    have t1 : SlR Ga (slc G.length 0 0 1 1) 1 1 [.int .i64 a] := by
      rw [hGa]
      exact (own_new (H := G) (esz := 1) (n := 1) (vs := cs .i64 [a]) rfl).sl
    have c494 := call494 (pu := true) (n := n) t1 (by omega) (by omega)
    obtain ⟨Gb, hGb⟩ : ∃ Gb, Gb = Ga ++ [(⟨cs .i64 (List.replicate n a), 1, 0, false⟩ : Blk)] := ⟨_, rfl⟩
    rw [← hGb] at c494
    have pb : Pre Ga Gb := by rw [hGb]; exact Pre.one
    have t2 : SlR Gb (slc Ga.length 0 0 n n) 1 n (cs .i64 (List.replicate n a)) := by
      rw [hGb]
      exact (own_new (H := Ga) (esz := 1) (n := n) (vs := cs .i64 (List.replicate n a)) (by simp)).sl
    obtain ⟨x3', G3, c3, g3, _, _⟩ := (g.onto (pa.trans pb)).append (bytes := 8) t2 (by have : roomMax = 140737488355328 := rfl; omega) (wb := false)
    have hf2 : fill (rep 1 [.int .i64 0]) [(0, 1, .int .i64 a)] = some (cs .i64 [a]) := fill_one rfl rfl
    have w1 : IntKind.wrap .i64 a = a := wrap64 (by omega)
    have w2 : IntKind.wrap .i64 (n : Int) = n := wrap64 (by omega)
    have hap : cs .i64 (tckL s i) ++ cs .i64 (List.replicate n a) = cs .i64 (tckL s (i + 1)) := by rw [hts]; simp [cs]
    have hlen : (tckL s (i + 1)).length = (tckL s i).length + n := by rw [hts]; simp
    rw [hap, ← hlen] at g3
    have h2l : (mvC (a, (n : Int))).length = 2 := rfl
    simp [b321_1, h9, h7, h8, h3, hii, ha, hr, h2l, stM, ldM1, ldM2, w1, w2, hf2, ← hGa, c494, c3, wbOf, e9]
    exact g3
  · rintro e G _ h9 ⟨h7, h8, x3, h3, g⟩
    have hfin := g.gr.fin flat_cs
    simp [b321_1, h9, h7, h8, h3, hfin]
/-- Shots of a book of n pages. -/
def okShs (s : ML) (n : Nat) : Prop := s.length ≤ 80 ∧ ∀ i, i < s.length → 0 ≤ (mv s i).1 ∧ (mv s i).1 < n ∧ 1 ≤ (mv s i).2 ∧ (mv s i).2 ≤ 24
end Fb
