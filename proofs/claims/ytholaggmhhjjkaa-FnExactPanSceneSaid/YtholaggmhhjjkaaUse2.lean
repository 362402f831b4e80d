/- What each function computes. -/
import Derived.Test.YtholaggmhhjjkaaUse1
set_option linter.unusedVariables false
set_option linter.unusedSimpArgs false
namespace Fb
open Go
theorem fill24 {a b : List Int} (ha : a.length = 12) (hb : b.length = 12) : fill (cs .u16 (zr 24 0)) [(0, 12, iv .u16 a), (12, 12, iv .u16 b)] = some (cs .u16 (a ++ b)) := by
  have l1 : (cs .u16 a).length = 12 := by simp [ha]
  have l2 : (cs .u16 b).length = 12 := by simp [hb]
  show (if (cs .u16 a).length = 12 ∧ 0 + 12 ≤ (cs .u16 (zr 24 0)).length then fill (splice (cs .u16 (zr 24 0)) 0 (cs .u16 a)) [(12, 12, iv .u16 b)] else none) = _
  rw [if_pos ⟨l1, by simp⟩, splice_cs, wrt_a (by simp) ha]
  show (if (cs .u16 b).length = 12 ∧ 12 + 12 ≤ (cs .u16 (a ++ (zr 24 0).drop 12)).length then fill (splice (cs .u16 (a ++ (zr 24 0).drop 12)) 12 (cs .u16 b)) [] else none) = _
  rw [if_pos ⟨l2, by simp [ha]⟩, splice_cs, wrt_b ha (by simp) hb]; rfl
theorem call336 {pu : Bool} {H : Heap} {s : Ly} {x y : Int} (hw : LyW s) (h : okLy s = true) (hx : -100 ≤ x ∧ x ≤ 100) (hy : -100 ≤ y ∧ y ≤ 100) :
    Call tab pu 336 [iv .u16 s.f, .int .i64 (offX s x), .int .i64 (offY s y)] H = some (iv .u16 (lyI s x y ++ lyM s x y), H) := by
  refine Call_wp t336 (.inr rfl) rfl ?_
  obtain ⟨h1, h2, h3, h4, h5⟩ := okLy_d h
  obtain ⟨o1, o2⟩ := off_ok h hx hy
  have c1 := call358 (pu := true) (H := H) (dx := offX s x) (dy := offY s y) hw.ink h4 (by omega) (by omega)
  have c2 := call358 (pu := true) (H := H) (dx := offX s x) (dy := offY s y) hw.msk h5 (by omega) (by omega)
  have d1 : ldc 12 true (iv .u16 s.f) 0 = some (iv .u16 (inkL s)) := d24a hw.len
  have d2 : ldc 12 true (iv .u16 s.f) 12 = some (iv .u16 (mskL s)) := d24b hw.len
  have e1 : shF (inkL s) (offX s x) (offY s y) = lyI s x y := rfl
  have e2 : shF (mskL s) (offX s x) (offY s y) = lyM s x y := rfl
  rw [e1] at c1
  rw [e2] at c2
  have hl : (lyI s x y ++ lyM s x y).length = 24 := by simp [lyI_W.len, lyM_W.len]
  have s3 := stc_zr (k := .u16) (n := 24) (l := lyI s x y ++ lyM s x y) hl
  have hf := fill24 (a := lyI s x y) (b := lyM s x y) lyI_W.len lyM_W.len
  simp [c336, k336, d1, d2, c1, c2, zs_cs, hf, agg_cs, hl, s3]
def fldV (off n : Nat) (isAgg : Bool) : Value → Option Value
  | .agg cs => if off + n ≤ cs.size then ldv isAgg ((cs.toList.drop off).take n) else none
  | _ => none
theorem ev1_fld {T : Tab} {n0 : Nat} {wb : Bool} {e : Env} {H : Heap} {off n : Nat} {g : Bool} {x : Opd} : ev1 (Call T) n0 wb e H (.fld off n g x) = (fldV off n g (x.ev e)).map (·, H) := rfl
theorem fldV_a {a b : List Int} (ha : a.length = 12) (hb : b.length = 12) : fldV 0 12 true (iv .u16 (a ++ b)) = some (iv .u16 a) := by
  show (if 0 + 12 ≤ (cs .u16 (a ++ b)).toArray.size then ldv true (((cs .u16 (a ++ b)).toArray.toList.drop 0).take 12) else none) = _
  rw [if_pos (by simp [ha, hb])]
  simp only [cs_sub, (join_sub ha hb).1]; rfl
/-- The calls of a law from a list and more to a list. -/
theorem lsx_any {to it mA sp im eR mR hR wA wR : Nat} {extra : List Value} {H : Heap} {x : Value} {esz n eszR nR : Nat} {vs fc vsR : List Value} {c : Int} {msA msR : Int → Nat → Value}
    (hs : SlR H x esz n vs) (hn : n ≤ 1000000) (hl : vs.length = n * esz) (hfc : fc.length = esz)
    (hcp : ∀ G, SlR G x esz n vs → CpF to G x esz n vs fc) (hit : ∀ G y z, IsCp G y esz n vs fc → IsCp G z esz n vs fc → Call tab true it [y, z] G = some (.bool true, G))
    (hsp : ∀ G y, SlR G y esz n vs → ∃ r G' β, Call tab true sp (y :: extra) G = some (tup [r, .int .i64 c], G') ∧ Pre G G' ∧ Own G' r β G.length eszR nR vsR)
    (him : ∀ G y, SlR G y esz n vs → ∃ r G' β, Call tab true im (y :: extra) G = some (tup [r, .int .i64 c], G') ∧ Pre G G' ∧ Own G' r β G.length eszR nR vsR)
    (heq : EqF eR eszR nR vsR) (hmA : MkF mA esz wA msA) (hmR : MkF mR eszR wR msR) (hhR : HdF hR eszR wR msR) (hnR : nR ≤ 1000000) :
    ∃ x1 G1 rs G1' x2 G2 ri G2' x3 G3 G4 G5 x4 G6 r4 G7, Call tab true to [x, .bool false] H = some (x1, G1) ∧ Call tab true sp (x1 :: extra) G1 = some (tup [rs, .int .i64 c], G1') ∧
      Call tab true to [x, .bool false] G1' = some (x2, G2) ∧ Call tab true im (x2 :: extra) G2 = some (tup [ri, .int .i64 c], G2') ∧ Call tab true eR [ri, rs] G2' = some (.bool true, G2') ∧
      Call tab true to [x, .bool false] G2' = some (x3, G3) ∧ Call tab true it [x2, x3] G3 = some (.bool true, G3) ∧
      (Call tab false mA [x2, .int .i64 101] G3).bind (elder H.length false G3) = some (.int .i64 (101 + (n * wA : Nat)), G4) ∧ Call tab true eR [ri, rs] G4 = some (.bool true, G4) ∧
      (Call tab false mR [ri, .int .i64 101] G4).bind (elder H.length false G4) = some (.int .i64 (101 + (nR * wR : Nat)), G5) ∧ Call tab true hR [ri, .int .i64 101] G5 = some (.int .i64 (101 + (nR * wR : Nat)), G5) ∧
      Call tab true to [x, .bool true] G5 = some (x4, G6) ∧ Call tab true im (x4 :: extra) G6 = some (tup [r4, .int .i64 c], G7) ∧ Call tab true eR [r4, rs] G7 = some (.bool true, G7) ∧
      Call tab true hR [ri, .int .i64 101] G7 = some (.int .i64 (101 + (nR * wR : Nat)), G7) ∧ Pre H G7 := by
  obtain ⟨x1, G1, q1, k1, o1, p1⟩ := cp_own (pu := true) hl hfc (hcp H hs)
  obtain ⟨rs, G1', βs, w1, p1', os⟩ := hsp G1 x1 o1.sl
  have P1 := p1.trans p1'
  obtain ⟨x2, G2, q2, k2, o2, p2⟩ := cp_own (pu := true) hl hfc (hcp G1' (hs.pre P1))
  obtain ⟨ri, G2', βi, w2, p2', oi⟩ := him G2 x2 o2.sl
  have P2 := (P1.trans p2).trans p2'
  have os2 := (os.pre p2).pre p2'
  have e1 := heq G2' ri rs oi.sl os2.sl
  obtain ⟨x3, G3, q3, k3, o3, p3⟩ := cp_own (pu := true) hl hfc (hcp G2' (hs.pre P2))
  have P3 := P2.trans p3
  have e2 := hit G3 x2 x3 ((k2.pre p2').pre p3) k3
  have os3 := os2.pre p3
  have oi3 := oi.pre p3
  have o23 := (o2.pre p2').pre p3
  obtain ⟨G4, w3, s4, o24⟩ := hmA G3 x2 _ _ n _ 101 o23 hn (by omega) (by omega)
  have hG1 : H.length ≤ G1'.length := P1.len
  have P4 : Pre H G4 := s4.pre P3 fun b hb => by cases hb; exact hG1
  have hb2 : G1'.length < G2.length := o2.lt.2
  have os4 : Own G4 rs βs G1.length eszR nR vsR := os3.same s4 fun b hb he => by
    subst hb
    have := os.lt
    cases he; omega
  have oi4 : Own G4 ri βi G2.length eszR nR vsR := oi3.same s4 fun b hb he => by
    subst hb
    have := oi.lt
    cases he; omega
  have e3 := heq G4 ri rs oi4.sl os4.sl
  obtain ⟨G5, w4, s5, oi5⟩ := hmR G4 ri βi _ nR vsR 101 oi4 hnR (by omega) (by omega)
  have hG2 : H.length ≤ G2.length := (P1.trans p2).len
  have P5 : Pre H G5 := s5.pre P4 fun b hb => Nat.le_trans hG2 (oi.below b hb)
  have os5 : Own G5 rs βs G1.length eszR nR vsR := os4.same s5 fun b hb he => by
    subst hb
    have h1 := os.lt
    have h2 := oi.below b he
    have h3 := p2.len
    omega
  have w5 := hhR true G5 ri βi _ nR 101 oi5 hnR (by omega) (by omega)
  obtain ⟨x4, G6, q4, r4, p6⟩ := cp_true (pu := true) hl hfc (hcp G5 (hs.pre P5))
  obtain ⟨r4', G7, β4, w6, p7, o4⟩ := him G6 x4 r4
  have P7 := (P5.trans p6).trans p7
  have os7 := (os5.pre p6).pre p7
  have oi7 := (oi5.pre p6).pre p7
  have e4 := heq G7 r4' rs o4.sl os7.sl
  have w7 := hhR true G7 ri βi _ nR 101 oi7 hnR (by omega) (by omega)
  refine ⟨x1, G1, rs, G1', x2, G2, ri, G2', x3, G3, G4, G5, x4, G6, r4', G7, q1, w1, q2, w2, e1, q3, e2, ?_, e3, ?_, w5, q4, w6, e4, w7, P7⟩
  · rw [w3]; exact elder_pre P3 P4
  · rw [w4]; exact elder_pre P4 P5
theorem ldAB_a {a b : List Int} (ha : a.length = 12) (hb : b.length = 12) : ldc 12 true (iv .u16 (a ++ b)) 0 = some (iv .u16 a) := by
  have := ldc_sub (k := .u16) (l := a ++ b) (o := 0) (n := 12) (by simp [ha])
  rw [this, (join_sub ha hb).1]
theorem ldAB_b {a b : List Int} (ha : a.length = 12) (hb : b.length = 12) : ldc 12 true (iv .u16 (a ++ b)) 12 = some (iv .u16 b) := by
  have := ldc_sub (k := .u16) (l := a ++ b) (o := 12) (n := 12) (by simp [ha, hb])
  rw [this, (join_sub ha hb).2]
/-- A scene laid flat: what has ink. -/
def flI (l : List Ly) (x y : Int) (k : Nat) : List Int := itN (fun i a => mixF orI a (mixF lessI (lyI (at0 l i) x y) (cvr l x y i))) (zr 12 0) k
theorem flI_zero {l : List Ly} {x y : Int} : flI l x y 0 = zr 12 0 := itN_zero
theorem flI_succ {l : List Ly} {x y : Int} {k : Nat} : flI l x y (k + 1) = mixF orI (flI l x y k) (mixF lessI (lyI (at0 l k) x y) (cvr l x y k)) := itN_succ
theorem flI_len {l : List Ly} {x y : Int} {k : Nat} : (flI l x y k).length = 12 := by
  cases k with
  | zero => rw [flI_zero]; simp
  | succ k => rw [flI_succ]; exact mixF_length
theorem call497 {pu : Bool} {H : Heap} {a b c d : List Int} (ha : a.length = 12) (hb : b.length = 12) (hc : c.length = 12) (hd : d.length = 12) :
    Call tab pu 497 [iv .u16 (a ++ b), iv .u16 (c ++ d)] H = some (iv .u16 (mixF orI a (mixF lessI c b) ++ mixF orI b d), H) := by
  refine Call_wp t497 (.inr rfl) rfl ?_
  have c1 := call350 (pu := true) (H := H) hc hb
  have c2 := call338 (pu := true) (H := H) ha (mixF_length (op := lessI) (a := c) (b := b))
  have c3 := call338 (pu := true) (H := H) hb hd
  have hf := fill24 (a := mixF orI a (mixF lessI c b)) (b := mixF orI b d) mixF_length mixF_length
  have hl : (mixF orI a (mixF lessI c b) ++ mixF orI b d).length = 24 := by simp [mixF_length]
  have s3 := stc_zr (k := .u16) (n := 24) (l := mixF orI a (mixF lessI c b) ++ mixF orI b d) hl
  simp [c497, k497, ldAB_a ha hb, ldAB_b ha hb, ldAB_a hc hd, ldAB_b hc hd, c1, c2, c3, zs_cs, hf, agg_cs, hl, s3]
theorem call330 {pu : Bool} {H : Heap} {z : Value} {l : List Ly} {x y : Int} (hs : Sc H z l) (hw : ScW l) (hok : okSc l = true) (hx : -100 ≤ x ∧ x ≤ 100) (hy : -100 ≤ y ∧ y ≤ 100) :
    Call tab pu 330 [z, .int .i64 x, .int .i64 y] H = some (iv .u16 (flI l x y l.length ++ cvr l x y l.length), H) := by
  refine Call_wp t330 (.inr rfl) rfl ?_
  have hn := okSc_len hok
  have hz24 := stc_zr (k := .u16) (n := 24) (l := zr 24 0) (by simp)
  simp [c330, k330, fill, zs_cs, agg_cs, hz24, SlR.lenV hs]
  refine WP_forH 13 l.length _ rfl (by omega) (fun i e => e 1 = .int .i64 x ∧ e 2 = .int .i64 y ∧ e 6 = iv .u16 (zr 24 0) ∧ e 7 = iv .u16 (flI l x y i ++ cvr l x y i) ∧ e 11 = z ∧ e 12 = .int .i64 l.length) ?_ ?_ (by simp) ⟨by simp, by simp, by simp, by simp [flI_zero, cvr_zero]; rfl, by simp, by simp⟩
  · rintro i e hi hii e4 h13 ⟨h1, h2, h6, h7, h11, h12⟩
    obtain ⟨q, off, ver, ha, hr, _⟩ := Sc.get hs hw hi
    have hlw := hw _ (at0_mem hi)
    have hlo := okSc_get hok hi
    have c1 := call335 (pu := true) (H := H) hlw hlo hx hy
    have c2 := call336 (pu := true) (H := H) hlw hlo hx hy
    have c3 := call497 (pu := true) (H := H) (flI_len (l := l) (x := x) (y := y) (k := i)) (cvr_len (l := l) (x := x) (y := y) (k := i)) (lyI_W (s := at0 l i) (x := x) (y := y)).len (lyM_W (s := at0 l i) (x := x) (y := y)).len
    rw [← flI_succ, ← cvr_succ] at c3
    have hz : (zr 24 0).length = 24 := rfl
    have hl := hlw.len
    simp only [lyC] at hr c1
    have st := stLall (a := .int .i8 0) (b := .int .i8 0) (c := .int .i8 0) (a' := .int .i8 (at0 l i).x) (b' := .int .i8 (at0 l i).y) (c' := .int .i8 (at0 l i).d) hz hl
    have l1 : (flI l x y i ++ cvr l x y i).length = 24 := by simp [flI_len, cvr_len]
    have l2 : (flI l x y (i + 1) ++ cvr l x y (i + 1)).length = 24 := by simp [flI_len, cvr_len]
    have hst3 : stc (iv .u16 (flI l x y i ++ cvr l x y i)) 0 (cs .u16 (flI l x y (i + 1) ++ cvr l x y (i + 1))) = some (iv .u16 (flI l x y (i + 1) ++ cvr l x y (i + 1))) := stc_all (by rw [l1, l2])
    simp [b330_1, h13, h1, h2, h6, h7, h11, h12, hii, z27, lyZ, ha, hr, lyT_len hl, st, l1, ldLall hl, ldL0 hl, c1, c2, c3, flI_len, cvr_len, hst3, e4]
  · rintro e h13 ⟨h1, h2, h6, h7, h11, h12⟩
    have l1 : (flI l x y l.length ++ cvr l x y l.length).length = 24 := by simp [flI_len, cvr_len]
    have s3 := stc_zr (k := .u16) (n := 24) (l := flI l x y l.length ++ cvr l x y l.length) l1
    simp [b330_1, h13, h12, h6, h7, l1, s3, flI_len, cvr_len, agg_cs]
theorem call468 {pu : Bool} {H : Heap} {q off ver : Nat} {s : Ly} {x y : Int} (hw : LyW s) (hr : LyR H q off ver s) (h : okLy s = true) (hx : -100 ≤ x ∧ x ≤ 100) (hy : -100 ≤ y ∧ y ≤ 100) :
    Call tab pu 468 [adr q off ver, .int .i64 (offX s x), .int .i64 (offY s y)] H = some (iv .u16 (lyI s x y ++ lyM s x y), H) := by
  refine Call_wp t468 (.inr rfl) rfl ?_
  obtain ⟨o1, o2⟩ := off_ok h hx hy
  have c1 := call355 (pu := true) (H := H) (dx := offX s x) (dy := offY s y) hw.ink hr.ink (by omega) (by omega)
  have c2 := call355 (pu := true) (H := H) (dx := offX s x) (dy := offY s y) hw.msk hr.msk (by omega) (by omega)
  have e1 : shF (inkL s) (offX s x) (offY s y) = lyI s x y := rfl
  have e2 : shF (mskL s) (offX s x) (offY s y) = lyM s x y := rfl
  rw [e1] at c1
  rw [e2] at c2
  have hl : (lyI s x y ++ lyM s x y).length = 24 := by simp [lyI_W.len, lyM_W.len]
  have s3 := stc_zr (k := .u16) (n := 24) (l := lyI s x y ++ lyM s x y) hl
  have hf := fill24 (a := lyI s x y) (b := lyM s x y) lyI_W.len lyM_W.len
  simp [c468, k468, c1, c2, zs_cs, hf, agg_cs, hl, s3, lyI_W.len, lyM_W.len]
theorem rd24 {G : Heap} {P : Nat} {a b : List Int} (h : G[P]? = some ⟨cs .u16 (a ++ b), 1, 0, false⟩) (ha : a.length = 12) (hb : b.length = 12) : rd G P 0 0 12 = some (cs .u16 a) ∧ rd G P 12 0 12 = some (cs .u16 b) ∧ rd G P 0 0 24 = some (cs .u16 (a ++ b)) := by
  have h24 : rd G P 0 0 24 = some (cs .u16 (a ++ b)) := by
    rw [rd_at h rfl (by simp [ha, hb])]
    simp only [List.drop_zero]; rw [List.take_of_length_le (by simp [ha, hb])]
  have h1 := rd_cs h24 (o := 0) (m := 12) (by omega)
  have h2 := rd_cs h24 (o := 12) (m := 12) (by omega)
  rw [(join_sub ha hb).1] at h1
  rw [(join_sub ha hb).2] at h2
  exact ⟨h1, by simpa using h2, h24⟩
theorem call500 {pu : Bool} {H : Heap} {P Q : Nat} {a b c d : List Int} (hP : H[P]? = some ⟨cs .u16 (a ++ b), 1, 0, false⟩) (hQ : H[Q]? = some ⟨cs .u16 (c ++ d), 1, 0, false⟩) (ha : a.length = 12) (hb : b.length = 12) (hc : c.length = 12) (hd : d.length = 12) :
    Call tab pu 500 [adr P 0 0, adr Q 0 0] H = some (iv .u16 (mixF orI a (mixF lessI c b) ++ mixF orI b d), H) := by
  refine Call_wp t500 (.inr rfl) rfl ?_
  obtain ⟨p1, p2, _⟩ := rd24 hP ha hb
  obtain ⟨q1, q2, _⟩ := rd24 hQ hc hd
  have hlC : (mixF lessI c b).length = 12 := mixF_length
  obtain ⟨G1, hG1⟩ : ∃ G1, G1 = H ++ [(⟨cs .u16 (zr 12 0), 1, 0, false⟩ : Blk)] := ⟨_, rfl⟩
  have pa : Pre H G1 := by rw [hG1]; exact Pre.one
  have c1 := call349 (pu := true) hc hb (pa.rd q1) (pa.rd p2)
  have c1' := call349 (pu := true) hc hb q1 p2
  obtain ⟨G2, hG2⟩ : ∃ G2, G2 = H ++ [(⟨cs .u16 (mixF lessI c b), 1, 0, false⟩ : Blk)] := ⟨_, rfl⟩
  have pb : Pre H G2 := by rw [hG2]; exact Pre.one
  have hwr : wr H.length false G1 H.length 0 0 (cs .u16 (mixF lessI c b)) = some G2 := by
    rw [hG1, wr_last (b := ⟨cs .u16 (zr 12 0), 1, 0, false⟩) rfl rfl (Nat.le_refl _) (by simp [hlC]), hG2]
  have rL : rd G2 H.length 0 0 12 = some (cs .u16 (mixF lessI c b)) := by rw [hG2]; exact rd_last rfl (by simp [hlC])
  have c2 := call337 (pu := true) ha hlC (pb.rd p1) rL
  have c3 := call337 (pu := true) hb hd (pb.rd p2) (pb.rd q2)
  have hf := fill24 (a := mixF orI a (mixF lessI c b)) (b := mixF orI b d) mixF_length mixF_length
  have hl : (mixF orI a (mixF lessI c b) ++ mixF orI b d).length = 24 := by simp [mixF_length]
  have s3 := stc_zr (k := .u16) (n := 24) (l := mixF orI a (mixF lessI c b) ++ mixF orI b d) hl
  simp [c500, k500, zs_cs, ← hG1, c1, c1', hlC, hwr, wbOf, c2, c3, hf, agg_cs, hl, s3, mixF_length, pb.take]
theorem call332 {pu : Bool} {H : Heap} {z : Value} {l : List Ly} {x y : Int} (hs : Sc H z l) (hw : ScW l) (hok : okSc l = true) (hx : -100 ≤ x ∧ x ≤ 100) (hy : -100 ≤ y ∧ y ≤ 100) :
    Call tab pu 332 [z, .int .i64 x, .int .i64 y] H = some (iv .u16 (flI l x y l.length ++ cvr l x y l.length), H) := by
  refine Call_wp t332 (.inr rfl) rfl ?_
  have hn := okSc_len hok
  obtain ⟨G1, hG1⟩ : ∃ G1, G1 = H ++ [(⟨cs .u16 (zr 24 0), 1, 0, false⟩ : Blk)] := ⟨_, rfl⟩
  have p1 : Pre H G1 := by rw [hG1]; exact Pre.one
  have g1 : G1[H.length]? = some ⟨cs .u16 (flI l x y 0 ++ cvr l x y 0), 1, 0, false⟩ := by rw [hG1, flI_zero, cvr_zero]; simp; rfl
  have hwr : wr H.length false G1 H.length 0 0 (cs .u16 (zr 24 0)) = some G1 := by
    rw [hG1, wr_last (b := ⟨cs .u16 (zr 24 0), 1, 0, false⟩) rfl rfl (Nat.le_refl _) (by simp)]
  simp [c332, k332, fill, zs_cs, agg_cs, ← hG1, hwr, wbOf]
  refine WP_count 8 l.length _ rfl (fun i e G => e 0 = z ∧ e 1 = .int .i64 x ∧ e 2 = .int .i64 y ∧ e 6 = iv .u16 (zr 24 0) ∧ e 7 = adr H.length 0 0 ∧ G[H.length]? = some ⟨cs .u16 (flI l x y i ++ cvr l x y i), 1, 0, false⟩ ∧ Pre H G) (by omega) ?_ ?_ (by simp) ⟨by simp, by simp, by simp, by simp, by simp, g1, p1⟩
  · rintro i e G _ hi hii e4 h8 ⟨h0, h1, h2, h6, h7, gC, hPG⟩
    obtain ⟨q, off, ver, ha, _, hr⟩ := Sc.get (SlR.pre hPG hs) hw hi
    have hlw := hw _ (at0_mem hi)
    have hlo := okSc_get hok hi
    have c1 := call499 (pu := true) hr hlo hx hy
    have c2 := call468 (pu := true) hlw hr hlo hx hy
    obtain ⟨Ga, hGa⟩ : ∃ Ga, Ga = G ++ [(⟨cs .u16 (zr 24 0), 1, 0, false⟩ : Blk)] := ⟨_, rfl⟩
    obtain ⟨Gb, hGb⟩ : ∃ Gb, Gb = G ++ [(⟨cs .u16 (lyI (at0 l i) x y ++ lyM (at0 l i) x y), 1, 0, false⟩ : Blk)] := ⟨_, rfl⟩
    have pb : Pre G Gb := by rw [hGb]; exact Pre.one
    have hHG : H.length ≤ G.length := hPG.len
    have l2 : (lyI (at0 l i) x y ++ lyM (at0 l i) x y).length = 24 := by simp [lyI_W.len, lyM_W.len]
    have hwa : wr H.length false Ga G.length 0 0 (cs .u16 (lyI (at0 l i) x y ++ lyM (at0 l i) x y)) = some Gb := by
      rw [hGa, wr_last (b := ⟨cs .u16 (zr 24 0), 1, 0, false⟩) rfl rfl hHG (by simp [lyI_W.len, lyM_W.len]), hGb]
    have hlC := (List.getElem?_eq_some_iff.1 gC).1
    have gCb : Gb[H.length]? = some ⟨cs .u16 (flI l x y i ++ cvr l x y i), 1, 0, false⟩ := by rw [pb.get hlC]; exact gC
    have gNb : Gb[G.length]? = some ⟨cs .u16 (lyI (at0 l i) x y ++ lyM (at0 l i) x y), 1, 0, false⟩ := by rw [hGb]; exact get_last
    have c3 := call500 (pu := true) gCb gNb flI_len cvr_len lyI_W.len lyM_W.len
    rw [← flI_succ, ← cvr_succ] at c3
    have l1 : (flI l x y i ++ cvr l x y i).length = 24 := by simp [flI_len, cvr_len]
    have l3 : (flI l x y (i + 1) ++ cvr l x y (i + 1)).length = 24 := by simp [flI_len, cvr_len]
    obtain ⟨Gd, hGd⟩ : ∃ Gd, Gd = Gb.set H.length ⟨cs .u16 (flI l x y (i + 1) ++ cvr l x y (i + 1)), 1, 0, false⟩ := ⟨_, rfl⟩
    have hwd : wr H.length false Gb H.length 0 0 (cs .u16 (flI l x y (i + 1) ++ cvr l x y (i + 1))) = some Gd := by
      rw [wr_at gCb rfl rfl (by simp [may]) (by simp [flI_len, cvr_len]), hGd]
      have hdn : (cs .u16 (flI l x y i ++ cvr l x y i)).drop 24 = [] := List.drop_eq_nil_of_le (by simp [flI_len, cvr_len])
      simp only [splice, List.take_zero, List.nil_append, Nat.zero_add, length_cs, l3, hdn, List.append_nil]
    simp [b332_1, h8, h0, h1, h2, h6, h7, SlR.lenV hs, hii, ha, c1, c2, zs_cs, ← hGa, hwa, wbOf, lyI_W.len, lyM_W.len, c3, flI_len, cvr_len, hwd, e4]
    exact ⟨by rw [hGd]; exact get_set gCb, by rw [hGd]; exact (hPG.trans pb).set (Nat.le_refl _)⟩
  · rintro e G _ h8 ⟨h0, h1, h2, h6, h7, gC, hPG⟩
    have l1 : (flI l x y l.length ++ cvr l x y l.length).length = 24 := by simp [flI_len, cvr_len]
    have s3 := stc_zr (k := .u16) (n := 24) (l := flI l x y l.length ++ cvr l x y l.length) l1
    obtain ⟨_, _, r24⟩ := rd24 gC flI_len cvr_len
    simp [b332_1, h8, h0, h6, h7, SlR.lenV hs, r24, l1, s3, flI_len, cvr_len, hPG.take, agg_cs]
def pnP (dx dy n : Int) : Bool := in1 n 0 40 && (in1 dx (-100) 100 && in1 dy (-100) 100)
def pnQ (x y dx dy : Int) (i : Nat) : Bool := in1 (x + i * dx) (-100) 100 && in1 (y + i * dy) (-100) 100
def pnC (l : List Ly) (x y dx dy n : Int) : Int := if cmC l x y = 0 then if pnP dx dy n = true then if allN (pnQ x y dx dy) n.toNat = true then 0 else 2 else 2 else cmC l x y
def pnF (l : List Ly) (x y dx dy : Int) (i : Nat) : List Int := flI l (x + i * dx) (y + i * dy) l.length
def pnK (l : List Ly) (x y dx dy : Int) (k : Nat) : List (List Int) := (List.range k).map (pnF l x y dx dy)
theorem pnF_len {l : List Ly} {x y dx dy : Int} {i : Nat} : (pnF l x y dx dy i).length = 12 := flI_len
theorem pnK_succ {l : List Ly} {x y dx dy : Int} {k : Nat} : bkC (pnK l x y dx dy (k + 1)) = bkC (pnK l x y dx dy k) ++ cs .u16 (pnF l x y dx dy k) := by
  unfold pnK
  rw [List.range_succ, List.map_append]
  show rowsC frC (_ ++ _) = _
  rw [rowsC_app]
  simp [bkC, rowsC, frC]
theorem pnK_len {l : List Ly} {x y dx dy : Int} {k : Nat} : (pnK l x y dx dy k).length = k := by simp [pnK]
theorem pnK_W {l : List Ly} {x y dx dy : Int} {k : Nat} : ∀ f ∈ pnK l x y dx dy k, f.length = 12 := by
  intro f hf
  unfold pnK at hf
  rw [List.mem_map] at hf
  obtain ⟨i, _, rfl⟩ := hf
  exact pnF_len
def pnL (l : List Ly) (x y dx dy n : Int) : List (List Int) := if pnC l x y dx dy n = 0 then pnK l x y dx dy n.toNat else []
theorem pnC_ok {l : List Ly} {x y dx dy n : Int} (h : pnC l x y dx dy n = 0) : cmC l x y = 0 ∧ pnP dx dy n = true ∧ allN (pnQ x y dx dy) n.toNat = true := by
  unfold pnC at h
  split at h
  · rename_i h1
    split at h
    · rename_i h2
      split at h
      · rename_i h3; exact ⟨h1, h2, h3⟩
      · omega
    · omega
  · rename_i h1; exact absurd h h1
theorem pnP_ok {dx dy n : Int} (h : pnP dx dy n = true) : (∃ m : Nat, n = m ∧ m ≤ 40) ∧ (-100 ≤ dx ∧ dx ≤ 100) ∧ -100 ≤ dy ∧ dy ≤ 100 := by
  simp [pnP, in1] at h
  obtain ⟨m, rfl⟩ := Int.eq_ofNat_of_zero_le h.1.1
  exact ⟨⟨m, rfl, by omega⟩, h.2.1, h.2.2⟩
theorem mul_ok {i : Nat} {d : Int} (hi : i ≤ 40) (h : -100 ≤ d ∧ d ≤ 100) : -4000 ≤ (i : Int) * d ∧ (i : Int) * d ≤ 4000 := by
  constructor
  · have h1 : (i : Int) * (-100) ≤ (i : Int) * d := Int.mul_le_mul_of_nonneg_left h.1 (by omega)
    omega
  · have h1 : (i : Int) * d ≤ (i : Int) * 100 := Int.mul_le_mul_of_nonneg_left h.2 (by omega)
    omega
theorem pnL_W {l : List Ly} {x y dx dy n : Int} : ∀ f ∈ pnL l x y dx dy n, f.length = 12 := by
  unfold pnL
  split
  · exact pnK_W
  · intro f hf; cases hf
theorem pnL_len {l : List Ly} {x y dx dy n : Int} : (pnL l x y dx dy n).length ≤ 40 := by
  unfold pnL
  split
  · rename_i h
    obtain ⟨m, rfl, hm⟩ := (pnP_ok (pnC_ok h).2.1).1
    rw [pnK_len]; simpa using hm
  · simp
theorem cells12 {b : List (List Int)} (h : ∀ f ∈ b, f.length = 12) : (bkC b).length = b.length * 12 :=
  rows_length (f := frC) (esz := 12) fun f hf => by simp [frC, h f hf]
theorem cmC_at {l : List Ly} {x y dx dy : Int} {i : Nat} (h : okSc l = true) : cmC l (x + i * dx) (y + i * dy) = if pnQ x y dx dy i = true then 0 else 2 := by
  unfold cmC pnQ
  rw [if_pos h]
theorem pnQ_ok {x y dx dy : Int} {i : Nat} (h : pnQ x y dx dy i = true) : (-100 ≤ x + i * dx ∧ x + i * dx ≤ 100) ∧ -100 ≤ y + i * dy ∧ y + i * dy ≤ 100 := by simpa [pnQ, in1] using h
theorem call199 {pu : Bool} {l : List Ly} {x y dx dy n : Int} (hw : ScW l) (hn : l.length ≤ 1000000) {H : Heap} {z : Value} (hs : Sc H z l) :
    ∃ r G' β, Call tab pu 199 [z, .int .i64 x, .int .i64 y, .int .i64 dx, .int .i64 dy, .int .i64 n] H = some (tup [r, .int .i64 (pnC l x y dx dy n)], G') ∧ Pre H G' ∧ Own G' r β H.length 12 (pnL l x y dx dy n).length (bkC (pnL l x y dx dy n)) := by
  have h1 := call329 (pu := true) (x := x) (y := y) hs hw hn
  have hnil : pnC l x y dx dy n ≠ 0 → Own H (.slice none 0 0) none H.length 12 (pnL l x y dx dy n).length (bkC (pnL l x y dx dy n)) := fun h => by rw [pnL, if_neg h]; exact own_nil
  by_cases hc : cmC l x y = 0
  rotate_left
  · have hb : (cmC l x y != 0) = true := by simpa using hc
    have hp : pnC l x y dx dy n = cmC l x y := by unfold pnC; rw [if_neg hc]
    refine ⟨.slice none 0 0, H, none, Call_wp t199 (.inr rfl) rfl ?_, .refl, hnil (by rw [hp]; exact hc)⟩
    simp [c199, k199, h1, hb, finish_nil2, hp]
  obtain ⟨hok, hx, hy⟩ := cmC_ok hc
  cases k1 : in1 n 0 40 with
  | false =>
    have hp : pnC l x y dx dy n = 2 := by unfold pnC; rw [if_pos hc, if_neg (by simp [pnP, k1])]
    refine ⟨.slice none 0 0, H, none, Call_wp t199 (.inr rfl) rfl ?_, .refl, hnil (by omega)⟩
    simp [c199, k199, h1, hc, in295, k1, skip, finish_nil2, hp]
  | true =>
    cases k2 : in1 dx (-100) 100 && in1 dy (-100) 100 with
    | false =>
      have hp : pnC l x y dx dy n = 2 := by
        unfold pnC
        rw [if_pos hc, if_neg]
        simp only [pnP, k1, k2]; decide
      refine ⟨.slice none 0 0, H, none, Call_wp t199 (.inr rfl) rfl ?_, .refl, hnil (by omega)⟩
      simp [c199, k199, h1, hc, in295, k1, call416, k2, finish_nil2, hp]
    | true =>
      have hP : pnP dx dy n = true := by simp only [pnP, k1, k2]; decide
      obtain ⟨⟨m, rfl, hm⟩, hdx, hdy⟩ := pnP_ok hP
      have key : ∃ q, Call tab pu 199 [z, .int .i64 x, .int .i64 y, .int .i64 dx, .int .i64 dy, .int .i64 (m : Int)] H = some q ∧ ((allN (pnQ x y dx dy) m = true ∧ q = (tup [slc H.length 0 0 m m, .int .i64 0], H ++ [⟨bkC (pnK l x y dx dy m), 12, 0, false⟩])) ∨ (allN (pnQ x y dx dy) m = false ∧ q = (tup [.slice none 0 0, .int .i64 2], H))) := by
        refine Call_ex t199 (.inr rfl) rfl ?_
        simp [c199, k199, h1, hc, in295, k1, call416, k2, fill, rep]
        refine WP_count 35 m _ rfl (fun i e G => e 0 = z ∧ e 1 = .int .i64 x ∧ e 2 = .int .i64 y ∧ e 3 = .int .i64 dx ∧ e 4 = .int .i64 dy ∧ e 34 = .int .i64 m ∧ (∀ j, j < i → pnQ x y dx dy j = true) ∧ ∃ g, e 15 = g ∧ Gr H G g 12 i (bkC (pnK l x y dx dy i))) (by omega) ?_ ?_ (by simp) ⟨by simp, by simp, by simp, by simp, by simp, by simp, fun j hj => by omega, slc H.length 0 0 0 0, by simp, Gr.new .refl⟩
        · rintro i e G _ hi hii e4' h35 ⟨h0, h1e, h2, h3, h4, h34, hq, g, h15, hg⟩
          have m1 := mul_ok (i := i) (by omega) hdx
          have m2 := mul_ok (i := i) (by omega) hdy
          have w1 : IntKind.wrap .i64 ((i : Int) * dx) = (i : Int) * dx := wrap64 (by omega)
          have w2 : IntKind.wrap .i64 ((i : Int) * dy) = (i : Int) * dy := wrap64 (by omega)
          have w3 : IntKind.wrap .i64 (x + (i : Int) * dx) = x + (i : Int) * dx := wrap64 (by omega)
          have w4 : IntKind.wrap .i64 (y + (i : Int) * dy) = y + (i : Int) * dy := wrap64 (by omega)
          have hPG := hg.pre
          have hQ : (in1 (x + (i : Int) * dx) (-100) 100 && in1 (y + (i : Int) * dy) (-100) 100) = pnQ x y dx dy i := rfl
          cases kq : pnQ x y dx dy i with
          | false =>
            have hall : allN (pnQ x y dx dy) m = false := allN_false hi kq
            simp [b199_1, h35, h0, h1e, h2, h3, h4, h34, h15, hii, w1, w2, w3, w4, call416, hQ, kq, finish_nil2, hPG.take, hall]
          | true =>
            obtain ⟨o1, o2⟩ := pnQ_ok kq
            have c1 := call330 (pu := true) (SlR.pre hPG hs) hw hok o1 o2
            have hF : flI l (x + (i : Int) * dx) (y + (i : Int) * dy) l.length = pnF l x y dx dy i := rfl
            rw [hF] at c1
            have hff := fillF (pnF_len (l := l) (x := x) (y := y) (dx := dx) (dy := dy) (i := i))
            obtain ⟨g', G', hpush, hg'⟩ := hg.push (c := cs .u16 (pnF l x y dx dy i)) (bytes := 24) (by simp [pnF_len]) (room24 (by omega)) (wb := false)
            rw [← pnK_succ] at hg'
            simp [b199_1, h35, h0, h1e, h2, h3, h4, h34, h15, hii, w1, w2, w3, w4, call416, hQ, kq, c1, ev1_fld, fldV_a pnF_len cvr_len, zs_cs, hff, hpush, wbOf, e4']
            exact ⟨upto_succ hq kq, hg'⟩
        · rintro e G _ h35 ⟨h0, h1e, h2, h3, h4, h34, hq, g, h15, hg⟩
          have hfin := hg.fin2 (c := 0) bkC_flat
          simp [b199_1, h35, h34, h15, hfin, allN_true hq]
      obtain ⟨q, hq, ⟨ha, rfl⟩ | ⟨ha, rfl⟩⟩ := key
      · have hp : pnC l x y dx dy m = 0 := by unfold pnC; rw [if_pos hc, if_pos hP, if_pos (by simpa using ha)]
        have hL : pnL l x y dx dy m = pnK l x y dx dy m := by rw [pnL, if_pos hp]; simp
        rw [hp, hL]
        refine ⟨_, _, some H.length, hq, Pre.one, ?_⟩
        rw [pnK_len]
        exact own_new (by rw [cells12 pnK_W, pnK_len])
      · have hp : pnC l x y dx dy m = 2 := by unfold pnC; rw [if_pos hc, if_pos hP, if_neg (by simp [ha])]
        rw [hp] at hnil ⊢
        exact ⟨_, _, none, hq, .refl, hnil (by omega)⟩
theorem call198 {pu : Bool} {l : List Ly} {x y dx dy n : Int} (hw : ScW l) (hn : l.length ≤ 1000000) {H : Heap} {z : Value} (hs : Sc H z l) :
    ∃ r G' β, Call tab pu 198 [z, .int .i64 x, .int .i64 y, .int .i64 dx, .int .i64 dy, .int .i64 n] H = some (tup [r, .int .i64 (pnC l x y dx dy n)], G') ∧ Pre H G' ∧ Own G' r β H.length 12 (pnL l x y dx dy n).length (bkC (pnL l x y dx dy n)) := by
  have h1 := call331 (pu := true) (x := x) (y := y) hs hw hn
  have hnil : pnC l x y dx dy n ≠ 0 → finish H.length (H ++ [⟨[], 12, 0, false⟩]) [slc H.length 0 0 0 0, .int .i64 (pnC l x y dx dy n)] = (tup [slc H.length 0 0 0 0, .int .i64 (pnC l x y dx dy n)], H ++ [⟨[], 12, 0, false⟩]) ∧ Own (H ++ [⟨[], 12, 0, false⟩]) (slc H.length 0 0 0 0) (some H.length) H.length 12 (pnL l x y dx dy n).length (bkC (pnL l x y dx dy n)) := fun h => by
    refine ⟨(Gr.new (H := H) (esz := 12) .refl).fin2 (by intro v hv; simp at hv), ?_⟩
    rw [pnL, if_neg h]
    exact own_new (n := 0) rfl
  -- the loop that looks, when it looks no more
  have stop : ∀ (e : Env) (c : Int), e 15 = .int .i64 0 → e 14 = .int .i64 c → c ≠ 0 → e 5 = .int .i64 n → pnC l x y dx dy n = c → ∀ fs Q, (∀ e' : Env, e' 14 = .int .i64 c → KK tab H.length false (.exit 0) fs e' H Q) → WK tab H.length false (.loop b198_1) fs e H Q := by
    intro e c h15 h14 hc0 h5 _ fs Q hq
    refine WK_loop (fun _ e' G => e' 15 = .int .i64 0 ∧ e' 14 = .int .i64 c ∧ e' 5 = .int .i64 n ∧ G = H) 0 ?_ (Nat.zero_le _) ⟨h15, h14, h5, rfl⟩
    rintro i e' _ _ hi ⟨h15, h14, h5, rfl⟩
    have hcb : (c == 0) = false := by simpa using hc0
    by_cases hlt : 0 < n
    · simp [b198_1, h15, h14, h5, hlt, hcb]
      exact hq _ (by simp [h14])
    · simp [b198_1, h15, h14, h5, hlt, skip]
      exact hq _ (by simp [h14])
  by_cases hc : cmC l x y = 0
  rotate_left
  · have hb : (cmC l x y == 0) = false := by simpa using hc
    have hb2 : (cmC l x y != 0) = true := by simpa using hc
    have hp : pnC l x y dx dy n = cmC l x y := by unfold pnC; rw [if_neg hc]
    obtain ⟨f1, o1⟩ := hnil (by rw [hp]; exact hc)
    refine ⟨_, _, _, Call_wp t198 (.inr rfl) rfl ?_, Pre.one, o1⟩
    simp [c198, k198, h1, hb, skip, wbOf]
    refine stop _ _ (by simp) (by simp) hc (by simp) hp _ _ fun e' h14 => ?_
    rw [hp] at f1 ⊢
    simp [h14, hb2, fill, rep, f1]
  obtain ⟨hok, hx, hy⟩ := cmC_ok hc
  by_cases hP : pnP dx dy n = true
  rotate_left
  · have hp : pnC l x y dx dy n = 2 := by unfold pnC; rw [if_pos hc, if_neg hP]
    obtain ⟨f1, o1⟩ := hnil (by omega)
    refine ⟨_, _, _, Call_wp t198 (.inr rfl) rfl ?_, Pre.one, o1⟩
    rw [hp] at f1 ⊢
    cases k1 : in1 n 0 40 with
    | false =>
      simp [c198, k198, h1, hc, in304, k1, skip, wbOf]
      refine stop _ 2 (by simp) (by simp) (by omega) (by simp) hp _ _ fun e' h14 => ?_
      simp [h14, fill, rep, f1]
    | true =>
      cases k2 : in1 dx (-100) 100 with
      | false =>
        simp [c198, k198, h1, hc, in304, k1, k2, skip, wbOf]
        refine stop _ 2 (by simp) (by simp) (by omega) (by simp) hp _ _ fun e' h14 => ?_
        simp [h14, fill, rep, f1]
      | true =>
        cases k3 : in1 dy (-100) 100 with
        | false =>
          simp [c198, k198, h1, hc, in304, k1, k2, k3, skip, wbOf]
          refine stop _ 2 (by simp) (by simp) (by omega) (by simp) hp _ _ fun e' h14 => ?_
          simp [h14, fill, rep, f1]
        | true => exact absurd (by simp only [pnP, k1, k2, k3]; decide) hP
  obtain ⟨⟨m, rfl, hm⟩, hdx, hdy⟩ := pnP_ok hP
  have hPP := hP
  simp only [pnP, Bool.and_eq_true] at hPP
  have wr4 : ∀ i : Nat, i ≤ 40 → IntKind.wrap .i64 ((i : Int) * dx) = (i : Int) * dx ∧ IntKind.wrap .i64 ((i : Int) * dy) = (i : Int) * dy ∧ IntKind.wrap .i64 (x + (i : Int) * dx) = x + (i : Int) * dx ∧ IntKind.wrap .i64 (y + (i : Int) * dy) = y + (i : Int) * dy := fun i hi => by
    have m1 := mul_ok hi hdx
    have m2 := mul_ok hi hdy
    exact ⟨wrap64 (by omega), wrap64 (by omega), wrap64 (by omega), wrap64 (by omega)⟩
  have key : ∃ q, Call tab pu 198 [z, .int .i64 x, .int .i64 y, .int .i64 dx, .int .i64 dy, .int .i64 (m : Int)] H = some q ∧ ((allN (pnQ x y dx dy) m = true ∧ q = (tup [slc H.length 0 0 m m, .int .i64 0], H ++ [⟨bkC (pnK l x y dx dy m), 12, 0, false⟩])) ∨ (allN (pnQ x y dx dy) m = false ∧ q = (tup [slc H.length 0 0 0 0, .int .i64 2], H ++ [⟨[], 12, 0, false⟩]))) := by
    refine Call_ex t198 (.inr rfl) rfl ?_
    simp [c198, k198, h1, hc, in304, hPP.1, hPP.2.1, hPP.2.2, wbOf]
    refine WK_loop (fun i e G => e 0 = z ∧ e 1 = .int .i64 x ∧ e 2 = .int .i64 y ∧ e 3 = .int .i64 dx ∧ e 4 = .int .i64 dy ∧ e 5 = .int .i64 m ∧ e 15 = .int .i64 i ∧ H = G ∧ ((e 14 = .int .i64 0 ∧ ∀ j, j < i → pnQ x y dx dy j = true) ∨ (e 14 = .int .i64 2 ∧ allN (pnQ x y dx dy) m = false))) m ?_ (Nat.zero_le _) ⟨by simp, by simp, by simp, by simp, by simp, by simp, by simp, rfl, .inl ⟨by simp, fun j hj => by omega⟩⟩
    rintro i e _ _ hi ⟨h0, h1e, h2, h3, h4, h5, h15, rfl, h14⟩
    rcases h14 with ⟨h14, hq⟩ | ⟨h14, hall⟩
    · by_cases hie : i = m
      · subst hie
        have hall := allN_true hq
        simp [b198_1, h15, h14, h5, skip, fill, rep]
        refine WP_count 17 i _ rfl (fun j e G' => e 0 = z ∧ e 1 = .int .i64 x ∧ e 2 = .int .i64 y ∧ e 3 = .int .i64 dx ∧ e 4 = .int .i64 dy ∧ e 5 = .int .i64 i ∧ ∃ g, e 16 = g ∧ Gr _ G' g 12 j (bkC (pnK l x y dx dy j))) (by omega) ?_ ?_ (by simp) ⟨by simp [h0], by simp [h1e], by simp [h2], by simp [h3], by simp [h4], by simp [h5], slc _ 0 0 0 0, by simp, Gr.new .refl⟩
        · rintro j e G' _ hj hjj e4' h17 ⟨h0, h1e, h2, h3, h4, h5, g, h16, hg⟩
          obtain ⟨w1, w2, w3, w4⟩ := wr4 j (by omega)
          have hPG := hg.pre
          obtain ⟨o1, o2⟩ := pnQ_ok (hq j hj)
          have c1 := call332 (pu := true) (SlR.pre hPG hs) hw hok o1 o2
          have hF : flI l (x + (j : Int) * dx) (y + (j : Int) * dy) l.length = pnF l x y dx dy j := rfl
          rw [hF] at c1
          have hff := fillF (pnF_len (l := l) (x := x) (y := y) (dx := dx) (dy := dy) (i := j))
          obtain ⟨g', G'', hpush, hg'⟩ := hg.push (c := cs .u16 (pnF l x y dx dy j)) (bytes := 24) (by simp [pnF_len]) (room24 (by omega)) (wb := false)
          rw [← pnK_succ] at hg'
          have l1 : (pnF l x y dx dy j ++ cvr l (x + (j : Int) * dx) (y + (j : Int) * dy) l.length).length = 24 := by simp [pnF_len, cvr_len]
          have s3 := stc_zr (k := .u16) (n := 24) (l := pnF l x y dx dy j ++ cvr l (x + (j : Int) * dx) (y + (j : Int) * dy) l.length) l1
          simp [b198_2, h17, h0, h1e, h2, h3, h4, h5, h16, hjj, w1, w2, w3, w4, c1, zs_cs, agg_cs, pnF_len, cvr_len, s3, ldAB_a pnF_len cvr_len, hff, hpush, e4']
          exact hg'
        · rintro e G' _ h17 ⟨h0, h1e, h2, h3, h4, h5, g, h16, hg⟩
          have hfin := hg.fin2 (c := 0) bkC_flat
          simp [b198_2, h17, h5, h16, hfin, hall]
      · have hilt : (i : Int) < m := by omega
        obtain ⟨w1, w2, w3, w4⟩ := wr4 i (by omega)
        have c1 := call331 (pu := true) (x := x + (i : Int) * dx) (y := y + (i : Int) * dy) hs hw hn
        rw [cmC_at hok] at c1
        have e9 : IntKind.wrap .i64 ((i : Int) + 1) = ((i + 1 : Nat) : Int) := by rw [wrap64 (by omega)]; omega
        cases kq : pnQ x y dx dy i with
        | true =>
          rw [kq, if_pos rfl] at c1
          simp [b198_1, h15, h14, h5, h0, h1e, h2, h3, h4, hilt, w1, w2, w3, w4, c1, e9, -Int.natCast_add]
          exact ⟨by omega, upto_succ hq kq⟩
        | false =>
          rw [kq, if_neg (by decide)] at c1
          simp [b198_1, h15, h14, h5, h0, h1e, h2, h3, h4, hilt, w1, w2, w3, w4, c1, e9, -Int.natCast_add]
          exact ⟨by omega, allN_false (by omega) kq⟩
    · have hnil2 := (Gr.new (H := H) (esz := 12) .refl).fin2 (c := 2) (by intro v hv; simp at hv)
      by_cases hlt : (i : Int) < m
      · simp [b198_1, h15, h14, h5, hlt, fill, rep, hnil2, hall]
      · simp [b198_1, h15, h14, h5, hlt, skip, fill, rep, hnil2, hall]
  obtain ⟨q, hq, ⟨ha, rfl⟩ | ⟨ha, rfl⟩⟩ := key
  · have hp : pnC l x y dx dy m = 0 := by unfold pnC; rw [if_pos hc, if_pos hP, if_pos (by simpa using ha)]
    have hL : pnL l x y dx dy m = pnK l x y dx dy m := by rw [pnL, if_pos hp]; simp
    rw [hp, hL]
    refine ⟨_, _, some H.length, hq, Pre.one, ?_⟩
    rw [pnK_len]
    exact own_new (by rw [cells12 pnK_W, pnK_len])
  · have hp : pnC l x y dx dy m = 2 := by unfold pnC; rw [if_pos hc, if_pos hP, if_neg (by simp [ha])]
    obtain ⟨_, o1⟩ := hnil (by omega)
    rw [hp]
    exact ⟨_, _, _, hq, Pre.one, o1⟩
theorem call37 {H : Heap} {z : Value} {l : List Ly} {x y dx dy n : Int} (hs : Sc H z l) (hw : ScW l) (hn : l.length ≤ 9223372036854775807) : ∃ H', Call tab false 37 [z, .int .i64 x, .int .i64 y, .int .i64 dx, .int .i64 dy, .int .i64 n] H = some (.bool true, H') := by
  refine ⟨H, Call_wp t37 (.inl rfl) rfl ?_⟩
  have hsz := sz_call s189 (pu := true) hs (left := 1000000) (by omega) (by omega) hn
  by_cases hbig : l.length ≤ 1000000
  · have hsz' : ¬ (1000000 - (l.length : Int) < 0) := by omega
    rw [if_neg hsz'] at hsz
    have hlen := pnL_len (l := l) (x := x) (y := y) (dx := dx) (dy := dy) (n := n)
    obtain ⟨x1, G1, rs, G1', x2, G2, ri, G2', x3, G3, G4, G5, x4, G6, r4, G7, q1, w1, q2, w2, e1, q3, i1, m2, e3, n5, d1, q4, w3, e4, d2, P7⟩ := lsx_any (to := 191) (it := 194) (mA := 195) (sp := 198) (im := 199) (extra := [.int .i64 x, .int .i64 y, .int .i64 dx, .int .i64 dy, .int .i64 n]) hs hbig (scC_length hw) (fc := lyC lyF) rfl
      (fun G h => call191 h hw hbig) (fun G y z h h' => call194 (pu := true) h h' hw hbig) (fun G y h => call198 (pu := true) hw hbig h) (fun G y h => call199 (pu := true) hw hbig h) (eqBk pnL_W (by omega)) mark195 mark122 held123 (by omega)
    have hneg : ¬ ((101 : Int) + (((pnL l x y dx dy n).length * 12 : Nat) : Int) < 0) := by omega
    have hneg2 : ¬ ((101 : Int) + ((l.length * 27 : Nat) : Int) < 0) := by omega
    simp [c37, k37, hsz, hsz', wbOf, q1, w1, q2, w2, e1, q3, i1, m2, e3, n5, d1, q4, w3, e4, d2, hneg, hneg2, skip, P7.take, -Int.natCast_add, -Int.natCast_mul]
  · have hsz' : 1000000 - (l.length : Int) < 0 := by omega
    rw [if_pos hsz'] at hsz
    simp [c37, k37, hsz]
end Fb
