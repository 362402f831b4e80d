/- What each function computes. -/
import Derived.Test.YtmdnahopljfakaaUse0
set_option linter.unusedVariables false
set_option linter.unusedSimpArgs false
namespace Fb
open Go
theorem bne_T {a b : Int} (h : (a == b) = false) : (a != b) = true := by rw [bne, h]; rfl
theorem bne_F {a b : Int} (h : (a == b) = true) : (a != b) = false := by rw [bne, h]; rfl
theorem eqV_ch {a b c d : Int} : eqV (.a (rb 1 (some .i8) ++ rb 1 (some .u16))) (agg [.int .i8 a, .int .u16 b]) (agg [.int .i8 c, .int .u16 d]) = some (decide ((a, b) = (c, d))) := by
  show (if (#[Value.int .i8 a, .int .u16 b]).size = (rb 1 (some IntKind.i8) ++ rb 1 (some IntKind.u16)).length ∧ (#[Value.int .i8 c, .int .u16 d]).size = (rb 1 (some IntKind.i8) ++ rb 1 (some IntKind.u16)).length then eqCells (rb 1 (some .i8) ++ rb 1 (some .u16)) [.int .i8 a, .int .u16 b] [.int .i8 c, .int .u16 d] else none) = _
  rw [if_pos ⟨rfl, rfl⟩]
  simp only [rb, List.replicate, List.cons_append, List.nil_append, eqCells, and_self, if_true]
  by_cases h : a = c
  · by_cases h' : b = d
    · simp [h, h']
    · simp [h, h']
  · simp [h]
theorem call381 {pu : Bool} {H : Heap} {q off ver q' off' ver' : Nat} {x y : Value} {s t : Sted} (hd : rd H q off ver 5 = some (stC s x)) (hd' : rd H q' off' ver' 5 = some (stC t y)) (hx : Rw H x s) (hy : Rw H y t) (hn : s.rows.length ≤ 1000000) :
    Call tab pu 381 [adr q off ver, adr q' off' ver'] H = some (.bool (sameSt s t), H) := by
  refine Call_wp t381 (.inr rfl) rfl ?_
  have d0 := rd_part hd (o := 0) (m := 1) (by omega)
  have d1 := rd_part hd (o := 1) (m := 1) (by omega)
  have d2 := rd_part hd (o := 2) (m := 1) (by omega)
  have d3 := rd_part hd (o := 3) (m := 1) (by omega)
  have d4 := rd_part hd (o := 4) (m := 1) (by omega)
  have g0 := rd_part hd' (o := 0) (m := 1) (by omega)
  have g1 := rd_part hd' (o := 1) (m := 1) (by omega)
  have g2 := rd_part hd' (o := 2) (m := 1) (by omega)
  have g3 := rd_part hd' (o := 3) (m := 1) (by omega)
  have g4 := rd_part hd' (o := 4) (m := 1) (by omega)
  simp [stC] at d0 d1 d2 d3 d4 g0 g1 g2 g3 g4
  cases ha : (s.a == t.a)
  · simp [c381, k381, d0, d1, d2, d3, d4, g0, g1, g2, g3, g4, bne_T ha, ha, sameSt, skip]
  cases hb : (s.b == t.b)
  · simp [c381, k381, d0, d1, d2, d3, d4, g0, g1, g2, g3, g4, bne_F ha, bne_T hb, ha, hb, sameSt, skip]
  cases hc : (s.c == t.c)
  · simp [c381, k381, d0, d1, d2, d3, d4, g0, g1, g2, g3, g4, bne_F ha, bne_F hb, bne_T hc, ha, hb, hc, sameSt, skip]
  cases hdd : (s.d == t.d)
  · simp [c381, k381, d0, d1, d2, d3, d4, g0, g1, g2, g3, g4, bne_F ha, bne_F hb, bne_F hc, bne_T hdd, ha, hb, hc, hdd, sameSt, skip]
  cases hl : ((s.rows.length : Int) == t.rows.length)
  · simp [c381, k381, d0, d1, d2, d3, d4, g0, g1, g2, g3, g4, bne_F ha, bne_F hb, bne_F hc, bne_F hdd, SlR.lenV hx, SlR.lenV hy, bne_T hl, ha, hb, hc, hdd, hl, sameSt, rowsE, skip]
  simp [c381, k381, d0, d1, d2, d3, d4, g0, g1, g2, g3, g4, bne_F ha, bne_F hb, bne_F hc, bne_F hdd, SlR.lenV hx, SlR.lenV hy, bne_F hl]
  have hl' : s.rows.length = t.rows.length := by have := eq_of_beq hl; omega
  have hst : sameSt s t = allN (rowE s t) s.rows.length := by simp [sameSt, rowsE, ha, hb, hc, hdd, hl]
  refine WP_forH 5 s.rows.length _ rfl (by omega) (fun i e => e 0 = adr q off ver ∧ e 1 = adr q' off' ver' ∧ ∀ j, j < i → rowE s t j = true) ?_ ?_ (by simp) ⟨by simp, by simp, fun j hj => by omega⟩
  · rintro i e hi hii e4 h5 ⟨h0, h1, hj⟩
    obtain ⟨q1, off1, ver1, ha1, hrd1, _⟩ := Rw.at hx hi
    obtain ⟨q2, off2, ver2, ha2, hrd2, _⟩ := Rw.at hy (j := i) (by omega)
    cases hr : rowE s t i with
    | true =>
      have hr' : (rw' s i).1 = (rw' t i).1 ∧ (rw' s i).2 = (rw' t i).2 := by simpa [rowE, Prod.ext_iff] using hr
      simp [b381_1, h5, h0, h1, hii, d4, g4, SlR.lenV hx, ha1, hrd1, ha2, hrd2, eqV_ch, hr'.1, hr'.2, e4]
      exact upto_succ hj hr
    | false =>
      have hr' : ¬ ((rw' s i).1 = (rw' t i).1 ∧ (rw' s i).2 = (rw' t i).2) := by simpa [rowE, Prod.ext_iff] using hr
      have : allN (rowE s t) s.rows.length = false := allN_false (i := i) (by omega) hr
      simp [b381_1, h5, h0, h1, hii, d4, g4, SlR.lenV hx, ha1, hrd1, ha2, hrd2, eqV_ch, hr', hst, this]
  · rintro e h5 ⟨h0, h1, hj⟩
    have : allN (rowE s t) s.rows.length = true := allN_true fun i hi => hj i (by omega)
    simp [b381_1, h5, h0, d4, SlR.lenV hx, hst, this]
theorem call158 {pu : Bool} {H : Heap} {x y : Value} {l m : List Sted} (hx : StS H x l) (hy : StS H y m) (hn : l.length ≤ 1000000) (hr : ∀ s ∈ l, s.rows.length ≤ 1000000) : Call tab pu 158 [x, y] H = some (.bool (sameSts l m), H) := by
  refine Call_wp t158 (.inr rfl) rfl ?_
  by_cases hl : l.length = m.length
  · have hle : (((l.length : Int)) == m.length) = true := by simp [hl]
    simp [c158, k158, hx.lenV, hy.lenV, bne_F hle]
    have hst : sameSts l m = allN (fun i => sameSt (at0 l i) (at0 m i)) l.length := by simp [sameSts, hle]
    refine WP_forH 5 l.length _ rfl (by omega) (fun i e => e 0 = x ∧ e 1 = y ∧ ∀ j, j < i → sameSt (at0 l j) (at0 m j) = true) ?_ ?_ (by simp) ⟨by simp, by simp, fun j hj => by omega⟩
    · rintro i e hi hii e4 h5 ⟨h0, h1, hj⟩
      obtain ⟨q, off, ver, u, ha, hrd, hrw⟩ := hx.get hi
      obtain ⟨q', off', ver', u', ha', hrd', hrw'⟩ := hy.get (i := i) (by omega)
      have hc := call381 (pu := true) hrd hrd' hrw hrw' (hr _ (at0_mem hi))
      cases hq : sameSt (at0 l i) (at0 m i) with
      | true =>
        rw [hq] at hc
        simp [b158_1, h5, h0, h1, hii, hx.lenV, ha, ha', hc, e4]
        exact upto_succ hj hq
      | false =>
        rw [hq] at hc
        have : allN (fun i => sameSt (at0 l i) (at0 m i)) l.length = false := allN_false hi hq
        simp [b158_1, h5, h0, h1, hii, hx.lenV, ha, ha', hc, hst, this]
    · rintro e h5 ⟨h0, h1, hj⟩
      have : allN (fun i => sameSt (at0 l i) (at0 m i)) l.length = true := allN_true hj
      simp [b158_1, h5, h0, hx.lenV, hst, this]
  · have hle : (((l.length : Int)) == m.length) = false := beq_false_of_ne fun h => hl (by omega)
    simp [c158, k158, hx.lenV, hy.lenV, bne_T hle, hle, sameSts]
def ms2 (c : Int) (i : Nat) : Value := if i % 2 = 0 then .int .i8 (IntKind.wrap .i8 (c + i)) else .int .u16 (IntKind.wrap .u16 (c + i))
/-- A copy of steps while marks are being written over it. -/
structure MkI (G G' : Heap) (b ver lo hi n : Nat) (y : Nat → Value) (m : Nat → Nat) : Prop where
  len : G'.length = G.length
  fr : ∀ j, j < lo ∨ hi ≤ j → G'[j]? = G[j]?
  inb : lo ≤ b ∧ b < hi
  out : ∃ vs, G'[b]? = some ⟨vs, 5, ver, false⟩ ∧ n * 5 ≤ vs.length ∧ ∀ i, i < n → vs[i * 5 + 4]? = some (y i)
  row : ∀ i, i < n → ∃ b' ver' cap' ws, y i = slc b' 0 ver' (m i) cap' ∧ lo ≤ b' ∧ b' < hi ∧ b' ≠ b ∧ G'[b']? = some ⟨ws, 2, ver', false⟩ ∧ m i * 2 ≤ ws.length
theorem MkI.rows {G G' : Heap} {b ver lo hi n : Nat} {y : Nat → Value} {m : Nat → Nat} (h : MkI G G' b ver lo hi n y m) {b' ver' : Nat} {ws ws' : List Value} (hb : lo ≤ b' ∧ b' < hi) (hne : b' ≠ b) (hg : G'[b']? = some ⟨ws, 2, ver', false⟩) (hw : ws'.length = ws.length) :
    MkI G (G'.set b' ⟨ws', 2, ver', false⟩) b ver lo hi n y m := by
  refine ⟨by simp [h.len], fun j hj => ?_, h.inb, ?_, fun i hi => ?_⟩
  · rw [List.getElem?_set_ne (by omega)]
    exact h.fr j hj
  · obtain ⟨vs, h1, h2⟩ := h.out
    exact ⟨vs, by rw [List.getElem?_set_ne hne]; exact h1, h2⟩
  · obtain ⟨b2, ver2, cap2, ws2, h1, h2, h3, h4, h5, h6⟩ := h.row i hi
    by_cases hb2 : b' = b2
    · subst hb2
      rw [hg] at h5
      cases h5
      exact ⟨b', ver', cap2, ws', h1, h2, h3, h4, get_set hg, by rw [hw]; exact h6⟩
    · exact ⟨b2, ver2, cap2, ws2, h1, h2, h3, h4, by rw [List.getElem?_set_ne hb2]; exact h5, h6⟩
def mkS (m : Nat → Nat) (i : Nat) : Nat := itN (fun i v => v + 4 + m i * 2) 0 i
theorem Own.agree {G G' : Heap} {r : Value} {β : Option Nat} {n0 esz n : Nat} {vs : List Value} (h : Own G r β n0 esz n vs) (hne : ∀ b, β = some b → G'[b]? = G[b]?) : Own G' r β n0 esz n vs := by
  obtain ⟨hl, h⟩ := h
  refine ⟨hl, ?_⟩
  cases β with
  | none => exact h
  | some b =>
    obtain ⟨hb, ver, cap, rest, rfl, hc, hg⟩ := h
    exact ⟨hb, ver, cap, rest, rfl, hc, by rw [hne b rfl]; exact hg⟩
/-- What a function makes of steps: a list of its own, and a code. -/
def RsT (f : Nat) (extra : List Value) (l : List Sted) (eszR nR : Nat) (vsR : List Value) (c : Int) : Prop := ∀ (G : Heap) (y : Value), StS G y l →
  ∃ r G' β, Call tab true f (y :: extra) G = some (tup [r, .int .i64 c], G') ∧ Pre G G' ∧ Own G' r β G.length eszR nR vsR
/- Lists of numbers. -/
theorem elem_i {l : List Int} {k : IntKind} {i : Nat} (h : i < l.length) : elem (cs k l) 1 i = [.int k (nth l i)] := by
  unfold elem; rw [Nat.mul_one]; exact cs_one h
def depV (s : Sted) (v : List Int) : Int := if s.a == 0 then 0 else nth v s.b.toNat + 1
def depL (l : List Sted) (k : Nat) : List Int := itN (fun k v => v ++ [depV (at0 l k) v]) [] k
theorem depL_zero {l : List Sted} : depL l 0 = [] := itN_zero
theorem depL_succ {l : List Sted} {k : Nat} : depL l (k + 1) = depL l k ++ [depV (at0 l k) (depL l k)] := itN_succ
theorem depL_len {l : List Sted} {k : Nat} : (depL l k).length = k := by
  induction k with
  | zero => simp [depL_zero]
  | succ k ih => rw [depL_succ]; simp [ih]
theorem nth_app {v : List Int} {a : Int} {j : Nat} : nth (v ++ [a]) j = if j < v.length then nth v j else if j = v.length then a else 0 := by
  unfold nth
  by_cases h : j < v.length
  · rw [if_pos h]; simp [List.getElem?_append_left h, List.getD_eq_getElem?_getD]
  · rw [if_neg h]
    by_cases h2 : j = v.length
    · rw [if_pos h2]; subst h2; simp [List.getD_eq_getElem?_getD]
    · rw [if_neg h2, List.getD_eq_getElem?_getD, List.getElem?_eq_none (by simp; omega)]; rfl
theorem depL_ok {l : List Sted} (hk : okSts l = true) {k : Nat} (h : k ≤ l.length) : ∀ j, j < k → 0 ≤ nth (depL l k) j ∧ nth (depL l k) j ≤ j := by
  induction k with
  | zero => intro j hj; omega
  | succ k ih =>
    intro j hj
    have ih := ih (by omega)
    rw [depL_succ, nth_app, depL_len]
    by_cases h1 : j < k
    · rw [if_pos h1]; exact ih j h1
    · obtain rfl : j = k := by omega
      rw [if_neg h1, if_pos rfl]
      unfold depV
      by_cases ha : ((at0 l j).a == 0) = true
      · rw [if_pos ha]; omega
      · rw [if_neg ha]
        have hb := okSt_b (okSts_get hk (i := j) (by omega)) (by simpa using ha)
        have := ih (at0 l j).b.toNat (by omega)
        omega
def depR (l : List Sted) : List Int := if okSts l = true then depL l l.length else []
def depC (l : List Sted) : Int := if okSts l = true then 0 else 1
theorem cs_push {k : IntKind} {l : List Int} {a : Int} : cs k l ++ [.int k a] = cs k (l ++ [a]) := by simp [cs]
theorem depB {l : List Sted} (hk : okSts l = true) {i : Nat} (hi : i < l.length) (ha : ((at0 l i).a == 0) = false) : ∃ m : Nat, (at0 l i).b = m ∧ m < i := by
  have hb := okSt_b (okSts_get hk hi) (by simpa using ha)
  exact ⟨(at0 l i).b.toNat, by omega, by omega⟩
theorem room8 {i : Nat} (h : i ≤ 1000000) : (i + 1) * 8 ≤ roomMax := by have : roomMax = 140737488355328 := rfl; omega
theorem rs178 {l : List Sted} (hw : StsW l) : RsT 178 [] l 1 (depR l).length (cs .i64 (depR l)) (depC l) := by
  intro H x h
  have hn := hw.n
  cases hk : okSts l with
  | false =>
    have hfin := (Gr.new (H := H) (esz := 1) .refl).fin2 (c := 1) (by intro v hv; simp at hv)
    refine ⟨slc H.length 0 0 0 0, H ++ [⟨[], 1, 0, false⟩], some H.length, Call_wp t178 (.inr rfl) rfl ?_, Pre.one, ?_⟩
    · simp [c178, k178, call386 h hw, hk, fill, rep, hfin, depC]
    · simp [depR, hk, cs]; exact own_new (n := 0) rfl
  | true =>
    have e1 : depR l = depL l l.length := by simp [depR, hk]
    refine ⟨slc H.length 0 0 l.length l.length, H ++ [⟨cs .i64 (depL l l.length), 1, 0, false⟩], some H.length, Call_wp t178 (.inr rfl) rfl ?_, Pre.one, by rw [e1, depL_len]; exact own_new (by simp [depL_len])⟩
    simp [c178, k178, call386 h hw, hk, fill, rep, depC]
    refine WP_count 5 l.length l.length rfl (fun i e G => e 0 = x ∧ ∃ g, e 4 = g ∧ Gr H G g 1 i (cs .i64 (depL l i))) (by omega) ?_ ?_ (by simp) (by simp [depL_zero, cs]; exact Gr.new .refl)
    · rintro i e G _ hi hii e4 h5 ⟨h0, g, h4, hg⟩
      obtain ⟨q, off, ver, y, ha, hrd, _⟩ := (h.pre hg.pre).get hi
      have d0 := rd_part hrd (o := 0) (m := 1) (by omega)
      have d1 := rd_part hrd (o := 1) (m := 1) (by omega)
      simp [stC] at d0 d1
      obtain ⟨g', G', hpush, hg'⟩ := hg.push (c := [.int .i64 (depV (at0 l i) (depL l i))]) (bytes := 8) rfl (room8 (by omega)) (wb := false)
      rw [cs_push, ← depL_succ] at hg'
      cases hz : (at0 l i).a == 0 with
      | true =>
        have hz' := bne_F hz
        have ev : depV (at0 l i) (depL l i) = 0 := by rw [depV, if_pos hz]
        rw [ev] at hpush
        have hf1 := fill_one (z := [.int .i64 0]) (v := .int .i64 0) (esz := 1) rfl rfl
        simp [b178_1, h5, h0, h4, hii, h.lenV, ha, d0, hz', hf1, hpush, wbOf, e4]
        exact hg'
      | false =>
        have hz' := bne_T hz
        obtain ⟨m, hm, hmi⟩ := depB hk hi hz
        obtain ⟨q2, off2, ver2, ha2, hr2⟩ := hg.sl.get1 hmi
        rw [elem_i (by rw [depL_len]; exact hmi)] at hr2
        rw [idxAV_k (k' := .i8)] at ha2
        have hb := depL_ok hk (k := i) (by omega) m hmi
        have ev : depV (at0 l i) (depL l i) = nth (depL l i) m + 1 := by rw [depV, if_neg (by rw [hz]; decide), hm]; rfl
        rw [ev] at hpush
        have w1 : IntKind.wrap .i64 (nth (depL l i) m + 1) = nth (depL l i) m + 1 := wrap64 (by omega)
        have hf1 := fill_one (z := [.int .i64 0]) (v := .int .i64 (nth (depL l i) m + 1)) (esz := 1) rfl rfl
        rw [hm] at d1
        simp [b178_1, h5, h0, h4, hii, h.lenV, ha, d0, d1, hz', ha2, hr2, w1, hf1, hpush, wbOf, e4]
        exact hg'
    · rintro e G _ h5 ⟨h0, g, h4, hg⟩
      have hfin := hg.fin2 (c := 0) flat_cs
      simp [b178_1, h5, h0, h.lenV, h4, hfin]
theorem rs179 {l : List Sted} (hw : StsW l) : RsT 179 [] l 1 (depR l).length (cs .i64 (depR l)) (depC l) := by
  intro H x h
  have hn := hw.n
  cases hk : okSts l with
  | false =>
    refine ⟨.slice none 0 0, H, none, Call_wp t179 (.inr rfl) rfl ?_, .refl, ?_⟩
    · simp [c179, k179, call163 h hw, hk, finish_nil2, depC]
    · simp [depR, hk, cs, Own]
  | true =>
    have e1 : depR l = depL l l.length := by simp [depR, hk]
    refine ⟨slc H.length 0 0 l.length l.length, H ++ [⟨cs .i64 (depL l l.length), 1, 0, false⟩], some H.length, Call_wp t179 (.inr rfl) rfl ?_, Pre.one, by rw [e1, depL_len]; exact own_new (by simp [depL_len])⟩
    simp [c179, k179, call163 h hw, hk, fill, rep, depC, h.lenV]
    refine WP_count 13 l.length l.length rfl (fun i e G => e 11 = x ∧ e 12 = .int .i64 l.length ∧ ∃ g, e 4 = g ∧ Gr H G g 1 i (cs .i64 (depL l i))) (by omega) ?_ ?_ (by simp) (by simp [depL_zero, cs]; exact Gr.new .refl)
    · rintro i e G _ hi hii e4 h5 ⟨h0, h12, g, h4, hg⟩
      obtain ⟨q, off, ver, y, ha, hrd, _⟩ := (h.pre hg.pre).get hi
      obtain ⟨g', G', hpush, hg'⟩ := hg.push (c := [.int .i64 (depV (at0 l i) (depL l i))]) (bytes := 8) rfl (room8 (by omega)) (wb := false)
      rw [cs_push, ← depL_succ] at hg'
      have hf1 := fill_one (z := [.int .i64 0]) (v := .int .i64 (depV (at0 l i) (depL l i))) (esz := 1) rfl rfl
      have hc : Call tab true 400 [agg (stC (at0 l i) y), g] G = some (.int .i64 (depV (at0 l i) (depL l i)), G) := by
        refine Call_wp t400 (.inr rfl) rfl ?_
        cases hz : (at0 l i).a == 0 with
        | true =>
          have ev : depV (at0 l i) (depL l i) = 0 := by rw [depV, if_pos hz]
          simp [c400, k400, stC, ldc5a, hz, ev]
        | false =>
          obtain ⟨m, hm, hmi⟩ := depB hk hi hz
          obtain ⟨q2, off2, ver2, ha2, hr2⟩ := hg.sl.get1 hmi
          rw [elem_i (by rw [depL_len]; exact hmi)] at hr2
          rw [idxAV_k (k' := .i8)] at ha2
          have hb := depL_ok hk (k := i) (by omega) m hmi
          have ev : depV (at0 l i) (depL l i) = nth (depL l i) m + 1 := by rw [depV, if_neg (by rw [hz]; decide), hm]; rfl
          have w1 : IntKind.wrap .i64 (nth (depL l i) m + 1) = nth (depL l i) m + 1 := wrap64 (by omega)
          simp [c400, k400, stC, ldc5a, ldc5b, hz, hm, ha2, hr2, w1, ev]
      simp only [stC] at hrd hc
      simp [b179_1, h5, h0, h12, h4, hii, ha, hrd, stc5, ldc5, hc, hf1, hpush, wbOf, e4]
      exact hg'
    · rintro e G _ h5 ⟨h0, h12, g, h4, hg⟩
      have hfin := hg.fin2 (c := 0) flat_cs
      simp [b179_1, h5, h12, h4, hfin]
/-- A row from its bits. -/
def rowN (q : Nat → Bool) (m : Nat) : Nat := itN (fun i v => v ||| if q i = true then 2 ^ i else 0) 0 m
theorem rowN_succ {q : Nat → Bool} {m : Nat} : rowN q (m + 1) = rowN q m ||| if q m = true then 2 ^ m else 0 := itN_succ
theorem rowN_bit {q : Nat → Bool} {m x : Nat} : (rowN q m).testBit x = (decide (x < m) && q x) := by
  induction m with
  | zero => simp [rowN, itN_zero]
  | succ m ih =>
    rw [rowN_succ, Nat.testBit_or, ih]
    by_cases h : x = m
    · subst h
      cases hq : q x <;> simp
    · have h2 : decide (x < m + 1) = decide (x < m) := by apply decide_eq_decide.2; omega
      rw [h2]
      cases hq : q m
      · simp
      · simp [Nat.testBit_two_pow]; omega
theorem rowN_lt {q : Nat → Bool} {m : Nat} : rowN q m < 2 ^ m := by
  apply Nat.lt_pow_two_of_testBit
  intro i hi
  rw [rowN_bit]
  simp; omega
theorem rowN_eq {q : Nat → Bool} {n m : Nat} (hn : n < 2 ^ m) (h : ∀ x, x < m → n.testBit x = q x) : n = rowN q m := by
  apply Nat.eq_of_testBit_eq
  intro x
  rw [rowN_bit]
  by_cases hx : x < m
  · rw [h x hx]; simp [hx]
  · simp [hx]
    exact Nat.testBit_lt_two_pow (Nat.lt_of_lt_of_le hn (Nat.pow_le_pow_right (by omega) (by omega)))
/-- A frame from its dots. -/
def dotsF (p : Nat → Nat → Bool) : List Int := tabN 12 fun y => ((rowN (fun x => p x y) 12 : Nat) : Int)
theorem dotsF_length {p : Nat → Nat → Bool} : (dotsF p).length = 12 := by simp [dotsF, tabN]
theorem dotsF_nth {p : Nat → Nat → Bool} {y : Nat} (hy : y < 12) : nth (dotsF p) y = ((rowN (fun x => p x y) 12 : Nat) : Int) := nth_tabN hy
theorem dotsF_W {p : Nat → Nat → Bool} : FrW (dotsF p) := ⟨dotsF_length, fun n hn => by
  obtain ⟨i, hi, rfl⟩ := List.getElem_of_mem hn
  rw [dotsF_length] at hi
  have h1 := dotsF_nth (p := p) hi
  have h2 := rowN_lt (q := fun x => p x i) (m := 12)
  rw [nth_of (List.getElem?_eq_getElem (by rw [dotsF_length]; exact hi))] at h1
  rw [h1]; simp only [u16']; omega⟩
theorem dotsF_ok {p : Nat → Nat → Bool} : okF (dotsF p) = true := by
  apply List.all_eq_true.2
  intro n hn
  obtain ⟨i, hi, rfl⟩ := List.getElem_of_mem hn
  rw [dotsF_length] at hi
  have h1 := dotsF_nth (p := p) hi
  have h2 := rowN_lt (q := fun x => p x i) (m := 12)
  rw [nth_of (List.getElem?_eq_getElem (by rw [dotsF_length]; exact hi))] at h1
  rw [h1]; simp only [okRow, decide_eq_true_eq]; omega
theorem list12 {f g : List Int} (hf : f.length = 12) (hg : g.length = 12) (h : ∀ y, y < 12 → nth f y = nth g y) : f = g := by
  apply List.ext_getElem (by omega)
  intro i h1 h2
  have := h i (by omega)
  rw [nth_of (List.getElem?_eq_getElem h1), nth_of (List.getElem?_eq_getElem h2)] at this
  exact this
theorem dotsF_congr {p q : Nat → Nat → Bool} (h : ∀ x y, x < 12 → y < 12 → p x y = q x y) : dotsF p = dotsF q := by
  refine list12 dotsF_length dotsF_length fun y hy => ?_
  rw [dotsF_nth hy, dotsF_nth hy]
  congr 1
  apply rowN_eq rowN_lt
  intro x hx
  rw [rowN_bit]; simp [hx, h x y hx hy]
theorem dotsF_none : dotsF (fun _ _ => false) = zr 12 0 := by
  refine list12 dotsF_length (by simp) fun y hy => ?_
  rw [dotsF_nth hy, nth_zr]
  have : rowN (fun _ => false) 12 = 0 := (rowN_eq (by decide) fun x hx => by simp).symm
  simp [this]
theorem bit_nat {x : Nat} : bit x = ((2 ^ x : Nat) : Int) := by simp [bit]
theorem or_nat {a b : Nat} (ha : a < 65536) (hb : b < 65536) : bitsOf .or .u16 (a : Int) (b : Int) = ((a ||| b : Nat) : Int) := by
  have e0 : IntKind.bits .u16 = 16 := rfl
  unfold bitsOf
  simp only []
  have hl : a ||| b < 2 ^ 16 := Nat.or_lt_two_pow ha hb
  have e1 : (BitVec.ofInt (IntKind.bits .u16) (a : Int) ||| BitVec.ofInt (IntKind.bits .u16) (b : Int)).toNat = a ||| b := by
    rw [BitVec.toNat_or, e0, BitVec.ofInt_natCast, BitVec.ofInt_natCast, BitVec.toNat_ofNat, BitVec.toNat_ofNat, Nat.mod_eq_of_lt (by omega), Nat.mod_eq_of_lt (by omega)]
  rw [e1, wrapu16 (by omega)]
theorem putF_dots {p : Nat → Nat → Bool} {x y : Nat} (hx : x < 12) (hy : y < 12) : putF (dotsF p) x y = dotsF fun x' y' => p x' y' || (decide (x' = x) && decide (y' = y)) := by
  refine list12 (by rw [putF_length, dotsF_length]) dotsF_length fun j hj => ?_
  rw [dotsF_nth hj, putF, nth_set (by rw [dotsF_length]; exact hy)]
  have hlt := rowN_lt (q := fun x => p x y) (m := 12)
  have h2 : 2 ^ x < 2 ^ 12 := Nat.pow_lt_pow_right (by omega) hx
  by_cases h : y = j
  · subst h
    rw [if_pos rfl, dotsF_nth hj, putR, bit_nat, or_nat (by omega) (by omega)]
    congr 1
    apply rowN_eq (Nat.or_lt_two_pow hlt h2)
    intro x' hx'
    rw [Nat.testBit_or, rowN_bit, Nat.testBit_two_pow]
    simp only [hx', decide_true, Bool.true_and, Bool.and_true]
    congr 1
    apply decide_eq_decide.2
    omega
  · rw [if_neg h, dotsF_nth hj]
    congr 1
    apply rowN_eq rowN_lt
    intro x' hx'
    have h3 : ¬ j = y := fun h2 => h h2.symm
    rw [rowN_bit]
    simp [hx', h3]
/-- The dots of a frame that has been moved. -/
def mvP (f : List Int) (dx dy : Int) (x y : Nat) : Bool := decide (0 ≤ (x : Int) - dx ∧ (x : Int) - dx < 12 ∧ 0 ≤ (y : Int) - dy ∧ (y : Int) - dy < 12) && hasF f ((x : Int) - dx).toNat ((y : Int) - dy).toNat
def shF (f : List Int) (dx dy : Int) : List Int := dotsF (mvP f dx dy)
/-- One dot put at its new place, if that is one. -/
def mv1 (dx dy : Int) (k : Nat) (s : List Int) : List Int :=
  if 0 ≤ ((k % 12 : Nat) : Int) + dx ∧ ((k % 12 : Nat) : Int) + dx < 12 ∧ 0 ≤ ((k / 12 : Nat) : Int) + dy ∧ ((k / 12 : Nat) : Int) + dy < 12 then putF s (((k % 12 : Nat) : Int) + dx).toNat (((k / 12 : Nat) : Int) + dy).toNat else s
def mvS (dx dy : Int) (L : List Nat) : List Int := L.foldl (fun s k => mv1 dx dy k s) (zr 12 0)
theorem mvS_snoc {dx dy : Int} {L : List Nat} {k : Nat} : mvS dx dy (L ++ [k]) = mv1 dx dy k (mvS dx dy L) := by simp [mvS]
theorem mvS_dots {dx dy : Int} {L : List Nat} : mvS dx dy L = dotsF fun x y => decide (∃ k ∈ L, ((k % 12 : Nat) : Int) + dx = x ∧ ((k / 12 : Nat) : Int) + dy = y) := by
  suffices h : ∀ n, ∀ L : List Nat, L.length = n → mvS dx dy L = dotsF fun x y => decide (∃ k ∈ L, ((k % 12 : Nat) : Int) + dx = x ∧ ((k / 12 : Nat) : Int) + dy = y) from h _ L rfl
  intro n
  induction n with
  | zero =>
    intro L hL
    obtain rfl := List.length_eq_zero_iff.1 hL
    rw [show mvS dx dy [] = zr 12 0 from rfl, ← dotsF_none]
    apply dotsF_congr
    intro x y _ _
    simp
  | succ n ih =>
    intro L hL
    obtain ⟨L', k, rfl⟩ : ∃ L' k, L = L' ++ [k] := by
      refine ⟨L.dropLast, L.getLast (by intro h; rw [h] at hL; cases hL), (List.dropLast_concat_getLast _).symm⟩
    rw [mvS_snoc, ih L' (by simpa using hL), mv1]
    split
    · rename_i h
      rw [putF_dots (by omega) (by omega)]
      apply dotsF_congr
      intro x y hx hy
      rw [Bool.eq_iff_iff]
      simp only [Bool.or_eq_true, Bool.and_eq_true, decide_eq_true_eq, List.mem_append, List.mem_singleton]
      constructor
      · rintro (⟨j, h1, h2⟩ | ⟨h1, h2⟩)
        · exact ⟨j, .inl h1, h2⟩
        · exact ⟨k, .inr rfl, by omega, by omega⟩
      · rintro ⟨j, h1 | rfl, h2, h3⟩
        · exact .inl ⟨j, h1, h2, h3⟩
        · exact .inr ⟨by omega, by omega⟩
    · rename_i h
      apply dotsF_congr
      intro x y hx hy
      rw [Bool.eq_iff_iff]
      simp only [decide_eq_true_eq, List.mem_append, List.mem_singleton]
      constructor
      · rintro ⟨j, h1, h2⟩
        exact ⟨j, .inl h1, h2⟩
      · rintro ⟨j, h1 | rfl, h2, h3⟩
        · exact ⟨j, h1, h2, h3⟩
        · exact absurd ⟨by omega, by omega, by omega, by omega⟩ h
theorem mvS_all {f : List Int} {dx dy : Int} : mvS dx dy (dotL f 144) = shF f dx dy := by
  rw [mvS_dots]
  apply dotsF_congr
  intro x y hx hy
  rw [Bool.eq_iff_iff]
  simp only [mvP, Bool.and_eq_true, decide_eq_true_eq]
  simp only [dotL, List.mem_filter, List.mem_range]
  constructor
  · rintro ⟨k, ⟨h1, h2⟩, h3, h4⟩
    have e1 : ((x : Int) - dx).toNat = k % 12 := by omega
    have e2 : ((y : Int) - dy).toNat = k / 12 := by omega
    refine ⟨by omega, ?_⟩
    rw [e1, e2]; exact h2
  · rintro ⟨h1, h2⟩
    refine ⟨((y : Int) - dy).toNat * 12 + ((x : Int) - dx).toNat, ⟨by omega, ?_⟩, by omega, by omega⟩
    rw [hasK_yx (by omega)]; exact h2
/- The rows, moved at once. -/
theorem and_4095 {n : Nat} (h : n ≤ 65535) : bitsOf .and .u16 (n : Int) 4095 = ((n % 4096 : Nat) : Int) := by
  have e0 : IntKind.bits .u16 = 16 := rfl
  unfold bitsOf
  simp only []
  have e1 : (BitVec.ofInt (IntKind.bits .u16) (n : Int) &&& BitVec.ofInt (IntKind.bits .u16) 4095).toNat = n % 4096 := by
    have e2 : n % 2 ^ 16 = n := Nat.mod_eq_of_lt (by omega)
    rw [BitVec.toNat_and, e0, BitVec.ofInt_natCast, BitVec.toNat_ofNat, show (BitVec.ofInt 16 4095).toNat = 2 ^ 12 - 1 from rfl, e2, Nat.and_two_pow_sub_one_eq_mod]
  rw [e1, wrapu16 (by omega)]
theorem shl_nat {n d : Nat} (hd : d ≤ 12) : shiftOf .shl .u16 (n : Int) (d : Int) = some (.int .u16 ((n * 2 ^ d % 65536 : Nat) : Int)) := by
  unfold shiftOf
  rw [if_neg (by omega)]
  have e1 : min ((d : Int).toNat) (IntKind.bits .u16) = d := by
    have : IntKind.bits .u16 = 16 := rfl
    omega
  simp only [e1]
  have e2 : (n : Int) * 2 ^ d = ((n * 2 ^ d : Nat) : Int) := by simp
  rw [e2]
  show some (Value.int .u16 (((n * 2 ^ d : Nat) : Int) % 65536)) = _
  congr 2
theorem shr_nat {n d : Nat} (hd : d ≤ 12) : shiftOf .shr .u16 (n : Int) (d : Int) = some (.int .u16 ((n / 2 ^ d : Nat) : Int)) := by
  unfold shiftOf
  rw [if_neg (by omega)]
  have e1 : min ((d : Int).toNat) (IntKind.bits .u16) = d := by
    have : IntKind.bits .u16 = 16 := rfl
    omega
  simp only [e1]
  have e2 : (2 : Int) ^ d = ((2 ^ d : Nat) : Int) := by simp
  rw [e2, Int.fdiv_eq_ediv_of_nonneg _ (Int.natCast_nonneg _), ← Int.natCast_ediv]
/-- One row of a frame that has been moved. -/
def mvR (f : List Int) (dx dy : Int) (y : Nat) : Int := nth (shF f dx dy) y
theorem mvR_shl {f : List Int} {d y n : Nat} {dy : Int} (hy : y < 12) (hsy : 0 ≤ (y : Int) - dy ∧ (y : Int) - dy < 12) (hn : nth f ((y : Int) - dy).toNat = n) : mvR f d dy y = ((n * 2 ^ d % 4096 : Nat) : Int) := by
  rw [mvR, shF, dotsF_nth hy]
  congr 1
  refine (rowN_eq (m := 12) (Nat.mod_lt _ (by decide)) fun x hx => ?_).symm
  rw [Nat.testBit_mod_two_pow, Nat.testBit_mul_two_pow]
  rw [Bool.eq_iff_iff]
  simp only [mvP, hasF, hn, dotB_bit, Bool.and_eq_true, decide_eq_true_eq]
  constructor
  · rintro ⟨_, h1, h2⟩
    refine ⟨by omega, ?_⟩
    rw [show ((x : Int) - d).toNat = x - d by omega]; exact h2
  · rintro ⟨h1, h2⟩
    refine ⟨hx, by omega, ?_⟩
    rw [show ((x : Int) - d).toNat = x - d by omega] at h2; exact h2
theorem mvR_shr {f : List Int} {d y n : Nat} {dy : Int} (hy : y < 12) (hsy : 0 ≤ (y : Int) - dy ∧ (y : Int) - dy < 12) (hn : nth f ((y : Int) - dy).toNat = n) (hlt : n < 4096) : mvR f (-(d : Int)) dy y = ((n / 2 ^ d : Nat) : Int) := by
  rw [mvR, shF, dotsF_nth hy]
  congr 1
  refine (rowN_eq (m := 12) (Nat.lt_of_le_of_lt (Nat.div_le_self _ _) hlt) fun x hx => ?_).symm
  rw [Nat.testBit_div_two_pow]
  rw [Bool.eq_iff_iff]
  simp only [mvP, hasF, hn, dotB_bit, Bool.and_eq_true, decide_eq_true_eq]
  have e1 : ((x : Int) - -(d : Int)).toNat = x + d := by omega
  rw [e1]
  constructor
  · intro h2
    refine ⟨?_, h2⟩
    have : ¬ (12 ≤ x + d) := fun h => by
      have := Nat.testBit_lt_two_pow (x := n) (i := x + d) (Nat.lt_of_lt_of_le hlt (Nat.pow_le_pow_right (n := 2) (by omega) h))
      rw [this] at h2; cases h2
    omega
  · rintro ⟨_, h2⟩
    exact h2
theorem mvR_off {f : List Int} {dx dy : Int} {y : Nat} (hy : y < 12) (h : ¬ (0 ≤ (y : Int) - dy ∧ (y : Int) - dy < 12)) : mvR f dx dy y = 0 := by
  rw [mvR, shF, dotsF_nth hy]
  have : rowN (fun x => mvP f dx dy x y) 12 = 0 := (rowN_eq (by decide) fun x hx => by
    simp only [mvP]
    rw [decide_eq_false (by omega)]; simp).symm
  rw [this]; rfl
theorem shF_far {f : List Int} {dx dy : Int} (h : ¬ (-12 ≤ dx ∧ dx ≤ 12)) : shF f dx dy = zr 12 0 := by
  rw [← dotsF_none]
  apply dotsF_congr
  intro x y hx hy
  simp only [mvP]
  rw [decide_eq_false (by omega)]; simp
/-- A moved frame, made so far. -/
def shU (f : List Int) (dx dy : Int) (k : Nat) : List Int := tabN 12 fun y => if y < k then mvR f dx dy y else 0
theorem shU_zero {f : List Int} {dx dy : Int} : shU f dx dy 0 = zr 12 0 :=
  (tabN_of (by simp) fun i _ => by rw [nth_zr]; simp).symm
theorem shU_all {f : List Int} {dx dy : Int} : shU f dx dy 12 = shF f dx dy :=
  (tabN_of (by rw [shF, dotsF_length]) fun i hi => by rw [if_pos hi]; rfl).symm
theorem shU_length {f : List Int} {dx dy : Int} {k : Nat} : (shU f dx dy k).length = 12 := tabN_length
theorem shU_set {f : List Int} {dx dy : Int} {k : Nat} (hk : k < 12) {v : Int} (hv : mvR f dx dy k = v) : (shU f dx dy k).set k v = shU f dx dy (k + 1) :=
  tabN_set hk (by rw [if_pos (by omega), hv]) fun i _ hi => by
    by_cases h : i < k
    · rw [if_pos h, if_pos (by omega)]
    · rw [if_neg h, if_neg (by omega)]
theorem shU_skip {f : List Int} {dx dy : Int} {k : Nat} (hk : k < 12) (h0 : mvR f dx dy k = 0) : shU f dx dy k = shU f dx dy (k + 1) :=
  tabN_ext fun i _ => by
    by_cases h : i < k
    · rw [if_pos h, if_pos (by omega)]
    · by_cases h2 : i = k
      · subst h2; rw [if_neg h, if_pos (by omega), h0]
      · rw [if_neg h, if_neg (by omega)]
theorem shF_length {f : List Int} {dx dy : Int} : (shF f dx dy).length = 12 := dotsF_length
theorem call358 {pu : Bool} {H : Heap} {f : List Int} {dx dy : Int} (hw : FrW f) (hk : okF f = true) (hx : -1000 ≤ dx ∧ dx ≤ 1000) (hy : -1000 ≤ dy ∧ dy ≤ 1000) : Call tab pu 358 [iv .u16 f, .int .i64 dx, .int .i64 dy] H = some (iv .u16 (shF f dx dy), H) := by
  refine Call_wp t358 (.inr rfl) rfl ?_
  have hl := hw.len
  have hz := stc_zr (k := .u16) (n := 12) (l := zr 12 0) (by simp)
  have hz2 := stc_zr (k := .u16) (n := 12) (l := shF f dx dy) shF_length
  cases hb : in1 dx (-12) 12 with
  | false =>
    have hf : shF f dx dy = zr 12 0 := shF_far (by simpa [in1] using hb)
    simp [c358, k358, zs_cs, agg_cs, fill, hz, in295, hb, hf]
  | true =>
    have hb' : -12 ≤ dx ∧ dx ≤ 12 := by simpa [in1] using hb
    simp [c358, k358, zs_cs, agg_cs, fill, hz, in295, hb]
    refine WP_forH 15 12 12 rfl (by omega) (fun i e => e 1 = .int .i64 dx ∧ e 2 = .int .i64 dy ∧ e 3 = iv .u16 f ∧ e 6 = iv .u16 (zr 12 0) ∧ e 7 = iv .u16 (shU f dx dy i)) ?_ ?_ (by simp) (by simp [shU_zero])
    · rintro y e hy12 hyy e4 h15 ⟨h1, h2, h3, h6, h7⟩
      have u1 : IntKind.wrap .i64 ((y : Int) - dy) = (y : Int) - dy := wrap64 (by omega)
      cases hs : in1 ((y : Int) - dy) 0 11 with
      | false =>
        have h0 := mvR_off (f := f) (dx := dx) (dy := dy) hy12 (by simp only [in1, decide_eq_false_iff_not] at hs; omega)
        have hsk := shU_skip hy12 h0
        simp [b358_1, h15, h1, h2, h3, h6, h7, hyy, u1, in295, hs, e4, hsk]
      | true =>
        have hs' : 0 ≤ (y : Int) - dy ∧ (y : Int) - dy < 12 := by simp only [in1, decide_eq_true_eq] at hs; omega
        obtain ⟨m, hm⟩ : ∃ m : Nat, (y : Int) - dy = m := ⟨((y : Int) - dy).toNat, by omega⟩
        have hm12 : m < 12 := by omega
        obtain ⟨n, hn, hn4⟩ := okF_row hk hw hm12
        have hn' : nth f ((y : Int) - dy).toNat = n := by rw [hm]; exact hn
        rw [hm] at hs u1
        have hlu := shU_length (f := f) (dx := dx) (dy := dy) (k := y)
        by_cases hd : 0 ≤ dx
        · obtain ⟨d, rfl⟩ := Int.eq_ofNat_of_zero_le hd
          have hd12 : d ≤ 12 := by omega
          have hv := mvR_shl (f := f) (d := d) (dy := dy) hy12 hs' hn'
          have hst := shU_set hy12 hv
          have q1 := shl_nat (n := n) hd12
          have q2 := and_4095 (n := n * 2 ^ d % 65536) (by omega)
          rw [Nat.mod_mod_of_dvd _ (by decide)] at q2
          have e9 := stc_at (k := .u16) (l := shU f d dy y) (by omega) hst
          simp (disch := omega) [b358_1, h15, h1, h2, h3, h6, h7, hyy, u1, hm, in295, hs, hm12, hl, hn, q1, q2, hy12, hlu, e9, e4, -Int.natCast_emod, -Int.natCast_mul, -Int.natCast_pow]
        · obtain ⟨d, rfl⟩ : ∃ d : Nat, dx = -(d : Int) := ⟨(-dx).toNat, by omega⟩
          have hd12 : d ≤ 12 := by omega
          have hv := mvR_shr (f := f) (d := d) (dy := dy) hy12 hs' hn' hn4
          have hst := shU_set hy12 hv
          have q1 := shr_nat (n := n) hd12
          have e9 := stc_at (k := .u16) (l := shU f (-(d : Int)) dy y) (by omega) hst
          have u2 : IntKind.wrap .i64 (d : Int) = (d : Int) := wrap64 (by omega)
          have hd0 : ¬ d = 0 := by omega
          simp (disch := omega) [b358_1, h15, h1, h2, h3, h6, h7, hyy, u1, hm, in295, hs, hm12, hl, hn, hd0, q1, u2, hy12, hlu, e9, e4, -Int.natCast_ediv, -Int.natCast_pow]
    · rintro e h15 ⟨h1, h2, h3, h6, h7⟩
      rw [shU_all] at h7
      simp [b358_1, h15, h6, h7, hz2, shF_length, agg_cs]
theorem put_off {G : Heap} {b : Nat} {x y : Int} (h : okP x y = false) : Call tab false 305 [adr b 0 0, .int .i64 x, .int .i64 y] G = some (tup [], G) := by
  refine Call_wp t305 (.inl rfl) rfl ?_
  simp [c305, k305, placeS, h]
theorem mv1_in {dx dy : Int} {x y u v : Nat} {s : List Int} (hx : x < 12) (e1 : (x : Int) + dx = u) (e2 : (y : Int) + dy = v) (hu : u < 12) (hv : v < 12) : mv1 dx dy (y * 12 + x) s = putF s u v := by
  have m1 : (y * 12 + x) % 12 = x := by omega
  have m2 : (y * 12 + x) / 12 = y := by omega
  rw [mv1, m1, m2, e1, e2, if_pos (by omega)]; rfl
theorem mv1_out {dx dy : Int} {x y : Nat} {s : List Int} (hx : x < 12) (h : okP ((x : Int) + dx) ((y : Int) + dy) = false) : mv1 dx dy (y * 12 + x) s = s := by
  have m1 : (y * 12 + x) % 12 = x := by omega
  have m2 : (y * 12 + x) / 12 = y := by omega
  rw [mv1, m1, m2, if_neg]
  intro h2
  have : okP ((x : Int) + dx) ((y : Int) + dy) = true := by simp [okP]; omega
  rw [this] at h; cases h
theorem mvS_length {dx dy : Int} {L : List Nat} : (mvS dx dy L).length = 12 := by rw [mvS_dots, dotsF_length]
theorem call355 {pu : Bool} {H : Heap} {q off ver : Nat} {f : List Int} {dx dy : Int} (hw : FrW f) (hr : rd H q off ver 12 = some (cs .u16 f)) (hx : -1000 ≤ dx ∧ dx ≤ 1000) (hy : -1000 ≤ dy ∧ dy ≤ 1000) :
    Call tab pu 355 [adr q off ver, .int .i64 dx, .int .i64 dy] H = some (iv .u16 (shF f dx dy), H) := by
  refine Call_wp t355 (.inr rfl) rfl ?_
  have hl := hw.len
  have hz := stc_zr (k := .u16) (n := 12) (l := shF f dx dy) shF_length
  have hle := dotL_len (f := f) (k := 144)
  obtain ⟨G0, hG0⟩ : ∃ G0, G0 = H ++ [⟨cs .u16 (zr 12 0), 1, 0, false⟩] := ⟨_, rfl⟩
  have hP0 : Pre H G0 := by rw [hG0]; exact Pre.one
  have hlen0 : G0.length = H.length + 1 := by rw [hG0]; simp
  have hc := call440 (pu := true) hw (hP0.rd hr)
  have hwr : wr H.length false (H ++ [⟨cs .u16 (zr 12 0), 1, 0, false⟩]) H.length 0 0 (cs .u16 (zr 12 0)) = some G0 := by
    rw [wr_at get_last rfl rfl (by simp [may]) (by simp), hG0]
    simp [splice]
  simp [c355, k355, zs_cs, agg_cs, fill, rep, hwr, wbOf, hc]
  refine WP_count 9 (dotL f 144).length _ rfl (fun j e G => e 1 = .int .i64 dx ∧ e 2 = .int .i64 dy ∧ e 6 = iv .u16 (zr 12 0) ∧ e 7 = adr H.length 0 0 ∧ e 8 = slc G0.length 0 0 (dotL f 144).length (dotL f 144).length ∧
    G = H ++ [⟨cs .u16 (mvS dx dy ((dotL f 144).take j)), 1, 0, false⟩, ⟨dotC f 144, 2, 0, false⟩]) (by omega) ?_ ?_ (by simp) ⟨by simp, by simp, by simp, by simp, by simp, by rw [hG0]; simp; rfl⟩
  · rintro j e _ _ hj hjj e4 h9 ⟨h1, h2, h6, h7, h8, rfl⟩
    obtain ⟨y, x, hp, hy12, hx12, hni, htk⟩ := dotL_at hj
    obtain ⟨F, hF⟩ : ∃ F, F = mvS dx dy ((dotL f 144).take j) := ⟨_, rfl⟩
    have hFl : F.length = 12 := by rw [hF, mvS_length]
    have hF1 : mvS dx dy ((dotL f 144).take (j + 1)) = mv1 dx dy (y * 12 + x) F := by rw [htk, mvS_snoc, hF]
    rw [hF1, ← hF]
    obtain ⟨G, hG⟩ : ∃ G, G = H ++ [⟨cs .u16 F, 1, 0, false⟩, ⟨dotC f 144, 2, 0, false⟩] := ⟨_, rfl⟩
    have hGG : G = H ++ [⟨cs .u16 F, 1, 0, false⟩] ++ [⟨dotC f 144, 2, 0, false⟩] := by rw [hG]; simp
    have pG : G[G0.length]? = some ⟨dotC f 144, 2, 0, false⟩ := by
      rw [hGG, hlen0]
      have := get_last (H := H ++ [⟨cs .u16 F, 1, 0, false⟩]) (b := ⟨dotC f 144, 2, 0, false⟩)
      rw [List.length_append] at this
      exact this
    have pF : G[H.length]? = some ⟨cs .u16 F, 1, 0, false⟩ := by
      rw [hGG, List.getElem?_append_left (by simp)]; exact get_last
    have hcl : (dotC f 144).length = (dotL f 144).length * 2 := by rw [dotC, mvsC_length]; simp
    have hs0 : SlR G (slc G0.length 0 0 (dotL f 144).length (dotL f 144).length) 2 (dotL f 144).length (dotC f 144) := ⟨hcl, .inr ⟨_, 0, 0, _, rfl, Nat.le_refl _, by rw [rd_at pG rfl (by simp [hcl])]; simp [take_all (Nat.le_of_eq hcl)], _, pG, rfl, rfl⟩⟩
    obtain ⟨b, o, v, ha, hr2⟩ := hs0.get1 hj
    have hel : elem (dotC f 144) 2 j = mvC ((x : Int), (y : Int)) := by
      rw [dotC, mvsC_elem (by simpa using hj), mv_map hj, hp, dotM_yx hx12]
    rw [hel] at hr2
    have d0 := rd_part hr2 (o := 0) (m := 1) (by omega)
    have d1 := rd_part hr2 (o := 1) (m := 1) (by omega)
    simp [mvC] at d0 d1
    have w1 : IntKind.wrap .i64 (x : Int) = x := wrap64 (by omega)
    have w2 : IntKind.wrap .i64 (y : Int) = y := wrap64 (by omega)
    have c1 : IntKind.wrap .i64 ((x : Int) + dx) = (x : Int) + dx := wrap64 (by omega)
    have c2 : IntKind.wrap .i64 ((y : Int) + dy) = (y : Int) + dy := wrap64 (by omega)
    rw [← hG]
    cases ho : okP ((x : Int) + dx) ((y : Int) + dy) with
    | false =>
      have hpo := put_off (G := G) (b := H.length) ho
      rw [mv1_out hx12 ho]
      simp [b355_1, h9, h1, h2, h6, h7, h8, hjj, ha, d0, d1, w1, w2, c1, c2, hpo, wbOf, e4, ← hG]
    | true =>
      obtain ⟨u, v, eu, ev, hu, hv⟩ := okP_get ho
      have hput := call305 (x := u) (y := v) pF hFl hu hv
      rw [mv1_in hx12 eu ev hu hv]
      have hset : G.set H.length ⟨cs .u16 (putF F u v), 1, 0, false⟩ = H ++ [⟨cs .u16 (putF F u v), 1, 0, false⟩, ⟨dotC f 144, 2, 0, false⟩] := by
        rw [hGG, List.set_append_left _ _ (by simp), set_last]; simp
      rw [hset] at hput
      rw [eu] at c1
      rw [ev] at c2
      have hel2 : elder H.length false G (tup [], H ++ [⟨cs .u16 (putF F u v), 1, 0, false⟩, ⟨dotC f 144, 2, 0, false⟩]) = some (tup [], H ++ [⟨cs .u16 (putF F u v), 1, 0, false⟩, ⟨dotC f 144, 2, 0, false⟩]) := elder_same (by rw [hG]; simp)
      simp [b355_1, h9, h1, h2, h6, h7, h8, hjj, ha, d0, d1, w1, w2, eu, ev, c1, c2, hput, hel2, wbOf, e4]
  · rintro e _ _ h9 ⟨h1, h2, h6, h7, h8, rfl⟩
    have hrd : rd (H ++ [⟨cs .u16 (mvS dx dy ((dotL f 144).take (dotL f 144).length)), 1, 0, false⟩, ⟨dotC f 144, 2, 0, false⟩]) H.length 0 0 12 = some (cs .u16 (shF f dx dy)) := by
      rw [List.take_length, mvS_all]
      have := rd_app (L := [⟨dotC f 144, 2, 0, false⟩]) (rd_last (H := H) (b := ⟨cs .u16 (shF f dx dy), 1, 0, false⟩) (n := 12) rfl (by simp [shF_length]))
      simpa using this
    rw [List.take_length] at hrd
    simp [b355_1, h9, h6, h7, h8, hrd, hz, shF_length, agg_cs]
def rowX (f : List Int) (m : Int × Int) : List Int := f.set m.1.toNat (xorI (nth f m.1.toNat) m.2)
def rowsX (f : List Int) (s : Sted) (k : Nat) : List Int := itN (fun k f => rowX f (rw' s k)) f k
theorem rowsX_zero {f : List Int} {s : Sted} : rowsX f s 0 = f := itN_zero
theorem rowsX_succ {f : List Int} {s : Sted} {k : Nat} : rowsX f s (k + 1) = rowX (rowsX f s k) (rw' s k) := itN_succ
theorem rowX_length {f : List Int} {m : Int × Int} : (rowX f m).length = f.length := by simp [rowX]
theorem rowsX_length {f : List Int} {s : Sted} {k : Nat} (h : f.length = 12) : (rowsX f s k).length = 12 := by
  induction k with
  | zero => rw [rowsX_zero, h]
  | succ k ih => rw [rowsX_succ, rowX_length, ih]
theorem set_W {f : List Int} {i : Nat} {v : Int} (hw : FrW f) (hk : okF f = true) (hv : u16' v) (hv2 : okRow v = true) : FrW (f.set i v) ∧ okF (f.set i v) = true := by
  refine ⟨⟨by rw [List.length_set, hw.len], fun n hn => ?_⟩, List.all_eq_true.2 fun n hn => ?_⟩
  · rcases List.mem_or_eq_of_mem_set hn with h | rfl
    · exact hw.2 n h
    · exact hv
  · rcases List.mem_or_eq_of_mem_set hn with h | rfl
    · exact List.all_eq_true.1 (show f.all okRow = true from hk) n h
    · exact hv2
theorem okF_nth {f : List Int} (hw : FrW f) (hk : okF f = true) {y : Nat} (hy : y < 12) : u16' (nth f y) ∧ okRow (nth f y) = true :=
  ⟨hw.nth hy, List.all_eq_true.1 (show f.all okRow = true from hk) _ (nth_mem (by rw [hw.len]; exact hy))⟩
theorem rowB_get {s : Sted} {j : Nat} (h : rowB s j = true) : ∃ y : Nat, (rw' s j).1 = y ∧ y < 12 ∧ u16' (rw' s j).2 ∧ okRow (rw' s j).2 = true := by
  simp only [rowB, Bool.and_eq_true, in1, decide_eq_true_eq] at h
  refine ⟨(rw' s j).1.toNat, by omega, by omega, ?_, ?_⟩
  · simp only [u16']; omega
  · simp only [okRow, decide_eq_true_eq]; omega
theorem rowsX_ok {f : List Int} {s : Sted} (hw : FrW f) (hk : okF f = true) (hs : rowsB s = true) {k : Nat} (h : k ≤ s.rows.length) : FrW (rowsX f s k) ∧ okF (rowsX f s k) = true := by
  induction k with
  | zero => rw [rowsX_zero]; exact ⟨hw, hk⟩
  | succ k ih =>
    obtain ⟨h1, h2⟩ := ih (by omega)
    obtain ⟨y, e, hy, u, o⟩ := rowB_get (allN_get (p := rowB s) hs (i := k) (by omega))
    obtain ⟨g1, g2⟩ := okF_nth h1 h2 hy
    rw [rowsX_succ, rowX, e]
    exact set_W h1 h2 xorI_ok (xorI_row g1 u g2 o)
theorem zr_ok : FrW (zr 12 0) ∧ okF (zr 12 0) = true := by rw [← dotsF_none]; exact ⟨dotsF_W, dotsF_ok⟩
theorem shF_still {f : List Int} (hw : FrW f) (hk : okF f = true) : shF f 0 0 = f := by
  refine list12 shF_length hw.len fun y hy => ?_
  obtain ⟨n, hn, hlt⟩ := okF_row hk hw hy
  have := mvR_shl (f := f) (d := 0) (y := y) (n := n) (dy := 0) hy (by omega) (by rw [show ((y : Int) - 0).toNat = y by omega]; exact hn)
  rw [hn]
  have e : n * 2 ^ 0 % 4096 = n := by rw [Nat.pow_zero, Nat.mul_one, Nat.mod_eq_of_lt hlt]
  rw [e] at this
  exact this
def baseF (s : Sted) (v : List (List Int)) : List Int := if s.a == 0 then zr 12 0 else shF (fr v s.b.toNat) s.c s.d
def decF (s : Sted) (v : List (List Int)) : List Int := rowsX (baseF s v) s s.rows.length
def decL (l : List Sted) (k : Nat) : List (List Int) := itN (fun k v => v ++ [decF (at0 l k) v]) [] k
theorem decL_zero {l : List Sted} : decL l 0 = [] := itN_zero
theorem decL_succ {l : List Sted} {k : Nat} : decL l (k + 1) = decL l k ++ [decF (at0 l k) (decL l k)] := itN_succ
theorem decL_len {l : List Sted} {k : Nat} : (decL l k).length = k := by
  induction k with
  | zero => simp [decL_zero]
  | succ k ih => rw [decL_succ]; simp [ih]
theorem baseF_ok {s : Sted} {v : List (List Int)} : FrW (baseF s v) ∧ okF (baseF s v) = true := by
  unfold baseF; split
  · exact zr_ok
  · exact ⟨dotsF_W, dotsF_ok⟩
theorem okSt_rows {s : Sted} {i : Nat} (h : okSt s i = true) : rowsB s = true := by
  simp only [okSt, Bool.and_eq_true] at h; exact h.1
theorem decF_ok {s : Sted} {v : List (List Int)} (h : rowsB s = true) : FrW (decF s v) ∧ okF (decF s v) = true := rowsX_ok baseF_ok.1 baseF_ok.2 h (Nat.le_refl _)
theorem decL_ok {l : List Sted} (hk : okSts l = true) {k : Nat} (h : k ≤ l.length) : ∀ f ∈ decL l k, FrW f ∧ okF f = true := by
  induction k with
  | zero => intro f hf; rw [decL_zero] at hf; cases hf
  | succ k ih =>
    intro f hf
    rw [decL_succ] at hf
    rcases List.mem_append.1 hf with h1 | h1
    · exact ih (by omega) f h1
    · rw [List.mem_singleton] at h1
      subst h1
      exact decF_ok (okSt_rows (okSts_get hk (by omega)))
theorem okSt_still {s : Sted} {i : Nat} (h : okSt s i = true) (ha : (s.a == 1) = true) : s.c = 0 ∧ s.d = 0 := by
  simp only [okSt, kindB, Bool.and_eq_true] at h
  obtain ⟨_, h⟩ := h
  have h0 : (s.a == 0) = false := by
    have := eq_of_beq ha
    simp [this]
  rw [if_neg (by rw [h0]; decide), if_pos ha] at h
  simp only [Bool.and_eq_true, stillB] at h
  exact ⟨eq_of_beq h.2.1, eq_of_beq h.2.2⟩
/-- The rows of a step, put over a frame: the spec. -/
theorem inner418 {n0 : Nat} {G : Heap} {s : Sted} {y x g : Value} {i : Int} {B : List Int} (hB : B.length = 12) (hrw : Rw G y s) (hs : rowsB s = true) (hn : s.rows.length ≤ 1000000) {fs : List Fr} {Q : Ex → Env → Heap → Prop} {e : Env}
    (h0 : e 0 = x) (h3 : e 3 = g) (h4 : e 4 = .int .i64 i) (h5 : e 5 = agg (stC s y)) (h6 : e 6 = iv .u16 B) (h7 : e 7 = .int .i64 0)
    (hq : ∀ e', e' 0 = x → e' 3 = g → e' 4 = .int .i64 i → e' 6 = iv .u16 (rowsX B s s.rows.length) → KK tab n0 false (.exit 3) fs e' G Q) : WK tab n0 false (.loop b418_1) fs e G Q := by
  refine WP_forH 7 s.rows.length _ rfl (by omega) (fun k e => e 0 = x ∧ e 3 = g ∧ e 4 = .int .i64 i ∧ e 5 = agg (stC s y) ∧ e 6 = iv .u16 (rowsX B s k)) ?_ ?_ h7 ⟨h0, h3, h4, h5, by rw [rowsX_zero]; exact h6⟩
  · rintro k e hk hkk e4 h7 ⟨h0, h3, h4, h5, h6⟩
    obtain ⟨q, off, ver, ha, hr, hr1, hr2⟩ := Rw.at hrw hk
    obtain ⟨m, hm, hm12, u, o⟩ := rowB_get (allN_get (p := rowB s) hs hk)
    have hl := rowsX_length (s := s) (k := k) hB
    have hst : (rowsX B s k).set m (xorI (nth (rowsX B s k) m) (rw' s k).2) = rowsX B s (k + 1) := by rw [rowsX_succ, rowX, hm]; rfl
    have e9 := stc_at (k := .u16) (l := rowsX B s k) (by omega) hst
    rw [hm] at hr1
    simp only [stC] at h5
    simp (disch := omega) [b418_1, h0, h3, h4, h5, h6, h7, ldc5e, SlR.lenV hrw, hkk, ha, hr1, hr2, hm12, hl, xorI_eq, e9, e4, stC]
  · rintro e h7 ⟨h0, h3, h4, h5, h6⟩
    simp only [stC] at h5
    simp [b418_1, h5, h7, ldc5e, SlR.lenV hrw]
    exact hq _ (by simp [h0]) (by simp [h3]) (by simp [h4]) (by simp [h6])
theorem call418 {pu : Bool} {H : Heap} {x : Value} {l : List Sted} (h : StS H x l) (hw : StsW l) (hk : okSts l = true) : Call tab pu 418 [x] H = some (slc H.length 0 0 l.length l.length, H ++ [⟨bkC (decL l l.length), 12, 0, false⟩]) := by
  refine Call_wp t418 (.inr rfl) rfl ?_
  have hn := hw.n
  have hn40 := okSts_len hk
  have hz := stc_zr (k := .u16) (n := 12) (l := zr 12 0) (by simp)
  simp [c418, k418, fill, rep, zs_cs]
  refine WP_count 4 l.length l.length rfl (fun i e G => e 0 = x ∧ ∃ g, e 3 = g ∧ Gr H G g 12 i (bkC (decL l i))) (by omega) ?_ ?_ (by simp) (by simp [decL_zero, bkC, rowsC]; exact Gr.new .refl)
  · rintro i e G _ hi hii e4 h4 ⟨h0, g, h3, hg⟩
    obtain ⟨q, off, ver, y, ha, hrd, hrw⟩ := (h.pre hg.pre).get hi
    simp only [stC] at hrd
    have hok := okSts_get hk hi
    have hrb := okSt_rows hok
    have hBW : BkW (decL l i) := fun f hf => (decL_ok hk (by omega) f hf).1
    have hsl : Bk G g (decL l i) := by
      have := hg.sl
      unfold Bk
      rw [decL_len]
      exact this
    have hwst := hw.w _ (at0_mem hi)
    have hr6 := hw.r _ (at0_mem hi)
    have hdec : decF (at0 l i) (decL l i) = rowsX (baseF (at0 l i) (decL l i)) (at0 l i) (at0 l i).rows.length := rfl
    have hdl : (decF (at0 l i) (decL l i)).length = 12 := by rw [hdec]; exact rowsX_length baseF_ok.1.len
    obtain ⟨g', G', hpush, hg'⟩ := hg.push (c := cs .u16 (decF (at0 l i) (decL l i))) (bytes := 24) (by simp [hdl]) (room24 (by omega)) (wb := false)
    have hbk : bkC (decL l i) ++ cs .u16 (decF (at0 l i) (decL l i)) = bkC (decL l (i + 1)) := by rw [decL_succ, bkC, bkC, rowsC_app]; simp [rowsC, frC]
    rw [hbk] at hg'
    have hBl := (baseF_ok (s := at0 l i) (v := decL l i)).1.len
    have ha2 := okSt_a hok
    have hc : IntKind.wrap .i64 (at0 l i).c = (at0 l i).c := wrap64 (by have := hwst.c; omega)
    have hd : IntKind.wrap .i64 (at0 l i).d = (at0 l i).d := wrap64 (by have := hwst.d; omega)
    cases hz0 : (at0 l i).a == 0 with
    | true =>
      have hb : baseF (at0 l i) (decL l i) = zr 12 0 := by rw [baseF, if_pos hz0]
      have hz1 : ((at0 l i).a == 1) = false := by have := eq_of_beq hz0; simp [this]
      have hz2 : ((at0 l i).a == 2) = false := by have := eq_of_beq hz0; simp [this]
      simp [b418_2, h0, h4, hii, h.lenV, ha, hrd, stc5, ldc5a, hz1, hz2, zs_cs, agg_cs, fill, hz, wbOf]
      refine inner418 (B := zr 12 0) (by simp) hrw hrb hr6 (by simp; exact h0) (by simp; exact h3) (by simp; exact h4) (by simp [stC]) (by simp) (by simp) fun e' q0 q3 q4 q6 => ?_
      rw [← hb, ← hdec] at q6
      simp [q0, q3, q4, q6, zs_cs, hdl, fillF hdl, hpush, e4]
      exact hg'
    | false =>
      obtain ⟨m, hm, hmi⟩ := depB hk hi hz0
      obtain ⟨q2, off2, ver2, ha2', hr2⟩ := Bk.get hsl hBW (i := m) (by rw [decL_len]; exact hmi)
      rw [idxAV_k (k' := .i8)] at ha2'
      obtain ⟨fw, fo⟩ := decL_ok hk (k := i) (by omega) (fr (decL l i) m) (at0_mem (by rw [decL_len]; exact hmi))
      have hb : baseF (at0 l i) (decL l i) = shF (fr (decL l i) m) (at0 l i).c (at0 l i).d := by rw [baseF, if_neg (by rw [hz0]; decide), hm]; rfl
      have hzl := stc_zr (k := .u16) (n := 12) (l := shF (fr (decL l i) m) (at0 l i).c (at0 l i).d) shF_length
      cases hz1 : (at0 l i).a == 1 with
      | true =>
        obtain ⟨ec, ed⟩ := okSt_still hok hz1
        rw [ec, ed, shF_still fw fo] at hb
        have hzl := stc_zr (k := .u16) (n := 12) (l := fr (decL l i) m) fw.len
        simp [b418_2, h0, h3, h4, hii, h.lenV, ha, hrd, stc5, ldc5a, ldc5b, hz1, hm, ha2', hr2, zs_cs, agg_cs, fill, hz, hzl, fw.len, wbOf]
        refine inner418 (B := fr (decL l i) m) fw.len hrw hrb hr6 (by simp; exact h0) (by simp; exact h3) (by simp; exact h4) (by simp [stC, hm]) (by simp) (by simp) fun e' q0 q3 q4 q6 => ?_
        rw [← hb, ← hdec] at q6
        simp [q0, q3, q4, q6, zs_cs, hdl, fillF hdl, hpush, e4]
        exact hg'
      | false =>
        have hz2 : ((at0 l i).a == 2) = true := by
          simp at hz0 hz1 ⊢; omega
        have hcl := call355 (pu := true) (dx := (at0 l i).c) (dy := (at0 l i).d) fw hr2 (by have := hwst.c; omega) (by have := hwst.d; omega)
        simp [b418_2, h0, h3, h4, hii, h.lenV, ha, hrd, stc5, ldc5a, ldc5b, ldc5c, ldc5d, hz1, hz2, hm, ha2', hc, hd, hcl, zs_cs, agg_cs, fill, hz, hzl, shF_length, wbOf]
        refine inner418 (B := shF (fr (decL l i) m) (at0 l i).c (at0 l i).d) shF_length hrw hrb hr6 (by simp; exact h0) (by simp; exact h3) (by simp; exact h4) (by simp [stC, hm]) (by simp) (by simp) fun e' q0 q3 q4 q6 => ?_
        rw [← hb, ← hdec] at q6
        simp [q0, q3, q4, q6, zs_cs, hdl, fillF hdl, hpush, e4]
        exact hg'
  · rintro e G _ h4 ⟨h0, g, h3, hg⟩
    have hfin := hg.fin bkC_flat
    simp [b418_2, h4, h0, h.lenV, h3, hfin]
/-- The rows of a step, put over a frame: the impl. -/
theorem inner419 {n0 : Nat} {G : Heap} {s : Sted} {y x g : Value} {i n : Int} {B : List Int} (hB : B.length = 12) (hrw : Rw G y s) (hs : rowsB s = true) (hn : s.rows.length ≤ 1000000) {fs : List Fr} {Q : Ex → Env → Heap → Prop} {e : Env}
    (h0 : e 10 = x) (h3 : e 3 = g) (h4 : e 12 = .int .i64 i) (h5 : e 11 = .int .i64 n) (h33 : e 33 = y) (h34 : e 34 = .int .i64 s.rows.length) (h6 : e 6 = iv .u16 B) (h7 : e 35 = .int .i64 0)
    (hq : ∀ e', e' 10 = x → e' 3 = g → e' 12 = .int .i64 i → e' 11 = .int .i64 n → e' 6 = iv .u16 (rowsX B s s.rows.length) → KK tab n0 false (.exit 2) fs e' G Q) : WK tab n0 false (.loop b419_1) fs e G Q := by
  refine WP_forH 35 s.rows.length _ rfl (by omega) (fun k e => e 10 = x ∧ e 3 = g ∧ e 12 = .int .i64 i ∧ e 11 = .int .i64 n ∧ e 33 = y ∧ e 34 = .int .i64 s.rows.length ∧ e 6 = iv .u16 (rowsX B s k)) ?_ ?_ h7 ⟨h0, h3, h4, h5, h33, h34, by rw [rowsX_zero]; exact h6⟩
  · rintro k e hk hkk e4 h7 ⟨h0, h3, h4, h5, h33, h34, h6⟩
    obtain ⟨q, off, ver, ha, hr, hr1, hr2⟩ := Rw.at hrw hk
    obtain ⟨m, hm, hm12, u, o⟩ := rowB_get (allN_get (p := rowB s) hs hk)
    have hl := rowsX_length (s := s) (k := k) hB
    have hst : (rowsX B s k).set m (xorI (nth (rowsX B s k) m) (rw' s k).2) = rowsX B s (k + 1) := by rw [rowsX_succ, rowX, hm]; rfl
    have e9 := stc_at (k := .u16) (l := rowsX B s k) (by omega) hst
    rw [hm] at hr
    simp (disch := omega) [b419_1, h0, h3, h4, h5, h33, h34, h6, h7, hkk, ha, hr, stc2c, ldc2, ldc2b, hm12, hl, xorI_eq, e9, e4]
  · rintro e h7 ⟨h0, h3, h4, h5, h33, h34, h6⟩
    simp [b419_1, h34, h7]
    exact hq _ (by simp [h0]) (by simp [h3]) (by simp [h4]) (by simp [h5]) (by simp [h6])
theorem call419 {pu : Bool} {H : Heap} {x : Value} {l : List Sted} (h : StS H x l) (hw : StsW l) (hk : okSts l = true) : Call tab pu 419 [x] H = some (slc H.length 0 0 l.length l.length, H ++ [⟨bkC (decL l l.length), 12, 0, false⟩]) := by
  refine Call_wp t419 (.inr rfl) rfl ?_
  have hn := hw.n
  have hn40 := okSts_len hk
  have hz := stc_zr (k := .u16) (n := 12) (l := zr 12 0) (by simp)
  simp [c419, k419, fill, rep, zs_cs, h.lenV]
  refine WP_count 12 l.length l.length rfl (fun i e G => e 10 = x ∧ e 11 = .int .i64 l.length ∧ ∃ g, e 3 = g ∧ Gr H G g 12 i (bkC (decL l i))) (by omega) ?_ ?_ (by simp) (by simp [decL_zero, bkC, rowsC]; exact Gr.new .refl)
  · rintro i e G _ hi hii e4 h4 ⟨h0, h11, g, h3, hg⟩
    obtain ⟨q, off, ver, y, ha, hrd, hrw⟩ := (h.pre hg.pre).get hi
    simp only [stC] at hrd
    have hok := okSts_get hk hi
    have hrb := okSt_rows hok
    have hBW : BkW (decL l i) := fun f hf => (decL_ok hk (by omega) f hf).1
    have hsl : Bk G g (decL l i) := by
      have := hg.sl
      unfold Bk
      rw [decL_len]
      exact this
    have hwst := hw.w _ (at0_mem hi)
    have hr6 := hw.r _ (at0_mem hi)
    have hdec : decF (at0 l i) (decL l i) = rowsX (baseF (at0 l i) (decL l i)) (at0 l i) (at0 l i).rows.length := rfl
    have hdl : (decF (at0 l i) (decL l i)).length = 12 := by rw [hdec]; exact rowsX_length baseF_ok.1.len
    obtain ⟨g', G', hpush, hg'⟩ := hg.push (c := cs .u16 (decF (at0 l i) (decL l i))) (bytes := 24) (by simp [hdl]) (room24 (by omega)) (wb := false)
    have hbk : bkC (decL l i) ++ cs .u16 (decF (at0 l i) (decL l i)) = bkC (decL l (i + 1)) := by rw [decL_succ, bkC, bkC, rowsC_app]; simp [rowsC, frC]
    rw [hbk] at hg'
    have hc : IntKind.wrap .i64 (at0 l i).c = (at0 l i).c := wrap64 (by have := hwst.c; omega)
    have hd : IntKind.wrap .i64 (at0 l i).d = (at0 l i).d := wrap64 (by have := hwst.d; omega)
    cases hz0 : (at0 l i).a == 0 with
    | true =>
      have hb : baseF (at0 l i) (decL l i) = zr 12 0 := by rw [baseF, if_pos hz0]
      have hz1 := bne_F hz0
      simp [b419_2, h0, h11, h4, hii, ha, hrd, stc5, ldc5a, ldc5e, SlR.lenV hrw, hz1, zs_cs, agg_cs, fill, hz, wbOf]
      refine inner419 (B := zr 12 0) (by simp) hrw hrb hr6 (by simp; exact h0) (by simp; exact h3) (by simp; exact h4) (by simp; exact h11) (by simp) (by simp) (by simp) (by simp) fun e' q0 q3 q4 q11 q6 => ?_
      rw [← hb, ← hdec] at q6
      simp [q0, q3, q4, q11, q6, zs_cs, hdl, fillF hdl, hpush, e4]
      exact hg'
    | false =>
      have hz1 := bne_T hz0
      obtain ⟨m, hm, hmi⟩ := depB hk hi hz0
      obtain ⟨q2, off2, ver2, ha2', hr2⟩ := Bk.get hsl hBW (i := m) (by rw [decL_len]; exact hmi)
      rw [idxAV_k (k' := .i8)] at ha2'
      obtain ⟨fw, fo⟩ := decL_ok hk (k := i) (by omega) (fr (decL l i) m) (at0_mem (by rw [decL_len]; exact hmi))
      have hb : baseF (at0 l i) (decL l i) = shF (fr (decL l i) m) (at0 l i).c (at0 l i).d := by rw [baseF, if_neg (by rw [hz0]; decide), hm]; rfl
      have hzl := stc_zr (k := .u16) (n := 12) (l := shF (fr (decL l i) m) (at0 l i).c (at0 l i).d) shF_length
      have hcl := call358 (pu := true) (H := G) (dx := (at0 l i).c) (dy := (at0 l i).d) fw fo (by have := hwst.c; omega) (by have := hwst.d; omega)
      simp [b419_2, h0, h11, h3, h4, hii, ha, hrd, stc5, ldc5a, ldc5b, ldc5c, ldc5d, ldc5e, SlR.lenV hrw, hz1, hm, ha2', hr2, hc, hd, hcl, zs_cs, agg_cs, fill, hz, hzl, shF_length, wbOf]
      refine inner419 (B := shF (fr (decL l i) m) (at0 l i).c (at0 l i).d) shF_length hrw hrb hr6 (by simp; exact h0) (by simp; exact h3) (by simp; exact h4) (by simp; exact h11) (by simp) (by simp) (by simp) (by simp) fun e' q0 q3 q4 q11 q6 => ?_
      rw [← hb, ← hdec] at q6
      simp [q0, q3, q4, q11, q6, zs_cs, hdl, fillF hdl, hpush, e4]
      exact hg'
  · rintro e G _ h4 ⟨h0, h11, g, h3, hg⟩
    have hfin := hg.fin bkC_flat
    simp [b419_2, h4, h11, h3, hfin]
def decR (l : List Sted) : List (List Int) := if okSts l = true then decL l l.length else []
theorem decR_own {H : Heap} {l : List Sted} (hk : okSts l = true) : Own (H ++ [⟨bkC (decL l l.length), 12, 0, false⟩]) (slc H.length 0 0 l.length l.length) (some H.length) H.length 12 (decR l).length (bkC (decR l)) := by
  have e1 : decR l = decL l l.length := by simp [decR, hk]
  rw [e1, decL_len]
  exact own_new (by rw [bkC_length fun f hf => (decL_ok hk (Nat.le_refl _) f hf).1, decL_len])
theorem rs203 {l : List Sted} (hw : StsW l) : RsT 203 [] l 12 (decR l).length (bkC (decR l)) (depC l) := by
  intro H x h
  cases hk : okSts l with
  | false =>
    have hfin := (Gr.new (H := H) (esz := 12) .refl).fin2 (c := 1) (by intro v hv; simp at hv)
    refine ⟨slc H.length 0 0 0 0, H ++ [⟨[], 12, 0, false⟩], some H.length, Call_wp t203 (.inr rfl) rfl ?_, Pre.one, ?_⟩
    · simp [c203, k203, call386 h hw, hk, fill, rep, hfin, depC]
    · simp [decR, hk, bkC, rowsC]; exact own_new (n := 0) rfl
  | true =>
    refine ⟨slc H.length 0 0 l.length l.length, H ++ [⟨bkC (decL l l.length), 12, 0, false⟩], some H.length, Call_wp t203 (.inr rfl) rfl ?_, Pre.one, decR_own hk⟩
    have hbl := bkC_length (b := decL l l.length) fun f hf => (decL_ok hk (Nat.le_refl _) f hf).1
    rw [decL_len] at hbl
    have hg : Gr H (H ++ [⟨bkC (decL l l.length), 12, 0, false⟩]) (slc H.length 0 0 l.length l.length) 12 l.length (bkC (decL l l.length)) := ⟨_, _, rfl, get_last, Nat.le_refl _, hbl, Pre.one⟩
    have hfin := hg.fin2 (c := 0) bkC_flat
    simp [c203, k203, call386 h hw, hk, call418 h hw hk, hfin, depC]
theorem rs204 {l : List Sted} (hw : StsW l) : RsT 204 [] l 12 (decR l).length (bkC (decR l)) (depC l) := by
  intro H x h
  cases hk : okSts l with
  | false =>
    refine ⟨.slice none 0 0, H, none, Call_wp t204 (.inr rfl) rfl ?_, .refl, ?_⟩
    · simp [c204, k204, call163 h hw, hk, finish_nil2, depC]
    · simp [decR, hk, bkC, rowsC, Own]
  | true =>
    refine ⟨slc H.length 0 0 l.length l.length, H ++ [⟨bkC (decL l l.length), 12, 0, false⟩], some H.length, Call_wp t204 (.inr rfl) rfl ?_, Pre.one, decR_own hk⟩
    have hbl := bkC_length (b := decL l l.length) fun f hf => (decL_ok hk (Nat.le_refl _) f hf).1
    rw [decL_len] at hbl
    have hg : Gr H (H ++ [⟨bkC (decL l l.length), 12, 0, false⟩]) (slc H.length 0 0 l.length l.length) 12 l.length (bkC (decL l l.length)) := ⟨_, _, rfl, get_last, Nat.le_refl _, hbl, Pre.one⟩
    have hfin := hg.fin2 (c := 0) bkC_flat
    simp [c204, k204, call163 h hw, hk, call419 h hw hk, hfin, depC]
def sameBk (D b : List (List Int)) : Bool := ((D.length : Int) == b.length) && allN (fun i => decide (fr D i = fr b i)) D.length
theorem Bk.frs {H : Heap} {x : Value} {b : List (List Int)} (h : Bk H x b) (hw : BkW b) : FrS H x b.length (fr b) := SlR.frs h fun i hi => ⟨bkC_elem hw hi, (hw.fr hi).len⟩
theorem same341 {pu : Bool} {H : Heap} {x y : Value} {D b : List (List Int)} (hx : Bk H x D) (hy : Bk H y b) (hw : BkW D) (hw' : BkW b) (hn : D.length ≤ 1000000) : Call tab pu 341 [x, y] H = some (.bool (sameBk D b), H) := by
  by_cases hl : D.length = b.length
  · have hy' := hy.frs hw'
    rw [← hl] at hy'
    rw [call341 (hx.frs hw) hy' hn]
    simp [sameBk, hl]
  · have hle : (((D.length : Int)) == b.length) = false := beq_false_of_ne fun h => hl (by omega)
    refine Call_wp t341 (.inr rfl) rfl ?_
    simp [c341, k341, SlR.lenV hx, SlR.lenV hy, bne_T hle, hle, sameBk]
def bothB (b : List (List Int)) (l : List Sted) : Bool := okB b && okSts l
def chkR (b : List (List Int)) (l : List Sted) : Value := if bothB b l = true then tup [.bool (sameBk (decL l l.length) b), .int .i64 0] else tup [.bool false, .int .i64 1]
theorem decW {l : List Sted} (hk : okSts l = true) : BkW (decL l l.length) := fun f hf => (decL_ok hk (Nat.le_refl _) f hf).1
theorem dec_bk {H : Heap} {l : List Sted} (hk : okSts l = true) : Bk (H ++ [⟨bkC (decL l l.length), 12, 0, false⟩]) (slc H.length 0 0 l.length l.length) (decL l l.length) := by
  have := (own_new (H := H) (esz := 12) (n := l.length) (vs := bkC (decL l l.length)) (by rw [bkC_length (decW hk), decL_len])).sl
  unfold Bk
  rw [decL_len]
  exact this
theorem call225 {pu : Bool} {H : Heap} {x y : Value} {b : List (List Int)} {l : List Sted} (hb : Bk H x b) (hw : BkW b) (hn : b.length ≤ 1000000) (h : StS H y l) (hl : StsW l) : Call tab pu 225 [x, y] H = some (chkR b l, H) := by
  refine Call_wp t225 (.inr rfl) rfl ?_
  have h1 := call316 (pu := true) hb hw (by omega)
  have h2 := call163 (pu := true) h hl
  cases k1 : okB b with
  | false => simp [c225, k225, h1, k1, skip, chkR, bothB]
  | true =>
    cases k2 : okSts l with
    | false => simp [c225, k225, h1, k1, h2, k2, chkR, bothB]
    | true =>
      have hc := same341 (pu := true) (dec_bk (H := H) k2) (hb.pre Pre.one) (decW k2) hw (by rw [decL_len]; exact hl.n)
      simp [c225, k225, h1, k1, h2, k2, call419 h hl k2, hc, chkR, bothB]
theorem xor_nat {a b : Nat} (ha : a < 65536) (hb : b < 65536) : xorI (a : Int) (b : Int) = ((a ^^^ b : Nat) : Int) := by
  have e0 : IntKind.bits .u16 = 16 := rfl
  unfold xorI bitsOf
  simp only []
  have hl : a ^^^ b < 2 ^ 16 := Nat.xor_lt_two_pow ha hb
  have e1 : (BitVec.ofInt (IntKind.bits .u16) (a : Int) ^^^ BitVec.ofInt (IntKind.bits .u16) (b : Int)).toNat = a ^^^ b := by
    rw [BitVec.toNat_xor, e0, BitVec.ofInt_natCast, BitVec.ofInt_natCast, BitVec.toNat_ofNat, BitVec.toNat_ofNat, Nat.mod_eq_of_lt (by omega), Nat.mod_eq_of_lt (by omega)]
  rw [e1, wrapu16 (by omega)]
theorem xor_zero {a b : Int} (ha : u16' a) (hb : u16' b) : (xorI a b != 0) = (a != b) := by
  obtain ⟨m, rfl⟩ := Int.eq_ofNat_of_zero_le ha.1
  obtain ⟨n, rfl⟩ := Int.eq_ofNat_of_zero_le hb.1
  have h1 := ha.2
  have h2 := hb.2
  have e := xor_nat (a := m) (b := n) (by omega) (by omega)
  show (xorI (m : Int) (n : Int) != 0) = ((m : Int) != (n : Int))
  rw [e, Bool.eq_iff_iff]
  simp only [bne_iff_ne, ne_eq]
  have : m ^^^ n = 0 ↔ m = n := by
    constructor
    · intro h
      apply Nat.eq_of_testBit_eq
      intro i
      have h2 : (m ^^^ n).testBit i = false := by rw [h]; exact Nat.zero_testBit i
      rw [Nat.testBit_xor] at h2
      simpa using h2
    · rintro rfl
      exact Nat.xor_self m
  omega
def chgL (f g : List Int) (k : Nat) : List (Int × Int) := itN (fun y v => if (nth f y != nth g y) = true then v ++ [((y : Int), xorI (nth f y) (nth g y))] else v) [] k
theorem chgL_zero {f g : List Int} : chgL f g 0 = [] := itN_zero
theorem chgL_succ {f g : List Int} {k : Nat} : chgL f g (k + 1) = if (nth f k != nth g k) = true then chgL f g k ++ [((k : Int), xorI (nth f k) (nth g k))] else chgL f g k := itN_succ
theorem chgL_len {f g : List Int} {k : Nat} : (chgL f g k).length ≤ k := by
  induction k with
  | zero => simp [chgL_zero]
  | succ k ih =>
    rw [chgL_succ]
    split
    · simp; omega
    · omega
theorem chsC_push {l : List (Int × Int)} {m : Int × Int} : chsC l ++ chC m = chsC (l ++ [m]) := by rw [chsC, chsC, rowsC_app]; simp [rowsC]
theorem roomC4 {i : Nat} (h : i ≤ 1000000) : (i + 1) * 4 ≤ roomMax := by have : roomMax = 140737488355328 := rfl; omega
theorem call525 {pu : Bool} {H : Heap} {p o v q o' v' : Nat} {f g : List Int} (hf : FrW f) (hg : FrW g) (h1 : rd H p o v 12 = some (cs .u16 f)) (h2 : rd H q o' v' 12 = some (cs .u16 g)) :
    Call tab pu 525 [adr p o v, adr q o' v'] H = some (slc H.length 0 0 (chgL f g 12).length (chgL f g 12).length, H ++ [⟨chsC (chgL f g 12), 2, 0, false⟩]) := by
  refine Call_wp t525 (.inr rfl) rfl ?_
  simp [c525, k525, fill, rep]
  refine WP_count 6 12 12 rfl (fun i e G => e 0 = adr p o v ∧ e 1 = adr q o' v' ∧ ∃ x, e 5 = x ∧ Gr H G x 2 (chgL f g i).length (chsC (chgL f g i))) (by omega) ?_ ?_ (by simp) (by simp [chgL_zero, chsC, rowsC]; exact Gr.new .refl)
  · rintro i e G _ hi hii e4 h6 ⟨h0, h1e, x, h5, hx⟩
    have r1 := rd_one (hx.pre.rd h1) hi
    have r2 := rd_one (hx.pre.rd h2) hi
    have hl := chgL_len (f := f) (g := g) (k := i)
    have hs := chgL_succ (f := f) (g := g) (k := i)
    have w1 : IntKind.wrap .i8 (i : Int) = i := wrap8 (by omega)
    cases hd : nth f i != nth g i with
    | false =>
      rw [hd, if_neg (by decide)] at hs
      simp [b525_1, h6, h0, h1e, h5, hii, hi, r1, r2, hd, e4, hs]
      exact hx
    | true =>
      rw [hd, if_pos rfl] at hs
      obtain ⟨x', G', hpush, hx'⟩ := hx.push (c := chC ((i : Int), xorI (nth f i) (nth g i))) (bytes := 4) rfl (roomC4 (by omega)) (wb := false)
      rw [chsC_push, ← hs] at hx'
      have hgl : (chgL f g (i + 1)).length = (chgL f g i).length + 1 := by rw [hs]; simp
      rw [← hgl] at hx'
      have hfa : fill [.int .i8 0, .int .u16 0] [(0, 1, .int .i8 (i : Int)), (1, 1, .int .u16 (xorI (nth f i) (nth g i)))] = some (chC ((i : Int), xorI (nth f i) (nth g i))) := rfl
      have hf1 := fill_one (z := [.int .i8 0, .int .u16 0]) (v := agg (chC ((i : Int), xorI (nth f i) (nth g i)))) (esz := 2) rfl rfl
      simp [b525_1, h6, h0, h1e, h5, hii, hi, r1, r2, hd, w1, xorI_eq, hfa, hf1, hpush, wbOf, e4]
      exact hx'
  · rintro e G _ h6 ⟨h0, h1e, x, h5, hx⟩
    have hfin := hx.fin chsC_flat
    simp [b525_1, h6, h5, hfin]
theorem call528 {pu : Bool} {H : Heap} {f g : List Int} (hf : f.length = 12) (hg : g.length = 12) : Call tab pu 528 [iv .u16 f, iv .u16 g] H = some (.int .i64 (chgL f g 12).length, H) := by
  refine Call_wp t528 (.inr rfl) rfl ?_
  simp [c528, k528, hf]
  refine WP_forH 9 12 12 rfl (by omega) (fun i e => e 3 = iv .u16 g ∧ e 8 = iv .u16 f ∧ e 5 = .int .i64 (chgL f g i).length) ?_ ?_ (by simp) (by simp [chgL_zero])
  · rintro i e hi hii e4 h9 ⟨h3, h8, h5⟩
    have hl := chgL_len (f := f) (g := g) (k := i)
    have hs := chgL_succ (f := f) (g := g) (k := i)
    cases hd : nth f i != nth g i with
    | false =>
      rw [hd, if_neg (by decide)] at hs
      simp [b528_1, h9, h3, h8, h5, hii, hi, hf, hg, hd, e4, hs]
    | true =>
      rw [hd, if_pos rfl] at hs
      have e5 : IntKind.wrap .i64 (((chgL f g i).length : Int) + 1) = ((chgL f g i).length : Int) + 1 := wrap64 (by omega)
      simp [b528_1, h9, h3, h8, h5, hii, hi, hf, hg, hd, e5, e4, hs]
  · rintro e h9 ⟨h3, h8, h5⟩
    simp [b528_1, h9, h5]
/-- A list that has grown, or is none yet. -/
def GrN (H G : Heap) (x : Value) (esz n : Nat) (vs : List Value) : Prop := Gr H G x esz n vs ∨ (x = .slice none 0 0 ∧ n = 0 ∧ vs = [] ∧ Pre H G)
theorem GrN.pre {H G : Heap} {x : Value} {esz n : Nat} {vs : List Value} (g : GrN H G x esz n vs) : Pre H G := by
  rcases g with g | ⟨_, _, _, p⟩
  · exact g.pre
  · exact p
theorem GrN.sl {H G : Heap} {x : Value} {esz n : Nat} {vs : List Value} (g : GrN H G x esz n vs) : SlR G x esz n vs := by
  rcases g with g | ⟨rfl, rfl, rfl, _⟩
  · exact g.sl
  · exact ⟨by simp, .inl ⟨rfl, rfl⟩⟩
theorem GrN.push {H G : Heap} {x : Value} {esz n bytes : Nat} {vs c : List Value} (g : GrN H G x esz n vs) (hc : c.length = esz) (hb : (n + 1) * bytes ≤ roomMax) {wb : Bool} :
    ∃ x' G', ((srcOf esz (G ++ [⟨c, esz, 0, false⟩]) (slc G.length 0 0 1 1)).bind fun q => appendTo H.length wb esz bytes (G ++ [⟨c, esz, 0, false⟩]) x q.1 q.2) = some (x', G') ∧ GrN H G' x' esz (n + 1) (vs ++ c) := by
  rcases g with g | ⟨rfl, rfl, rfl, p⟩
  · obtain ⟨x', G', h1, h2⟩ := g.push hc hb (wb := wb)
    exact ⟨x', G', h1, .inl h2⟩
  · have e1 : srcOf esz (G ++ [⟨c, esz, 0, false⟩]) (slc G.length 0 0 1 1) = some (1, c) := by
      show (rd (G ++ [⟨c, esz, 0, false⟩]) G.length 0 0 (1 * esz)).map (fun cs => (1, cs)) = _
      rw [Nat.one_mul, rd_last rfl (by simpa using hc)]; rfl
    refine ⟨slc (G ++ [(⟨c, esz, 0, false⟩ : Blk)]).length 0 0 1 1, G ++ [(⟨c, esz, 0, false⟩ : Blk)] ++ [⟨c, esz, 0, false⟩], ?_, .inl ⟨_, 0, rfl, get_last, ?_, by simp [hc], (p.app).app⟩⟩
    · rw [e1, Option.bind_some]
      unfold appendTo
      simp only []
      rw [if_neg (by decide), if_pos (by simpa using hb)]
    · have := p.len
      simp; omega
theorem GrN.old {H G : Heap} {x : Value} {esz n : Nat} {vs : List Value} (g : GrN H G x esz n vs) : x = .slice none 0 0 ∨ old0 H.length x = false := by
  rcases g with ⟨b, ver, rfl, _, h, _⟩ | ⟨rfl, _⟩
  · right; rw [old0_slc]; simp; omega
  · exact .inl rfl
/-- A step's rows, of its own. -/
theorem call527 {pu : Bool} {H : Heap} {f g : List Int} {a b c d : Int} {y0 : Value} (hf : FrW f) (hg : FrW g) :
    ∃ r, Call tab pu 527 [agg [.int .i8 a, .int .i8 b, .int .i8 c, .int .i8 d, y0], iv .u16 f, iv .u16 g] H = some r ∧ ∃ y G, r = (agg [.int .i8 a, .int .i8 b, .int .i8 c, .int .i8 d, y], G) ∧ GrN H G y 2 (chgL f g 12).length (chsC (chgL f g 12)) := by
  refine Call_ex t527 (.inr rfl) rfl ?_
  have hm : (mixF xorI f g).length = 12 := mixF_length
  simp [c527, k527, stc5e, ldc5, stc5, call367 hf.len hg.len, hf.len, hg.len]
  refine WP_count 13 12 12 rfl (fun i e G => e 12 = iv .u16 (mixF xorI f g) ∧ e 6 = agg [.int .i8 0, .int .i8 0, .int .i8 0, .int .i8 0, .slice none 0 0] ∧ ∃ y, e 3 = agg [.int .i8 a, .int .i8 b, .int .i8 c, .int .i8 d, y] ∧ GrN H G y 2 (chgL f g i).length (chsC (chgL f g i))) (by omega) ?_ ?_ (by simp) ⟨by simp, by simp, .slice none 0 0, by simp, .inr ⟨rfl, by simp [chgL_zero], by simp [chgL_zero, chsC, rowsC], .refl⟩⟩
  · rintro i e G _ hi hii e4 h13 ⟨h12, h6, y, h3, hy⟩
    have hn : nth (mixF xorI f g) i = xorI (nth f i) (nth g i) := nth_tabN hi
    have hl := chgL_len (f := f) (g := g) (k := i)
    have hs := chgL_succ (f := f) (g := g) (k := i)
    have w1 : IntKind.wrap .i8 (i : Int) = i := wrap8 (by omega)
    have hxz := xor_zero (hf.nth hi) (hg.nth hi)
    cases hd : nth f i != nth g i with
    | false =>
      rw [hd] at hxz
      rw [hd, if_neg (by decide)] at hs
      simp [b527_1, h13, h12, h6, h3, hii, hi, hm, hn, hxz, e4, hs]
      exact ⟨y, rfl, hy⟩
    | true =>
      rw [hd] at hxz
      rw [hd, if_pos rfl] at hs
      obtain ⟨x', G', hpush, hx'⟩ := hy.push (c := chC ((i : Int), xorI (nth f i) (nth g i))) (bytes := 4) rfl (roomC4 (by omega)) (wb := false)
      rw [chsC_push, ← hs] at hx'
      have hgl : (chgL f g (i + 1)).length = (chgL f g i).length + 1 := by rw [hs]; simp
      rw [← hgl] at hx'
      have hcx : cellsOf x' = [x'] := by
        rcases hx' with ⟨_, _, rfl, _⟩ | ⟨rfl, _⟩ <;> rfl
      have hfa : fill [.int .i8 0, .int .u16 0] [(0, 1, .int .i8 (i : Int)), (1, 1, .int .u16 (xorI (nth f i) (nth g i)))] = some (chC ((i : Int), xorI (nth f i) (nth g i))) := rfl
      have hf1 := fill_one (z := [.int .i8 0, .int .u16 0]) (v := agg (chC ((i : Int), xorI (nth f i) (nth g i)))) (esz := 2) rfl rfl
      simp [b527_1, h13, h12, h6, h3, hii, hi, hm, hn, hxz, w1, ldc5e, stc5e, hcx, hfa, hf1, hpush, wbOf, e4]
      exact ⟨_, rfl, hx'⟩
  · rintro e G _ h13 ⟨h12, h6, y, h3, hy⟩
    rcases hy with hy | ⟨rfl, e1, e2, p⟩
    · have ho : old0 H.length y = false := by
        obtain ⟨b, ver, rfl, _, h, _⟩ := hy
        rw [old0_slc]; simp; omega
      have hfin := finish_keep (n0 := H.length) (G := G) (l := [.int .i8 a, .int .i8 b, .int .i8 c, .int .i8 d, y]) (by simp [ho])
      simp [b527_1, h13, h6, h3, ldc5, stc5, hfin]
      exact ⟨_, _, ⟨rfl, rfl⟩, _, _, ⟨rfl, rfl⟩, .inl hy⟩
    · have hfin : finish H.length G [agg [.int .i8 a, .int .i8 b, .int .i8 c, .int .i8 d, .slice none 0 0]] = (agg [.int .i8 a, .int .i8 b, .int .i8 c, .int .i8 d, .slice none 0 0], G.take H.length) := fin_agg rfl
      rw [p.take] at hfin
      simp [b527_1, h13, h6, h3, ldc5, stc5, hfin]
      exact ⟨_, _, ⟨rfl, rfl⟩, _, _, ⟨rfl, rfl⟩, .inr ⟨rfl, e1, e2, .refl⟩⟩
theorem call526 {pu : Bool} {H : Heap} {q off ver : Nat} {f : List Int} {dx dy : Int} (hw : FrW f) (hk : okF f = true) (hr : rd H q off ver 12 = some (cs .u16 f)) (hb' : -12 ≤ dx ∧ dx ≤ 12) (hy : -12 ≤ dy ∧ dy ≤ 12) :
    Call tab pu 526 [adr q off ver, .int .i64 dx, .int .i64 dy] H = some (iv .u16 (shF f dx dy), H) := by
  refine Call_wp t526 (.inr rfl) rfl ?_
  have hl := hw.len
  have hz := stc_zr (k := .u16) (n := 12) (l := zr 12 0) (by simp)
  have hz2 := stc_zr (k := .u16) (n := 12) (l := shF f dx dy) shF_length
  simp [c526, k526, zs_cs, agg_cs, fill, hz]
  refine WP_forH 8 12 12 rfl (by omega) (fun i e => e 0 = adr q off ver ∧ e 1 = .int .i64 dx ∧ e 2 = .int .i64 dy ∧ e 6 = iv .u16 (zr 12 0) ∧ e 7 = iv .u16 (shU f dx dy i)) ?_ ?_ (by simp) (by simp [shU_zero])
  · rintro y e hy12 hyy e4 h15 ⟨h0, h1, h2, h6, h7⟩
    have u1 : IntKind.wrap .i64 ((y : Int) - dy) = (y : Int) - dy := wrap64 (by omega)
    cases hs : in1 ((y : Int) - dy) 0 11 with
    | false =>
      have h0' := mvR_off (f := f) (dx := dx) (dy := dy) hy12 (by simp only [in1, decide_eq_false_iff_not] at hs; omega)
      have hsk := shU_skip hy12 h0'
      simp [b526_1, h15, h0, h1, h2, h6, h7, hyy, u1, in304, hs, e4, hsk]
    | true =>
      have hs' : 0 ≤ (y : Int) - dy ∧ (y : Int) - dy < 12 := by simp only [in1, decide_eq_true_eq] at hs; omega
      obtain ⟨m, hm⟩ : ∃ m : Nat, (y : Int) - dy = m := ⟨((y : Int) - dy).toNat, by omega⟩
      have hm12 : m < 12 := by omega
      obtain ⟨n, hn, hn4⟩ := okF_row hk hw hm12
      have hn' : nth f ((y : Int) - dy).toNat = n := by rw [hm]; exact hn
      rw [hm] at hs u1
      have hlu := shU_length (f := f) (dx := dx) (dy := dy) (k := y)
      have hr1 := rd_one hr hm12
      rw [hn] at hr1
      by_cases hd : 0 ≤ dx
      · obtain ⟨d, rfl⟩ := Int.eq_ofNat_of_zero_le hd
        have hd12 : d ≤ 12 := by omega
        have hv := mvR_shl (f := f) (d := d) (dy := dy) hy12 hs' hn'
        have hst := shU_set hy12 hv
        have q1 := shl_nat (n := n) hd12
        have q2 := and_4095 (n := n * 2 ^ d % 65536) (by omega)
        rw [Nat.mod_mod_of_dvd _ (by decide)] at q2
        have u3 : IntKind.wrap .u64 (d : Int) = (d : Int) := by
          show (d : Int) % 18446744073709551616 = d
          omega
        have e9 := stc_at (k := .u16) (l := shU f d dy y) (by omega) hst
        simp (disch := omega) [b526_1, h15, h0, h1, h2, h6, h7, hyy, u1, hm, in304, hs, hm12, hr1, q1, q2, u3, hy12, hlu, e9, e4, -Int.natCast_emod, -Int.natCast_mul, -Int.natCast_pow]
      · obtain ⟨d, rfl⟩ : ∃ d : Nat, dx = -(d : Int) := ⟨(-dx).toNat, by omega⟩
        have hd12 : d ≤ 12 := by omega
        have hv := mvR_shr (f := f) (d := d) (dy := dy) hy12 hs' hn' hn4
        have hst := shU_set hy12 hv
        have q1 := shr_nat (n := n) hd12
        have e9 := stc_at (k := .u16) (l := shU f (-(d : Int)) dy y) (by omega) hst
        have u2 : IntKind.wrap .i64 (d : Int) = (d : Int) := wrap64 (by omega)
        have u3 : IntKind.wrap .u64 (d : Int) = (d : Int) := by
          show (d : Int) % 18446744073709551616 = d
          omega
        have hd0 : ¬ d = 0 := by omega
        simp (disch := omega) [b526_1, h15, h0, h1, h2, h6, h7, hyy, u1, hm, in304, hs, hm12, hr1, hd0, q1, u2, u3, hy12, hlu, e9, e4, -Int.natCast_ediv, -Int.natCast_pow]
  · rintro e h15 ⟨h0, h1, h2, h6, h7⟩
    rw [shU_all] at h7
    simp [b526_1, h15, h6, h7, hz2, shF_length, agg_cs]
/-- The better of a step and a slide. -/
def stepB (f g : List Int) (base : Int) (s : Sted) (dx dy : Int) : Sted :=
  if (dx == 0 && dy == 0) = true then s else if 4 + 3 * ((chgL (shF f dx dy) g 12).length : Int) < stCost s then ⟨2, base, dx, dy, chgL (shF f dx dy) g 12⟩ else s
def inB (f g : List Int) (base dx : Int) (s : Sted) (k : Nat) : Sted := itN (fun j s => stepB f g base s dx ((j : Int) - 12)) s k
def outB (f g : List Int) (base : Int) (k : Nat) : Sted := itN (fun i s => inB f g base ((i : Int) - 12) s 25) ⟨1, base, 0, 0, chgL f g 12⟩ k
theorem inB_zero {f g : List Int} {base dx : Int} {s : Sted} : inB f g base dx s 0 = s := itN_zero
theorem inB_succ {f g : List Int} {base dx : Int} {s : Sted} {k : Nat} : inB f g base dx s (k + 1) = stepB f g base (inB f g base dx s k) dx ((k : Int) - 12) := itN_succ
theorem outB_zero {f g : List Int} {base : Int} : outB f g base 0 = ⟨1, base, 0, 0, chgL f g 12⟩ := itN_zero
theorem outB_succ {f g : List Int} {base : Int} {k : Nat} : outB f g base (k + 1) = inB f g base ((k : Int) - 12) (outB f g base k) 25 := itN_succ
def okS (s : Sted) : Prop := 0 ≤ s.a ∧ s.a ≤ 2 ∧ s.rows.length ≤ 12
theorem stepB_ok {f g : List Int} {base dx dy : Int} {s : Sted} (h : okS s) : okS (stepB f g base s dx dy) := by
  unfold stepB
  split
  · exact h
  · split
    · exact ⟨by simp only []; omega, by simp only []; omega, chgL_len⟩
    · exact h
theorem inB_ok {f g : List Int} {base dx : Int} {s : Sted} (h : okS s) {k : Nat} : okS (inB f g base dx s k) := by
  induction k with
  | zero => rw [inB_zero]; exact h
  | succ k ih => rw [inB_succ]; exact stepB_ok ih
theorem outB_ok {f g : List Int} {base : Int} {k : Nat} : okS (outB f g base k) := by
  induction k with
  | zero => rw [outB_zero]; exact ⟨by simp only []; omega, by simp only []; omega, chgL_len⟩
  | succ k ih => rw [outB_succ]; exact inB_ok ih
theorem inB_stop {f g : List Int} {base dx : Int} {s : Sted} (h : stCost s ≤ 4) {k : Nat} : inB f g base dx s k = s := by
  induction k with
  | zero => exact inB_zero
  | succ k ih =>
    rw [inB_succ, ih]
    unfold stepB
    split
    · rfl
    · rw [if_neg (by omega)]
theorem outB_stop {f g : List Int} {base : Int} {i k : Nat} (h : stCost (outB f g base i) ≤ 4) (hk : i ≤ k) : outB f g base k = outB f g base i := by
  induction k with
  | zero => obtain rfl : i = 0 := by omega
            rfl
  | succ k ih =>
    by_cases h1 : i = k + 1
    · rw [h1]
    · rw [outB_succ, ih (by omega), inB_stop h]
/-- A step in a block of its own. -/
structure StO (H G : Heap) (P : Nat) (s : Sted) (y : Value) : Prop where
  pre : Pre H G
  ge : H.length ≤ P
  blk : G[P]? = some ⟨stC s y, 1, 0, false⟩
  row : ∃ b, y = slc b 0 0 s.rows.length s.rows.length ∧ H.length ≤ b ∧ b ≠ P ∧ G[b]? = some ⟨chsC s.rows, 2, 0, false⟩
theorem StO.rw {H G : Heap} {P : Nat} {s : Sted} {y : Value} (h : StO H G P s y) : Rw G y s := by
  obtain ⟨b, rfl, _, _, hg⟩ := h.row
  exact ⟨chsC_length, .inr ⟨b, 0, 0, _, rfl, Nat.le_refl _, by rw [rd_at hg rfl (by simp only []; rw [chsC_length]; omega)]; simp only [List.drop_zero]; rw [List.take_of_length_le (by rw [chsC_length]; exact Nat.le_refl _)], _, hg, rfl, rfl⟩⟩
theorem StO.rd {H G : Heap} {P : Nat} {s : Sted} {y : Value} (h : StO H G P s y) : rd G P 0 0 5 = some (stC s y) := by
  rw [rd_at h.blk rfl (by simp [stC])]; rfl
theorem StO.app {H G G' : Heap} {P : Nat} {s : Sted} {y : Value} (p : Pre G G') (h : StO H G P s y) : StO H G' P s y := by
  refine ⟨h.pre.trans p, h.ge, by rw [p.get (List.getElem?_eq_some_iff.1 h.blk).1]; exact h.blk, ?_⟩
  obtain ⟨b, e, h1, h2, h3⟩ := h.row
  exact ⟨b, e, h1, h2, by rw [p.get (List.getElem?_eq_some_iff.1 h3).1]; exact h3⟩
theorem inner388 {H G : Heap} {f g : List Int} {q off ver q' off' ver' P : Nat} {base dx : Int} {s : Sted} {y : Value} (hw : FrW f) (hk : okF f = true) (hwg : FrW g) (hr : rd H q off ver 12 = some (cs .u16 f)) (hr' : rd H q' off' ver' 12 = some (cs .u16 g))
    (hb : 0 ≤ base ∧ base ≤ 39) (hdx : -12 ≤ dx ∧ dx ≤ 12) (hs : okS s) {fs : List Fr} {Q : Ex → Env → Heap → Prop} {e : Env}
    (h0 : e 0 = adr q off ver) (h1 : e 1 = adr q' off' ver') (h2 : e 2 = .int .i64 base) (h7 : e 7 = adr P 0 0) (h8 : e 8 = .int .i64 dx) (h9 : e 9 = .int .i64 (-12)) (hS : StO H G P s y)
    (hq : ∀ e' G' y', e' 0 = adr q off ver → e' 1 = adr q' off' ver' → e' 2 = .int .i64 base → e' 7 = adr P 0 0 → e' 8 = .int .i64 dx → StO H G' P (inB f g base dx s 25) y' → KK tab H.length false (.exit 2) fs e' G' Q) : WK tab H.length false (.loop b388_1) fs e G Q := by
  refine WK_loop (fun j e G => e 0 = adr q off ver ∧ e 1 = adr q' off' ver' ∧ e 2 = .int .i64 base ∧ e 7 = adr P 0 0 ∧ e 8 = .int .i64 dx ∧ e 9 = .int .i64 ((j : Int) - 12) ∧ ∃ y, StO H G P (inB f g base dx s j) y) 25 ?_ (Nat.zero_le _) ⟨h0, h1, h2, h7, h8, by rw [h9]; rfl, y, by rw [inB_zero]; exact hS⟩
  rintro j e G _ hj ⟨h0, h1, h2, h7, h8, h9, y, hS⟩
  by_cases hj25 : j = 25
  · subst hj25
    simp [b388_1, h9]
    exact hq _ _ y (by simp [h0]) (by simp [h1]) (by simp [h2]) (by simp [h7]) (by simp [h8]) hS
  have hle : (j : Int) - 12 ≤ 12 := by omega
  have e9 : IntKind.wrap .i64 ((j : Int) - 12 + 1) = ((j + 1 : Nat) : Int) - 12 := by rw [wrap64 (by omega)]; omega
  have hsucc := inB_succ (f := f) (g := g) (base := base) (dx := dx) (s := s) (k := j)
  have hok := inB_ok (f := f) (g := g) (base := base) (dx := dx) (k := j) hs
  generalize inB f g base dx s j = t at *
  cases hz : (dx == 0 && (j : Int) - 12 == 0) with
  | true =>
    rw [stepB, if_pos hz] at hsucc
    rw [Bool.and_eq_true] at hz
    have z1 := eq_of_beq hz.1
    have z2 := eq_of_beq hz.2
    obtain rfl : j = 12 := by omega
    subst z1
    have h9' : e 9 = .int .i64 0 := by rw [h9]; rfl
    simp [b388_1, h0, h1, h2, h7, h8, h9']
    exact ⟨y, by rw [show 12 + 1 = 13 from rfl] at hsucc; rw [hsucc]; exact hS⟩
  | false =>
    rw [stepB, if_neg (by rw [hz]; decide)] at hsucc
    obtain ⟨F, hF⟩ : ∃ F, F = shF f dx ((j : Int) - 12) := ⟨_, rfl⟩
    have hFW : FrW F := by rw [hF]; exact dotsF_W
    have h526 := call526 (pu := true) (dx := dx) (dy := (j : Int) - 12) hw hk (hS.pre.rd hr) hdx (by omega)
    rw [← hF] at h526 hsucc
    obtain ⟨L, hL⟩ : ∃ L, L = chgL F g 12 := ⟨_, rfl⟩
    have hL12 : L.length ≤ 12 := by rw [hL]; exact chgL_len
    rw [← hL] at hsucc
    obtain ⟨G1, hG1⟩ : ∃ G1, G1 = G ++ [(⟨cs .u16 F, 1, 0, false⟩ : Blk)] := ⟨_, rfl⟩
    have hwr : wr H.length false (G ++ [⟨cs .u16 (zr 12 0), 1, 0, false⟩]) G.length 0 0 (cs .u16 F) = some G1 := by
      rw [wr_at get_last rfl rfl (by simp [may]; exact hS.pre.len) (by simp [hFW.len]), hG1]
      simp [splice, hFW.len]
    have p1 : Pre G G1 := by rw [hG1]; exact Pre.one
    obtain ⟨G2, hG2⟩ : ∃ G2, G2 = G1 ++ [(⟨chsC L, 2, 0, false⟩ : Blk)] := ⟨_, rfl⟩
    have hrF : rd G1 G.length 0 0 12 = some (cs .u16 F) := by rw [hG1]; exact rd_last rfl (by simp [hFW.len])
    have h525 := call525 (pu := true) hFW hwg hrF ((hS.pre.trans p1).rd hr')
    rw [← hL, ← hG2] at h525
    have p2 : Pre G G2 := p1.trans (by rw [hG2]; exact Pre.one)
    have S2 := hS.app p2
    have h310 := cost310 (pu := true) S2.rd S2.rw ⟨hok.1, hok.2.1⟩ (by have := hok.2.2; omega)
    have w3 : IntKind.wrap .i64 (3 * (L.length : Int)) = 3 * (L.length : Int) := wrap64 (by omega)
    have w4 : IntKind.wrap .i64 (4 + 3 * (L.length : Int)) = 4 + 3 * (L.length : Int) := wrap64 (by omega)
    have c1 : IntKind.wrap .i8 base = base := wrap8 (by omega)
    have c2 : IntKind.wrap .i8 dx = dx := wrap8 (by omega)
    have c3 : IntKind.wrap .i8 ((j : Int) - 12) = (j : Int) - 12 := wrap8 (by omega)
    have hlt : G.length < G1.length := by rw [hG1]; simp
    by_cases hc : 4 + 3 * (L.length : Int) < stCost t
    · rw [if_pos hc] at hsucc
      obtain ⟨y', hy'⟩ : ∃ y', y' = slc G1.length 0 0 L.length L.length := ⟨_, rfl⟩
      obtain ⟨G3, hG3⟩ : ∃ G3, G3 = G2.set P ⟨stC ⟨2, base, dx, (j : Int) - 12, L⟩ y', 1, 0, false⟩ := ⟨_, rfl⟩
      have hset : wr H.length false G2 P 0 0 [.int .i8 2, .int .i8 base, .int .i8 dx, .int .i8 ((j : Int) - 12), y'] = some G3 := by
        rw [wr_at S2.blk rfl rfl (by simp [may, S2.ge]) (by simp [stC]), hG3]
        rfl
      have hfa : fill [.int .i8 0, .int .i8 0, .int .i8 0, .int .i8 0, .slice none 0 0] [(0, 1, .int .i8 2), (1, 1, .int .i8 base), (2, 1, .int .i8 dx), (3, 1, .int .i8 ((j : Int) - 12)), (4, 1, y')] = some [.int .i8 2, .int .i8 base, .int .i8 dx, .int .i8 ((j : Int) - 12), y'] := by rw [hy']; rfl
      have hP1 : P < G.length := (List.getElem?_eq_some_iff.1 hS.blk).1
      have S3 : StO H G3 P ⟨2, base, dx, (j : Int) - 12, L⟩ y' := by
        rw [hG3]
        refine ⟨S2.pre.set S2.ge, S2.ge, get_set S2.blk, G1.length, hy', ?_, by omega, ?_⟩
        · have := hS.pre.len
          omega
        · rw [List.getElem?_set_ne (by omega), hG2]
          exact get_last
      have hln : lenV y' = some (.int .i64 L.length) := by rw [hy']; rfl
      rw [← hy'] at h525
      cases hx0 : dx == 0 with
      | true =>
        have hj0 : ((j : Int) - 12 == 0) = false := by rw [hx0] at hz; simpa using hz
        simp [b388_1, h0, h1, h2, h7, h8, h9, hle, hx0, hj0, h526, zs_cs, hwr, wbOf, hFW.len, h525, hln, w3, w4, h310, hc, c1, c2, c3, hfa, hset, e9]
        exact ⟨by omega, y', by rw [hsucc]; exact S3⟩
      | false =>
        simp [b388_1, h0, h1, h2, h7, h8, h9, hle, hx0, skip, h526, zs_cs, hwr, wbOf, hFW.len, h525, hln, w3, w4, h310, hc, c1, c2, c3, hfa, hset, e9]
        exact ⟨by omega, y', by rw [hsucc]; exact S3⟩
    · rw [if_neg hc] at hsucc
      cases hx0 : dx == 0 with
      | true =>
        have hj0 : ((j : Int) - 12 == 0) = false := by rw [hx0] at hz; simpa using hz
        simp [b388_1, h0, h1, h2, h7, h8, h9, hle, hx0, hj0, h526, zs_cs, hwr, wbOf, hFW.len, h525, w3, w4, h310, hc, e9]
        exact ⟨by omega, y, by rw [hsucc]; exact S2⟩
      | false =>
        simp [b388_1, h0, h1, h2, h7, h8, h9, hle, hx0, skip, h526, zs_cs, hwr, wbOf, hFW.len, h525, w3, w4, h310, hc, e9]
        exact ⟨by omega, y, by rw [hsucc]; exact S2⟩
/-- What a search for a step hands back. -/
def RsS (H : Heap) (r : Value × Heap) (s : Sted) : Prop := ∃ y G, r = (agg (stC s y), G) ∧ Pre H G ∧ GrN H G y 2 s.rows.length (chsC s.rows)
theorem call388 {pu : Bool} {H : Heap} {f g : List Int} {q off ver q' off' ver' : Nat} {base : Int} (hw : FrW f) (hk : okF f = true) (hwg : FrW g) (hr : rd H q off ver 12 = some (cs .u16 f)) (hr' : rd H q' off' ver' 12 = some (cs .u16 g)) (hb : 0 ≤ base ∧ base ≤ 39) :
    ∃ r, Call tab pu 388 [adr q off ver, adr q' off' ver', .int .i64 base] H = some r ∧ RsS H r (outB f g base 25) := by
  refine Call_ex t388 (.inr rfl) rfl ?_
  obtain ⟨L, hL⟩ : ∃ L, L = chgL f g 12 := ⟨_, rfl⟩
  have hL12 : L.length ≤ 12 := by rw [hL]; exact chgL_len
  have h525 := call525 (pu := true) hw hwg hr hr'
  rw [← hL] at h525
  obtain ⟨G1, hG1⟩ : ∃ G1, G1 = H ++ [(⟨chsC L, 2, 0, false⟩ : Blk)] := ⟨_, rfl⟩
  obtain ⟨y, hy⟩ : ∃ y, y = slc H.length 0 0 L.length L.length := ⟨_, rfl⟩
  rw [← hy, ← hG1] at h525
  have c1 : IntKind.wrap .i8 base = base := wrap8 (by omega)
  have hfa : fill [.int .i8 0, .int .i8 0, .int .i8 0, .int .i8 0, .slice none 0 0] [(0, 1, .int .i8 1), (1, 1, .int .i8 base), (4, 1, y)] = some [.int .i8 1, .int .i8 base, .int .i8 0, .int .i8 0, y] := by rw [hy]; rfl
  obtain ⟨G2, hG2⟩ : ∃ G2, G2 = G1 ++ [(⟨stC ⟨1, base, 0, 0, L⟩ y, 1, 0, false⟩ : Blk)] := ⟨_, rfl⟩
  have p1 : Pre H G1 := by rw [hG1]; exact Pre.one
  have hwr : wr H.length false (G1 ++ [⟨[.int .i8 0, .int .i8 0, .int .i8 0, .int .i8 0, .slice none 0 0], 1, 0, false⟩]) G1.length 0 0 [.int .i8 1, .int .i8 base, .int .i8 0, .int .i8 0, y] = some G2 := by
    rw [wr_at get_last rfl rfl (by simp [may]; exact p1.len) (by simp), hG2]
    simp [splice, stC]
  have hlt : H.length < G1.length := by rw [hG1]; simp
  have S0 : StO H G2 G1.length ⟨1, base, 0, 0, L⟩ y := by
    refine ⟨p1.trans (by rw [hG2]; exact Pre.one), p1.len, by rw [hG2]; exact get_last, H.length, hy, Nat.le_refl _, by omega, ?_⟩
    rw [hG2, List.getElem?_append_left hlt, hG1]; exact get_last
  rw [hL] at S0
  simp [c388, k388, h525, c1, hfa, hwr, wbOf]
  refine WK_loop (fun i e G => e 0 = adr q off ver ∧ e 1 = adr q' off' ver' ∧ e 2 = .int .i64 base ∧ e 7 = adr G1.length 0 0 ∧ e 8 = .int .i64 ((i : Int) - 12) ∧ ∃ y, StO H G G1.length (outB f g base i) y) 25 ?_ (Nat.zero_le _) ⟨by simp, by simp, by simp, by simp, by simp, y, by rw [outB_zero]; exact S0⟩
  rintro i e G hfr hi ⟨h0, h1, h2, h7, h8, y, hS⟩
  have h6 := hfr 6 (by decide)
  simp at h6
  have hok := outB_ok (f := f) (g := g) (base := base) (k := i)
  have h310 := cost310 (pu := true) hS.rd hS.rw ⟨hok.1, hok.2.1⟩ (by have := hok.2.2; omega)
  have hend : outB f g base i = outB f g base 25 → GrN H G y 2 (outB f g base 25).rows.length (chsC (outB f g base 25).rows) ∧ old0 H.length y = false := fun he => by
    obtain ⟨b, e1, e2, _, e4⟩ := hS.row
    rw [← he]
    refine ⟨.inl ⟨b, 0, e1, e4, e2, chsC_length, hS.pre⟩, ?_⟩
    rw [e1, old0_slc]; simp; omega
  have hexit : outB f g base i = outB f g base 25 → ∃ a b, finish H.length G [agg (stC (outB f g base i) y)] = (a, b) ∧ RsS H (a, b) (outB f g base 25) := fun he => by
    obtain ⟨e1, e2⟩ := hend he
    rw [he]
    rw [finish_keep (n0 := H.length) (G := G) (l := stC (outB f g base 25) y) (by simp [stC, e2])]
    exact ⟨_, _, rfl, y, G, rfl, hS.pre, e1⟩
  by_cases hi25 : i = 25
  · subst hi25
    obtain ⟨a, b, e1, e2⟩ := hexit rfl
    have hrd := hS.rd
    simp only [stC] at hrd e1
    simp [b388_2, h7, h8, skip, h6, hrd, stc5, ldc5, e1]
    exact ⟨_, _, ⟨rfl, rfl⟩, e2⟩
  · have hi24 : (i : Int) - 12 ≤ 12 := by omega
    have e9 : IntKind.wrap .i64 ((i : Int) - 12 + 1) = ((i + 1 : Nat) : Int) - 12 := by rw [wrap64 (by omega)]; omega
    by_cases hst : stCost (outB f g base i) ≤ 4
    · obtain ⟨a, b, e1, e2⟩ := hexit (outB_stop hst hi).symm
      have hrd := hS.rd
      simp only [stC] at hrd e1
      have hst' : ¬ 4 < stCost (outB f g base i) := by omega
      simp [b388_2, h7, h8, hi24, h310, hst', h6, hrd, stc5, ldc5, e1]
      exact ⟨_, _, ⟨rfl, rfl⟩, e2⟩
    · have hst' : 4 < stCost (outB f g base i) := by omega
      simp [b388_2, h7, h8, hi24, h310, hst']
      refine inner388 (s := outB f g base i) (dx := (i : Int) - 12) (P := G1.length) hw hk hwg hr hr' hb ⟨by omega, by omega⟩ hok (by simp [h0]) (by simp [h1]) (by simp [h2]) (by simp [h7]) (by simp [h8]) (by simp) hS fun e' G' y' q0 q1 q2 q7 q8 hS' => ?_
      rw [← outB_succ] at hS'
      simp [q0, q1, q2, q7, q8, e9]
      exact ⟨by omega, y', hS'⟩
theorem GrN.app {H G G' : Heap} {x : Value} {esz n : Nat} {vs : List Value} (g : GrN H G x esz n vs) (p : Pre G G') : GrN H G' x esz n vs := by
  rcases g with g | ⟨e1, e2, e3, q⟩
  · obtain ⟨L, rfl⟩ := p
    exact .inl g.app
  · exact .inr ⟨e1, e2, e3, q.trans p⟩
theorem GrN.low {H G G' : Heap} {x : Value} {esz n : Nat} {vs : List Value} (g : GrN G G' x esz n vs) (p : Pre H G) : GrN H G' x esz n vs := by
  rcases g with ⟨b, ver, e1, e2, e3, e4, q⟩ | ⟨e1, e2, e3, q⟩
  · exact .inl ⟨b, ver, e1, e2, Nat.le_trans p.len e3, e4, p.trans q⟩
  · exact .inr ⟨e1, e2, e3, p.trans q⟩
end Fb
