/- What each function computes. -/
import Derived.Test.YtmdnahopljfakaaGreatUse2
set_option linter.unusedVariables false
set_option linter.unusedSimpArgs false
namespace Fb
open Go
theorem dsL_I {b : List (List Int)} {k : Nat} : DsI b k (dsL b k) := by
  induction k with
  | zero =>
    rw [dsL_zero]
    exact ⟨rfl, Nat.le_refl _, fun i hi => by omega, fun j hj => by simp at hj, fun i j hi => by simp at hi⟩
  | succ k ih =>
    obtain ⟨h1, h2, h3, h4, h5⟩ := ih
    rw [dsL_succ]
    generalize dsL b k = s at *
    unfold dsS
    split
    · rename_i h
      obtain ⟨m, e1, e2, e3⟩ := findN_get h
      have e3 := of_decide_eq_true e3
      rw [e1]
      refine ⟨by simp [h1], by simp only []; omega, fun i hi => ?_, fun j hj => ?_, h5⟩
      · simp only [nth_snoc (show i < s.2.length + 1 by omega), h1]
        by_cases hik : i < k
        · rw [if_pos hik]; exact h3 i hik
        · rw [if_neg hik]
          have : i = k := by omega
          subst this
          exact ⟨m, rfl, e2, e3.symm⟩
      · obtain ⟨i, i1, i2⟩ := h4 j hj
        exact ⟨i, by omega, i2⟩
    · rename_i h
      refine ⟨by simp [h1], by simp; omega, fun i hi => ?_, fun j hj => ?_, fun i j hi hj he => ?_⟩
      · simp only [nth_snoc (show i < s.2.length + 1 by omega), h1, List.length_append, List.length_singleton]
        by_cases hik : i < k
        · rw [if_pos hik]
          obtain ⟨j, j1, j2, j3⟩ := h3 i hik
          exact ⟨j, j1, by omega, by rw [fr_snoc (by omega), if_pos j2]; exact j3⟩
        · rw [if_neg hik]
          have : i = k := by omega
          subst this
          exact ⟨s.1.length, rfl, by omega, by rw [fr_snoc (by omega), if_neg (by omega)]⟩
      · have hj : j < s.1.length + 1 := by simpa using hj
        simp only [fr_snoc hj]
        by_cases hjk : j < s.1.length
        · rw [if_pos hjk]
          obtain ⟨i, i1, i2⟩ := h4 j hjk
          exact ⟨i, by omega, i2⟩
        · rw [if_neg hjk]; exact ⟨k, by omega, rfl⟩
      · have hi : i < s.1.length + 1 := by simpa using hi
        have hj : j < s.1.length + 1 := by simpa using hj
        simp only [fr_snoc hi, fr_snoc hj] at he
        by_cases hik : i < s.1.length
        · by_cases hjk : j < s.1.length
          · rw [if_pos hik, if_pos hjk] at he; exact h5 i j hik hjk he
          · rw [if_pos hik, if_neg hjk] at he
            have := of_decide_eq_false (findN_neg h hik)
            exact absurd he.symm this
        · by_cases hjk : j < s.1.length
          · rw [if_neg hik, if_pos hjk] at he
            have := of_decide_eq_false (findN_neg h hjk)
            exact absurd he this
          · omega
theorem dsL_V {b : List (List Int)} (hV : ∀ f ∈ b, VF f) {k : Nat} (hk : k ≤ b.length) : ∀ f ∈ (dsL b k).1, VF f := fun f hf => by
  obtain ⟨j, hj, rfl⟩ := List.getElem_of_mem hf
  obtain ⟨i, i1, i2⟩ := (dsL_I (b := b) (k := k)).has j hj
  have e : fr (dsL b k).1 j = (dsL b k).1[j] := Option.some.inj ((at0_get hj).symm.trans (List.getElem?_eq_getElem hj))
  rw [← e, i2]
  exact hV _ (at0_mem (by omega))
/- The walk. -/
theorem call491 {pu : Bool} {G : Heap} {x : Value} {D : List (List Int)} {f : List Int} (h : Bk G x D) (hw : BkW D) (hf : f.length = 12) (hn : D.length ≤ 1000000) : Call tab pu 491 [x, iv .u16 f] G = some (.int .i64 (findN (fun j => decide (f = fr D j)) D.length), G) := by
  refine Call_wp t491 (.inr rfl) rfl ?_
  simp [c491, k491, h.lenV]
  refine WP_forH 8 D.length D.length rfl (by omega) (fun i e => e 0 = x ∧ e 3 = iv .u16 f ∧ e 7 = .int .i64 D.length ∧ ∀ j, j < i → decide (f = fr D j) = false) ?_ ?_ (by simp) ⟨by simp, by simp, by simp, fun j hj => by omega⟩
  · rintro i e hi hii e9 h8 ⟨h0, h3, h7, hj⟩
    obtain ⟨q, off, ver, ha, hr⟩ := Bk.get h hw hi
    have hl := (hw.fr hi).len
    have q1 := eqV_iv (k := .u16) hf hl
    cases hd : decide (f = fr D i) with
    | true =>
      rw [hd] at q1
      have e1 := findN_some (p := fun j => decide (f = fr D j)) hi hj hd
      simp [b491_1, h8, h0, h3, h7, hii, ha, hr, agg_cs, hf, q1, e1]
    | false =>
      rw [hd] at q1
      simp [b491_1, h8, h0, h3, h7, hii, ha, hr, agg_cs, hf, q1, e9]
      intro j hji
      by_cases hj2 : j < i
      · exact of_decide_eq_false (hj j hj2)
      · rw [show j = i by omega]; exact of_decide_eq_false hd
  · rintro e h8 ⟨h0, h3, h7, hj⟩
    have e1 := findN_none (p := fun j => decide (f = fr D j)) hj
    simp [b491_1, h8, h7, e1]
theorem fin_pair {H G : Heap} {b1 b2 : Nat} {x y : Value} {e1 e2 n1 n2 : Nat} {vs ws : List Value} (g1 : GrB H G b1 x e1 n1 vs) (g2 : GrB H G b2 y e2 n2 ws) (hne : b1 ≠ b2) (h1 : NoRef vs) (h2 : NoRef ws) :
    finish H.length G [x, y] = (tup [slc H.length 0 0 n1 n1, slc (H.length + 1) 0 0 n2 n2], H ++ [⟨vs, e1, 0, false⟩, ⟨ws, e2, 0, false⟩]) := by
  obtain ⟨v1, rfl, q1, l1, z1, p1⟩ := g1
  obtain ⟨v2, rfl, q2, l2, z2, _⟩ := g2
  have o1 : old1 H.length (slc b1 0 v1 n1 n1) = false := by
    show (true && decide (b1 < H.length)) = false
    simp; omega
  have o2 : old1 H.length (slc b2 0 v2 n2 n2) = false := by
    show (true && decide (b2 < H.length)) = false
    simp; omega
  have a1 : vs.all (old0 H.length) = true := h1.all
  have a2 : ws.all (old0 H.length) = true := h2.all
  have hc : ([b1] : List Nat).contains b2 = false := by
    rw [List.contains_eq_mem]; simp; exact Ne.symm hne
  have s2 : pack H.length G [slc b2 0 v2 n2 n2] [b1] [⟨vs, e1, 0, false⟩] = some ([slc (H.length + 1) 0 0 n2 n2], [⟨vs, e1, 0, false⟩, ⟨ws, e2, 0, false⟩]) := by
    rw [pack, if_neg (by rw [o2]; decide)]
    show (match G[b2]? with
      | some k => if ([b1] : List Nat).contains b2 = false ∧ v2 = k.ver ∧ k.ro = false ∧ k.cells.all (old0 H.length) = true then (pack H.length G [] (b2 :: [b1]) ([(⟨vs, e1, 0, false⟩ : Blk)] ++ [{ k with ver := 0 }])).map fun (q : List Value × List Blk) => (slc (H.length + ([(⟨vs, e1, 0, false⟩ : Blk)] : List Blk).length) 0 0 n2 n2 :: q.1, q.2) else none
      | none => none) = _
    rw [q2]
    simp only []
    rw [if_pos ⟨hc, by simp, by simp, a2⟩]; rfl
  have s1 : pack H.length G [slc b1 0 v1 n1 n1, slc b2 0 v2 n2 n2] [] [] = some ([slc H.length 0 0 n1 n1, slc (H.length + 1) 0 0 n2 n2], [⟨vs, e1, 0, false⟩, ⟨ws, e2, 0, false⟩]) := by
    rw [pack, if_neg (by rw [o1]; decide)]
    show (match G[b1]? with
      | some k => if ([] : List Nat).contains b1 = false ∧ v1 = k.ver ∧ k.ro = false ∧ k.cells.all (old0 H.length) = true then (pack H.length G [slc b2 0 v2 n2 n2] (b1 :: []) ([] ++ [{ k with ver := 0 }])).map fun (q : List Value × List Blk) => (slc (H.length + ([] : List Blk).length) 0 0 n1 n1 :: q.1, q.2) else none
      | none => none) = _
    rw [q1]
    simp only []
    rw [if_pos ⟨by simp, by simp, by simp, a1⟩]
    show (pack H.length G [slc b2 0 v2 n2 n2] [b1] [⟨vs, e1, 0, false⟩]).map _ = _
    rw [s2]; rfl
  rw [finish_some s1, p1.take]; rfl
theorem grB_bk {H G : Heap} {F : Nat} {x : Value} {D : List (List Int)} (g : GrB H G F x 12 D.length (bkC D)) (hV : ∀ f ∈ D, VF f) : Bk G x D := by
  obtain ⟨ver, rfl, h1, _⟩ := g
  exact bk_of h1 hV rfl (Nat.le_refl _)
def dsV (N : Nat) (b : List (List Int)) : Value := tup [slc N 0 0 (dsL b b.length).1.length (dsL b b.length).1.length, slc (N + 1) 0 0 b.length b.length]
def dsH (H : Heap) (b : List (List Int)) : Heap := H ++ [⟨bkC (dsL b b.length).1, 12, 0, false⟩, ⟨cs .i64 (dsL b b.length).2, 1, 0, false⟩]
theorem call317 {pu : Bool} {H : Heap} {x : Value} {b : List (List Int)} (h : Bk H x b) (hV : ∀ f ∈ b, VF f) (hn : b.length ≤ 1000) : Call tab pu 317 [x] H = some (dsV H.length b, dsH H b) := by
  have hw : BkW b := fun f hf => (hV f hf).W
  refine Call_wp t317 (.inr rfl) rfl ?_
  have hf0 : fill (rep 0 (cs .u16 (zr 12 0))) [] = some [] := rfl
  have hf1 : fill (rep 0 [.int .i64 0]) [] = some [] := rfl
  obtain ⟨G1, hG1⟩ : ∃ G1, G1 = H ++ [(⟨[], 12, 0, false⟩ : Blk)] := ⟨_, rfl⟩
  obtain ⟨G2, hG2⟩ : ∃ G2, G2 = G1 ++ [(⟨[], 1, 0, false⟩ : Blk)] := ⟨_, rfl⟩
  have p1 : Pre H G1 := by rw [hG1]; exact Pre.one
  have p2 : Pre G1 G2 := by rw [hG2]; exact Pre.one
  have l1 : G1.length = H.length + 1 := by rw [hG1]; simp
  have z1 : GrB H G2 H.length (slc H.length 0 0 0 0) 12 0 (bkC []) := GrB.mk' (by rw [p2.get (by omega), hG1]; exact get_last) (Nat.le_refl _) (p1.trans p2)
  have z2 : GrB H G2 (H.length + 1) (slc (H.length + 1) 0 0 0 0) 1 0 (cs .i64 []) := GrB.mk' (by rw [hG2, ← l1]; exact get_last) (by omega) (p1.trans p2)
  simp [c317, k317, hf0, hf1, zs_cs, ← hG1, ← hG2, l1, h.lenV]
  refine WP_count 13 b.length b.length rfl (fun i e G => e 11 = x ∧ e 12 = .int .i64 b.length ∧ ∃ x4 x5, e 4 = x4 ∧ e 5 = x5 ∧ GrB H G H.length x4 12 (dsL b i).1.length (bkC (dsL b i).1) ∧ GrB H G (H.length + 1) x5 1 i (cs .i64 (dsL b i).2)) (by omega) ?_ ?_ (by simp)
    ⟨by simp, by simp, _, _, by simp; rfl, by simp; rfl, by rw [dsL_zero]; exact z1, by rw [dsL_zero]; exact z2⟩
  · rintro i e G _ hi hii e14 h13 ⟨h11, h12, x4, x5, h4, h5, g1, g2⟩
    have I := dsL_I (b := b) (k := i)
    have VD := dsL_V hV (k := i) (by omega)
    obtain ⟨q, off, ver, ha, hr⟩ := Bk.get (h.pre g1.pr) hw hi
    have hl := (hw.fr hi).len
    have s1 := stc_zr (k := .u16) (n := 12) (l := fr b i) hl
    have dk := grB_bk g1 VD
    have c1 := call491 (pu := true) dk (fun f hf => (VD f hf).W) hl (by have := I.l1; omega)
    have hs := dsL_succ (b := b) (k := i)
    have hd1 := I.l1
    have hd2 := I.l2
    generalize hD : dsL b i = s at *
    obtain ⟨m, hm⟩ : ∃ m, m = findN (fun j => decide (fr b i = fr s.1 j)) s.1.length := ⟨_, rfl⟩
    rw [← hm] at c1
    by_cases hneg : m < 0
    · have hge : ¬ 0 ≤ m := by omega
      unfold dsS at hs
      rw [← hm, if_neg hge] at hs
      obtain ⟨x4', G3, c2, g3, kp⟩ := g1.push (c := cs .u16 (fr b i)) (bytes := 24) (by simp [hl]) (room24 (by omega)) (wb := false)
      have g4 := g2.kept (kp _ (by omega) g2.ltG) g3.pr
      obtain ⟨x5', G4, c3, g5, kp2⟩ := g4.push (c := [.int .i64 (s.1.length : Int)]) (bytes := 8) rfl (room8 (by omega)) (wb := false)
      have g6 := g3.kept (kp2 _ (by omega) g3.ltG) g5.pr
      rw [bkC_push] at g6
      rw [cs_push] at g5
      have hf2 := fill_one (z := [.int .i64 0]) (v := .int .i64 (s.1.length : Int)) (esz := 1) rfl rfl
      have d1 : (dsL b (i + 1)).1 = s.1 ++ [fr b i] := by rw [hs]
      have d2 : (dsL b (i + 1)).2 = s.2 ++ [(s.1.length : Int)] := by rw [hs]
      have ld := dk.lenV
      simp [b317_1, h13, h11, h12, h4, h5, hii, ha, hr, zs_cs, agg_cs, hl, s1, c1, hneg, ld, fillF hl, c2, wbOf, hf2, c3, e14]
      exact ⟨by rw [d1]; simpa using g6, by rw [d2]; exact g5⟩
    · have hge : 0 ≤ m := by omega
      unfold dsS at hs
      rw [← hm, if_pos hge] at hs
      obtain ⟨x5', G4, c3, g5, kp2⟩ := g2.push (c := [.int .i64 m]) (bytes := 8) rfl (room8 (by omega)) (wb := false)
      have g6 := g1.kept (kp2 _ (by omega) g1.ltG) g5.pr
      rw [cs_push] at g5
      have hf2 := fill_one (z := [.int .i64 0]) (v := .int .i64 m) (esz := 1) rfl rfl
      have d1 : (dsL b (i + 1)).1 = s.1 := by rw [hs]
      have d2 : (dsL b (i + 1)).2 = s.2 ++ [m] := by rw [hs]
      simp [b317_1, h13, h11, h12, h4, h5, hii, ha, hr, zs_cs, agg_cs, hl, s1, c1, hneg, hf2, c3, wbOf, e14]
      exact ⟨by rw [d1]; exact g6, by rw [d2]; exact g5⟩
  · rintro e G _ h13 ⟨h11, h12, x4, x5, h4, h5, g1, g2⟩
    have hfin := fin_pair g1 g2 (by omega) bkC_flat flat_cs
    simp [b317_1, h13, h12, h4, h5, hfin, dsV, dsH]
def rpA (b : List (List Int)) (i : Nat) : Int := findN (fun j => decide (fr b j = fr b i)) (i + 1)
def rpL (b : List (List Int)) (k : Nat) : List Int := (List.range k).map (rpA b)
theorem Gr.pr {H G : Heap} {x : Value} {esz n : Nat} {vs : List Value} (g : Gr H G x esz n vs) : Pre H G := by
  obtain ⟨_, _, _, _, _, _, h⟩ := g; exact h
theorem rpA_spec (b : List (List Int)) (i : Nat) : ∃ r : Nat, rpA b i = r ∧ r ≤ i ∧ fr b r = fr b i ∧ ∀ j, j < r → fr b j ≠ fr b i := by
  obtain ⟨j, j1, j2, j3⟩ := least_of (P := fun j => decide (fr b j = fr b i)) (n := i + 1) ⟨i, by omega, by simp⟩
  refine ⟨j, findN_some j1 j3 j2, by omega, of_decide_eq_true j2, fun k hk h => ?_⟩
  have := j3 k hk
  rw [decide_eq_true h] at this; cases this
theorem rpL_succ {b : List (List Int)} {k : Nat} : rpL b (k + 1) = rpL b k ++ [rpA b k] := by simp [rpL, List.range_succ]
theorem rpL_len {b : List (List Int)} {k : Nat} : (rpL b k).length = k := by simp [rpL]
theorem rpL_at {b : List (List Int)} {k i : Nat} (h : i < k) : nth (rpL b k) i = rpA b i := by
  simp [rpL, nth, h]
theorem call492 {pu : Bool} {H : Heap} {x : Value} {b : List (List Int)} (h : Bk H x b) (hw : BkW b) (hn : b.length ≤ 1000000) : Call tab pu 492 [x] H = some (slc H.length 0 0 b.length b.length, H ++ [⟨cs .i64 (rpL b b.length), 1, 0, false⟩]) := by
  refine Call_wp t492 (.inr rfl) rfl ?_
  have hf1 : fill (rep 0 [.int .i64 0]) [] = some [] := rfl
  obtain ⟨G1, hG1⟩ : ∃ G1, G1 = H ++ [(⟨[], 1, 0, false⟩ : Blk)] := ⟨_, rfl⟩
  have p1 : Pre H G1 := by rw [hG1]; exact Pre.one
  have z1 : Gr H G1 (slc H.length 0 0 0 0) 1 0 (cs .i64 []) := (GrB.mk' (by rw [hG1]; exact get_last) (Nat.le_refl _) p1).gr
  simp [c492, k492, hf1, ← hG1]
  refine WP_count 4 b.length b.length rfl (fun i e G => e 0 = x ∧ ∃ x3, e 3 = x3 ∧ Gr H G x3 1 i (cs .i64 (rpL b i))) (by omega) ?_ ?_ (by simp) ⟨by simp, _, by simp, z1⟩
  · rintro i e G _ hi hii e4 h4 ⟨h0, x3, h3, g⟩
    obtain ⟨r, hr, hri, hre, hrn⟩ := rpA_spec b i
    have hG : Bk G x b := h.pre g.pr
    have hl := hG.lenV
    simp [b492_2, h4, h0, h3, hl, hii]
    refine WK_loop (fun a e1 G1 => e1 0 = x ∧ e1 3 = x3 ∧ e1 4 = .int .i64 (i : Int) ∧ e1 5 = .int .i64 (a : Int) ∧ G1 = G) r ?_ (Nat.zero_le _) ⟨by simp [h0], by simp [h3], by simp [h4], by simp, rfl⟩
    rintro a e1 G2 _ ha ⟨q0, q3, q4, q5, rfl⟩
    obtain ⟨u, off, ver, a1, r1⟩ := Bk.get hG hw (show a < b.length by omega)
    obtain ⟨u', off', ver', a2, r2⟩ := Bk.get hG hw hi
    have l1 := (hw.fr (show a < b.length by omega)).len
    have l2 := (hw.fr hi).len
    have eq := eqV_iv (k := .u16) l1 l2
    by_cases har : a = r
    · subst har
      rw [decide_eq_true hre] at eq
      obtain ⟨x4, G3, c3, g3⟩ := g.push (c := [.int .i64 (a : Int)]) (bytes := 8) rfl (room8 (by omega)) (wb := false)
      have hf2 := fill_one (z := [.int .i64 0]) (v := .int .i64 (a : Int)) (esz := 1) rfl rfl
      rw [cs_push, ← hr, ← rpL_succ] at g3
      simp [b492_1, q0, q3, q4, q5, a1, a2, r1, r2, agg_cs, l1, l2, eq, hf2, c3, wbOf, e4]
      exact g3
    · have hne : fr b a ≠ fr b i := hrn a (by omega)
      rw [decide_eq_false hne] at eq
      have w : IntKind.wrap .i64 ((a : Int) + 1) = (a : Int) + 1 := wrap64 (by omega)
      simp [b492_1, q0, q3, q4, q5, a1, a2, r1, r2, agg_cs, l1, l2, eq, w]
      omega
  · rintro e G _ h4 ⟨h0, x3, h3, g⟩
    have hG : Bk G x b := h.pre g.pr
    have hl := hG.lenV
    have hfin := g.fin flat_cs
    simp [b492_2, h4, h0, h3, hl, hfin]
theorem ds_new {b : List (List Int)} {i : Nat} (h : ∀ j, j < i → fr b j ≠ fr b i) : dsL b (i + 1) = ((dsL b i).1 ++ [fr b i], (dsL b i).2 ++ [((dsL b i).1.length : Int)]) := by
  have I := dsL_I (b := b) (k := i)
  rw [dsL_succ, dsS]
  rw [if_neg]
  intro hg
  obtain ⟨j, _, j2, j3⟩ := findN_get hg
  obtain ⟨q, q1, q2⟩ := I.has j j2
  exact h q q1 (by rw [← q2, ← of_decide_eq_true j3])
theorem ds_old {b : List (List Int)} {i r : Nat} (hr : r < i) (h : fr b r = fr b i) : dsL b (i + 1) = ((dsL b i).1, (dsL b i).2 ++ [nth (dsL b i).2 r]) := by
  have I := dsL_I (b := b) (k := i)
  obtain ⟨j, j1, j2, j3⟩ := I.at' r hr
  rw [dsL_succ, dsS]
  have hge : 0 ≤ findN (fun j => decide (fr b i = fr (dsL b i).1 j)) (dsL b i).1.length := by
    by_cases hn : 0 ≤ findN (fun j => decide (fr b i = fr (dsL b i).1 j)) (dsL b i).1.length
    · exact hn
    · have := findN_neg hn j2
      exact absurd (by rw [j3, h]) (of_decide_eq_false this)
  rw [if_pos hge]
  obtain ⟨m, m1, m2, m3⟩ := findN_get hge
  have : m = j := I.one m j m2 j2 (by rw [← of_decide_eq_true m3, j3, h])
  rw [m1, j1, this]
theorem GrB.get_i {H G : Heap} {b n : Nat} {x : Value} {l : List Int} (g : GrB H G b x 1 n (cs .i64 l)) {i : Nat} (hi : i < n) :
    ∃ off ver, idxAV 1 x (.int .i64 (i : Int)) = some (adr b off ver) ∧ rd G b off ver 1 = some [.int .i64 (nth l i)] := by
  obtain ⟨ver, rfl, h1, _, h3, _⟩ := g
  have hl : l.length = n := by simpa using h3
  refine ⟨i, ver, by simp [hi], ?_⟩
  rw [rd_at h1 rfl (by simp; omega)]
  simp only []
  rw [cs_one (by omega)]
theorem call319 {pu : Bool} {H : Heap} {x : Value} {b : List (List Int)} (h : Bk H x b) (hV : ∀ f ∈ b, VF f) (hn : b.length ≤ 1000) : Call tab pu 319 [x] H = some (dsV H.length b, dsH H b) := by
  have hw : BkW b := fun f hf => (hV f hf).W
  refine Call_wp t319 (.inr rfl) rfl ?_
  have hf0 : fill (rep 0 (cs .u16 (zr 12 0))) [] = some [] := rfl
  have hf1 : fill (rep 0 [.int .i64 0]) [] = some [] := rfl
  have c492 := call492 (pu := true) h hw (by omega)
  obtain ⟨G0, hG0⟩ : ∃ G0, G0 = H ++ [(⟨cs .i64 (rpL b b.length), 1, 0, false⟩ : Blk)] := ⟨_, rfl⟩
  obtain ⟨G1, hG1⟩ : ∃ G1, G1 = G0 ++ [(⟨[], 12, 0, false⟩ : Blk)] := ⟨_, rfl⟩
  obtain ⟨G2, hG2⟩ : ∃ G2, G2 = G1 ++ [(⟨[], 1, 0, false⟩ : Blk)] := ⟨_, rfl⟩
  rw [← hG0] at c492
  have p0 : Pre H G0 := by rw [hG0]; exact Pre.one
  have p1 : Pre G0 G1 := by rw [hG1]; exact Pre.one
  have p2 : Pre G1 G2 := by rw [hG2]; exact Pre.one
  have l0 : G0.length = H.length + 1 := by rw [hG0]; simp
  have l1 : G1.length = H.length + 2 := by rw [hG1]; simp [l0]
  have pp := p0.trans (p1.trans p2)
  have z0 : GrB H G2 H.length (slc H.length 0 0 b.length b.length) 1 b.length (cs .i64 (rpL b b.length)) := ⟨0, rfl, by rw [(p1.trans p2).get (by omega), hG0]; exact get_last, Nat.le_refl _, by simp [rpL_len], pp⟩
  have z1 : GrB H G2 (H.length + 1) (slc (H.length + 1) 0 0 0 0) 12 0 (bkC []) := GrB.mk' (by rw [p2.get (by omega), hG1, ← l0]; exact get_last) (by omega) pp
  have z2 : GrB H G2 (H.length + 2) (slc (H.length + 2) 0 0 0 0) 1 0 (cs .i64 []) := GrB.mk' (by rw [hG2, ← l1]; exact get_last) (by omega) pp
  simp [c319, k319, hf0, hf1, zs_cs, c492, ← hG1, ← hG2, l0, l1]
  refine WP_count 7 b.length b.length rfl (fun i e G => e 0 = x ∧ ∃ x4 x5 x6, e 4 = x4 ∧ e 5 = x5 ∧ e 6 = x6 ∧ GrB H G H.length x4 1 b.length (cs .i64 (rpL b b.length)) ∧ GrB H G (H.length + 1) x5 12 (dsL b i).1.length (bkC (dsL b i).1) ∧ GrB H G (H.length + 2) x6 1 i (cs .i64 (dsL b i).2)) (by omega) ?_ ?_ (by simp)
    ⟨by simp, _, _, _, by simp, by simp; rfl, by simp; rfl, z0, by rw [dsL_zero]; exact z1, by rw [dsL_zero]; exact z2⟩
  · rintro i e G _ hi hii e14 h7 ⟨h0, x4, x5, x6, h4, h5, h6, g0, g1, g2⟩
    have I := dsL_I (b := b) (k := i)
    have VD := dsL_V hV (k := i) (by omega)
    have hB := h.pre g1.pr
    have hlB := hB.lenV
    obtain ⟨q, off, ver, ha, hr⟩ := Bk.get hB hw hi
    have hl := (hw.fr hi).len
    have hlD : lenV x5 = some (.int .i64 (dsL b i).1.length) := (grB_bk g1 VD).lenV
    obtain ⟨o4, v4, a4, r4⟩ := g0.get_i hi
    rw [rpL_at hi] at r4
    obtain ⟨r, hr1, hr2, hr3, hr4⟩ := rpA_spec b i
    rw [hr1] at r4
    have hd1 := I.l1
    by_cases hri : r = i
    · subst hri
      have hs := ds_new hr4
      obtain ⟨x6', G3, c2, g3, kp⟩ := g2.push (c := [.int .i64 ((dsL b r).1.length : Int)]) (bytes := 8) rfl (room8 (by omega)) (wb := false)
      have g4 := g1.kept (kp _ (by omega) g1.ltG) g3.pr
      have g0' := g0.kept (kp _ (by omega) g0.ltG) g3.pr
      have hB3 := h.pre g3.pr
      obtain ⟨q', off', ver', ha', hr'⟩ := Bk.get hB3 hw hi
      obtain ⟨x5', G4, c3, g5, kp2⟩ := g4.push (c := cs .u16 (fr b r)) (bytes := 24) (by simp [hl]) (room24 (by omega)) (wb := false)
      have g6 := g3.kept (kp2 _ (by omega) g3.ltG) g5.pr
      have g0'' := g0'.kept (kp2 _ (by omega) g0'.ltG) g5.pr
      rw [bkC_push] at g5
      rw [cs_push] at g6
      have hf2 := fill_one (z := [.int .i64 0]) (v := .int .i64 ((dsL b r).1.length : Int)) (esz := 1) rfl rfl
      have d1 : (dsL b (r + 1)).1 = (dsL b r).1 ++ [fr b r] := by rw [hs]
      have d2 : (dsL b (r + 1)).2 = (dsL b r).2 ++ [((dsL b r).1.length : Int)] := by rw [hs]
      simp [b319_1, h7, h0, h4, h5, h6, hii, hlB, hlD, a4, r4, hf2, c2, ha', hr', zs_cs, agg_cs, hl, fillF hl, c3, wbOf, e14]
      exact ⟨g0'', by rw [d1]; simpa using g5, by rw [d2]; exact g6⟩
    · have hs := ds_old (show r < i by omega) hr3
      obtain ⟨o6, v6, a6, r6⟩ := g2.get_i (show r < i by omega)
      obtain ⟨x6', G3, c2, g3, kp⟩ := g2.push (c := [.int .i64 (nth (dsL b i).2 r)]) (bytes := 8) rfl (room8 (by omega)) (wb := false)
      have g4 := g1.kept (kp _ (by omega) g1.ltG) g3.pr
      have g0' := g0.kept (kp _ (by omega) g0.ltG) g3.pr
      rw [cs_push] at g3
      have hf2 := fill_one (z := [.int .i64 0]) (v := .int .i64 (nth (dsL b i).2 r)) (esz := 1) rfl rfl
      have d1 : (dsL b (i + 1)).1 = (dsL b i).1 := by rw [hs]
      have d2 : (dsL b (i + 1)).2 = (dsL b i).2 ++ [nth (dsL b i).2 r] := by rw [hs]
      have hne : ((r : Int) == (i : Int)) = false := by simp; omega
      simp [b319_1, h7, h0, h4, h5, h6, hii, hlB, a4, r4, hne, a6, r6, hf2, c2, wbOf, e14]
      exact ⟨g0', by rw [d1]; exact g4, by rw [d2]; exact g3⟩
  · rintro e G _ h7 ⟨h0, x4, x5, x6, h4, h5, h6, g0, g1, g2⟩
    have hlB := (h.pre g1.pr).lenV
    have hfin := fin_pair g1 g2 (by omega) bkC_flat flat_cs
    simp [b319_1, h7, h0, h5, h6, hlB, hfin, dsV, dsH]
theorem and_u32 {n : Nat} (h : n < 4294967296) : bitsOf .and .u64 (n : Int) 4294967295 = (n : Int) := by
  have e1 : (BitVec.ofInt 64 (n : Int) &&& BitVec.ofInt 64 4294967295).toNat = n := by
    rw [BitVec.toNat_and, BitVec.toNat_ofInt, BitVec.toNat_ofInt]
    have a1 : ((n : Int) % ((2 ^ 64 : Nat) : Int)).toNat = n := by
      rw [Int.emod_eq_of_lt (by omega) (by omega)]; simp
    have a2 : ((4294967295 : Int) % ((2 ^ 64 : Nat) : Int)).toNat = 2 ^ 32 - 1 := by decide
    rw [a1, a2, Nat.and_two_pow_sub_one_eq_mod, Nat.mod_eq_of_lt (by omega)]
  show IntKind.wrap .u64 (((BitVec.ofInt 64 (n : Int) &&& BitVec.ofInt 64 4294967295).toNat : Nat) : Int) = _
  rw [e1]
  exact wrapu64 (by omega)
theorem shr_u32 {n : Nat} (h : n < 4294967296) : shiftOf .shr .u64 (n : Int) 32 = some (.int .u64 0) := by
  unfold shiftOf
  rw [if_neg (by omega)]
  show some (Value.int .u64 ((n : Int).fdiv 4294967296)) = _
  rw [Int.fdiv_eq_ediv_of_nonneg _ (by omega), Int.ediv_eq_zero_of_lt (by omega) (by omega)]
theorem call588 {pu : Bool} {H : Heap} {a b : Nat} (ha : a < 65536) (hb : b < 65536) : Call tab pu 588 [.int .u64 (a : Int), .int .u64 (b : Int)] H = some (tup [.int .u64 0, .int .u64 ((a * b : Nat) : Int)], H) := by
  have hab : a * b < 4294967296 := by
    have := Nat.mul_le_mul (show a ≤ 65535 by omega) (show b ≤ 65535 by omega)
    omega
  refine Call_wp t588 (.inr rfl) rfl ?_
  have m1 := and_u32 (n := a) (by omega)
  have m2 := and_u32 (n := b) (by omega)
  have s1 := shr_u32 (n := a) (by omega)
  have s2 := shr_u32 (n := b) (by omega)
  have s3 := shr_u32 hab
  have s0 : shiftOf .shr .u64 0 32 = some (.int .u64 0) := shr_u32 (n := 0) (by omega)
  have m0 : bitsOf .and .u64 0 4294967295 = 0 := and_u32 (n := 0) (by omega)
  have w : IntKind.wrap .u64 ((a : Int) * (b : Int)) = ((a * b : Nat) : Int) := by
    rw [← Int.natCast_mul]; exact wrapu64 (by omega)
  simp [c588, k588, m1, m2, s1, s2, w, s3, s0, m0, -Int.natCast_mul]
theorem call562 {pu : Bool} {H : Heap} {a b : Nat} (ha : a < 65536) (hb : b < 65536) : Call tab pu 562 [.int .u64 (a : Int), .int .u64 (b : Int)] H = some (tup [.int .u64 0, .int .u64 ((a * b : Nat) : Int)], H) := by
  refine Call_wp t562 (.inr rfl) rfl ?_
  simp [c562, k562, call588 ha hb, -Int.natCast_mul]
theorem srcOf_one {G : Heap} {x v : Value} (h : SlR G x 1 1 [v]) : srcOf 1 G x = some (1, [v]) := by
  rcases h.is with ⟨_, h0⟩ | ⟨b, off, ver, cap, rfl, _, hr, _⟩
  · omega
  · show (rd G b off ver (1 * 1)).map _ = _
    rw [hr]; rfl
noncomputable def cpyV (n0 : Nat) (wb : Bool) (esz : Nat) (H : Heap) (x y : Value) : Option (Value × Heap) := (srcOf esz H y).bind fun (q : Nat × List Value) => match x with
    | .slice none 0 0 => some (.int .i64 0, H)
    | .slice (some ⟨b, off, some ver⟩) len _ => (wr n0 wb H b off ver (q.2.take (min q.1 len * esz))).map fun H' => (.int .i64 (min q.1 len : Nat), H')
    | _ => none
theorem ev1_cpyV {cl : Cl} {n0 : Nat} {wb : Bool} {e : Env} {H : Heap} {esz : Nat} {x y : Opd} : ev1 cl n0 wb e H (.cpy esz x y) = cpyV n0 wb esz H (x.ev e) (y.ev e) := rfl
theorem cpyV_at {n0 : Nat} {wb : Bool} {esz b off ver len cap n : Nat} {H H' : Heap} {y : Value} {vs : List Value} (h : srcOf esz H y = some (n, vs)) (hw : wr n0 wb H b off ver (vs.take (min n len * esz)) = some H') :
    cpyV n0 wb esz H (slc b off ver len cap) y = some (.int .i64 ((min n len : Nat) : Int), H') := by
  unfold cpyV
  rw [h]
  show (wr n0 wb H b off ver (vs.take (min n len * esz))).map _ = _
  rw [hw]; rfl
theorem slcAV_lo1 {H : Heap} {b n cap lo : Nat} {k : Blk} (hk : H[b]? = some k) (hv : 0 = k.ver) (he : k.esz = 1) (h : lo ≤ n) :
    slcAV H 1 (slc b 0 0 n cap) (some (.int .i64 (lo : Int))) none none = some (slc b lo 0 (n - lo) (cap - lo)) := by
  rw [slcAV_get hk hv he]
  simp [bnds, bnd_nat h]
/-- A number so many times, and noughts behind. -/
def rqL (v : Int) (n p : Nat) : List Int := List.replicate p v ++ List.replicate (n - p) 0
def rqH (H : Heap) (v : Int) (n p : Nat) : Heap := H ++ [⟨cs .i64 (rqL v n p), 1, 0, false⟩]
theorem rqL_len {v : Int} {n p : Nat} (h : p ≤ n) : (rqL v n p).length = n := by simp [rqL]; omega
theorem rqH_get {H : Heap} {v : Int} {n p : Nat} : (rqH H v n p)[H.length]? = some ⟨cs .i64 (rqL v n p), 1, 0, false⟩ := get_last
theorem rqL_more {v : Int} {n p m : Nat} (h : p + m ≤ n) : splice (cs .i64 (rqL v n p)) p (cs .i64 (List.replicate m v)) = cs .i64 (rqL v n (p + m)) := by
  have e1 : (rqL v n p).take p = List.replicate p v := by simp [rqL]
  have e2 : (rqL v n p).drop (p + m) = List.replicate (n - (p + m)) 0 := by
    rw [rqL, List.drop_append]
    simp
    omega
  have e3 : (cs .i64 (List.replicate m v)).length = m := by simp
  unfold splice
  rw [e3]
  unfold cs
  rw [← List.map_take, ← List.map_drop, e1, e2, rqL, ← List.map_append, ← List.map_append, List.replicate_append_replicate]
theorem rqH_wr {H : Heap} {v : Int} {n p m : Nat} {wb : Bool} (h : p + m ≤ n) : wr H.length wb (rqH H v n p) H.length p 0 (cs .i64 (List.replicate m v)) = some (rqH H v n (p + m)) := by
  rw [wr_at rqH_get rfl rfl (by simp [may]) (by simp [rqL_len (show p ≤ n by omega)]; omega), rqL_more h]
  simp [rqH]
theorem call494 {pu : Bool} {H : Heap} {x : Value} {v : Int} {n : Nat} (hx : SlR H x 1 1 [.int .i64 v]) (h1 : 1 ≤ n) (hn : n ≤ 1000) : Call tab pu 494 [x, .int .i64 (n : Int)] H = some (slc H.length 0 0 n n, H ++ [⟨cs .i64 (List.replicate n v), 1, 0, false⟩]) := by
  refine Call_wp t494 (.inr rfl) rfl ?_
  have c := call562 (pu := true) (H := H) (a := 1) (b := n) (by omega) (by omega)
  rw [Nat.one_mul, show ((1 : Nat) : Int) = 1 from rfl] at c
  have hneg : ¬ (n : Int) < 0 := by omega
  have w0 : IntKind.wrap .u64 (n : Int) = n := wrapu64 (by omega)
  have w1 : IntKind.wrap .i64 (n : Int) = n := wrap64 (by omega)
  have hg : ¬ (9223372036854775807 : Int) < n := by omega
  have hmk : 0 ≤ (n : Int) ∧ (n : Int) ≤ n ∧ (n : Int) * 8 ≤ roomMax := by have : (roomMax : Int) = 140737488355328 := rfl; omega
  have hz : H ++ [(⟨rep n [.int .i64 0], 1, 0, false⟩ : Blk)] = rqH H v n 0 := by
    rw [rep_zr, rqH, rqL]; simp [zr]
  have hs : srcOf 1 (rqH H v n 0) x = some (1, [.int .i64 v]) := srcOf_one (hx.app)
  have hw : wr H.length false (rqH H v n 0) H.length 0 0 [.int .i64 v] = some (rqH H v n 1) := rqH_wr (m := 1) (by omega)
  have hmin : min 1 n = 1 := by omega
  have cv : cpyV H.length false 1 (rqH H v n 0) (slc H.length 0 0 n n) x = some (.int .i64 1, rqH H v n 1) := by
    have := cpyV_at (n0 := H.length) (wb := false) (b := H.length) (off := 0) (ver := 0) (len := n) (cap := n) (H' := rqH H v n 1) hs (by rw [hmin]; exact hw)
    rw [hmin] at this; exact this
  simp [c494, k494, hx.lenV, hneg, c, w0, w1, hg, ev1_mkS, mksV_int, hmk, hz, skip, ev1_cpyV, cv, wbOf]
  refine WK_loop (fun i e G => ∃ p : Nat, i < p ∧ p ≤ n ∧ e 7 = slc H.length 0 0 n n ∧ e 8 = .int .i64 (p : Int) ∧ G = rqH H v n p) n ?_ (Nat.zero_le _) ⟨1, by omega, h1, by simp, by simp, rfl⟩
  rintro i e G _ hi ⟨p, hp1, hp2, h7, h8, rfl⟩
  by_cases hpn : p < n
  · have hlt : (p : Int) < n := by omega
    have a1 := slcAV_lo1 (n := n) (cap := n) (lo := p) (rqH_get (H := H) (v := v) (n := n) (p := p)) rfl rfl (by omega)
    have a2 := slcAV_hi (len := n) (cap := n) (off := 0) (hi := p) (kk := .i64) (rqH_get (H := H) (v := v) (n := n) (p := p)) rfl rfl (by omega)
    have hr : srcOf 1 (rqH H v n p) (slc H.length 0 0 p n) = some (p, cs .i64 (List.replicate p v)) := by
      show (rd (rqH H v n p) H.length 0 0 (p * 1)).map _ = _
      rw [rd_at rqH_get rfl (by simp [rqL_len hp2]; omega)]
      simp [rqL, cs]
    have hw2 : wr H.length false (rqH H v n p) H.length p 0 ((cs .i64 (List.replicate p v)).take (min p (n - p))) = some (rqH H v n (p + min p (n - p))) := by
      have e1 : (cs .i64 (List.replicate p v)).take (min p (n - p)) = cs .i64 (List.replicate (min p (n - p)) v) := by
        unfold cs
        rw [← List.map_take, List.take_replicate, Nat.min_eq_left (by omega)]
      rw [e1]; exact rqH_wr (by omega)
    have w3 : IntKind.wrap .i64 ((p : Int) + ((min p (n - p) : Nat) : Int)) = ((p + min p (n - p) : Nat) : Int) := by
      rw [← Int.natCast_add]; exact wrap64 (by omega)
    obtain ⟨m, hm⟩ : ∃ m, m = min p (n - p) := ⟨_, rfl⟩
    have cv2 := cpyV_at (n0 := H.length) (wb := false) (esz := 1) (b := H.length) (off := p) (ver := 0) (len := n - p) (cap := n - p) (H' := rqH H v n (p + min p (n - p))) hr (by rw [Nat.mul_one]; exact hw2)
    rw [← hm] at cv2 w3
    simp [b494_1, h7, h8, hlt, a1, a2, ev1_cpyV, cv2, w3, wbOf, -Int.natCast_add]
    exact ⟨by omega, p + m, by omega, by omega, rfl, rfl⟩
  · obtain rfl : p = n := by omega
    have hfin : finish H.length (rqH H v p p) [slc H.length 0 0 p p] = (slc H.length 0 0 p p, H ++ [⟨cs .i64 (List.replicate p v), 1, 0, false⟩]) := by
      have g : Gr H (rqH H v p p) (slc H.length 0 0 p p) 1 p (cs .i64 (rqL v p p)) := ⟨H.length, 0, rfl, rqH_get, Nat.le_refl _, by simp [rqL_len (Nat.le_refl p)], Pre.one⟩
      rw [g.fin flat_cs]; simp [rqL]
    simp [b494_1, h7, h8, hfin]
def tckL (s : ML) (k : Nat) : List Int := itN (fun i t => t ++ List.replicate (mv s i).2.toNat (mv s i).1) [] k
theorem tckL_zero {s : ML} : tckL s 0 = [] := itN_zero
theorem tckL_succ {s : ML} {k : Nat} : tckL s (k + 1) = tckL s k ++ List.replicate (mv s k).2.toNat (mv s k).1 := itN_succ
theorem tckL_len {s : ML} {n k : Nat} (h : ∀ i, i < n → (mv s i).2 ≤ 24) (hk : k ≤ n) : (tckL s k).length ≤ k * 24 := by
  induction k with
  | zero => rw [tckL_zero]; simp
  | succ k ih =>
    have := ih (by omega)
    have := h k (by omega)
    rw [tckL_succ]; simp; omega
theorem call321 {pu : Bool} {H : Heap} {x : Value} {s : ML} (hs : SlR H x 2 s.length (mvsC s)) (hv : ∀ i, i < s.length → 1 ≤ (mv s i).2 ∧ (mv s i).2 ≤ 24 ∧ -128 ≤ (mv s i).1 ∧ (mv s i).1 ≤ 127) (hn : s.length ≤ 80) :
    Call tab pu 321 [x] H = some (slc H.length 0 0 (tckL s s.length).length (tckL s s.length).length, H ++ [⟨cs .i64 (tckL s s.length), 1, 0, false⟩]) := by
  refine Call_wp t321 (.inr rfl) rfl ?_
  have hf1 : fill (rep 0 [.int .i64 0]) [] = some [] := rfl
  obtain ⟨G1, hG1⟩ : ∃ G1, G1 = H ++ [(⟨[], 1, 0, false⟩ : Blk)] := ⟨_, rfl⟩
  have p1 : Pre H G1 := by rw [hG1]; exact Pre.one
  have z1 : GrB H G1 H.length (slc H.length 0 0 0 0) 1 0 (cs .i64 []) := GrB.mk' (by rw [hG1]; exact get_last) (Nat.le_refl _) p1
  simp [c321, k321, hf1, ← hG1, hs.lenV]
  refine WP_count 9 s.length s.length rfl (fun i e G => e 7 = x ∧ e 8 = .int .i64 s.length ∧ ∃ x3, e 3 = x3 ∧ GrB H G H.length x3 1 (tckL s i).length (cs .i64 (tckL s i))) (by omega) ?_ ?_ (by simp) ⟨by simp, by simp, _, by simp; rfl, by rw [tckL_zero]; exact z1⟩
  · rintro i e G _ hi hii e9 h9 ⟨h7, h8, x3, h3, g⟩
    obtain ⟨v1, v2, v3, v4⟩ := hv i hi
    have hL := tckL_len (s := s) (n := s.length) (k := i) (fun j hj => (hv j hj).2.1) (by omega)
    obtain ⟨q, off, ver, ha, hr⟩ := (SlR.pre g.pr hs).get1 hi
    rw [mvsC_elem hi] at hr
    have hts := tckL_succ (s := s) (k := i)
    generalize hm : mv s i = m at *
    obtain ⟨a, c⟩ := m
    obtain ⟨n, rfl⟩ : ∃ n : Nat, c = n := ⟨c.toNat, by simp only [] at v1; omega⟩
    simp only [Int.toNat_natCast] at hts v1 v2 v3 v4
    obtain ⟨Ga, hGa⟩ : ∃ Ga, Ga = G ++ [(⟨cs .i64 [a], 1, 0, false⟩ : Blk)] := ⟨_, rfl⟩
    have pa : Pre G Ga := by rw [hGa]; exact Pre.one
    have t1 : SlR Ga (slc G.length 0 0 1 1) 1 1 [.int .i64 a] := by
      rw [hGa]
      exact (own_new (H := G) (esz := 1) (n := 1) (vs := cs .i64 [a]) rfl).sl
    have c494 := call494 (pu := true) (n := n) t1 (by omega) (by omega)
    obtain ⟨Gb, hGb⟩ : ∃ Gb, Gb = Ga ++ [(⟨cs .i64 (List.replicate n a), 1, 0, false⟩ : Blk)] := ⟨_, rfl⟩
    rw [← hGb] at c494
    have pb : Pre Ga Gb := by rw [hGb]; exact Pre.one
    have t2 : SlR Gb (slc Ga.length 0 0 n n) 1 n (cs .i64 (List.replicate n a)) := by
      rw [hGb]
      exact (own_new (H := Ga) (esz := 1) (n := n) (vs := cs .i64 (List.replicate n a)) (by simp)).sl
    obtain ⟨x3', G3, c3, g3, _, _⟩ := (g.onto (pa.trans pb)).append (bytes := 8) t2 (by have : roomMax = 140737488355328 := rfl; omega) (wb := false)
    have hf2 : fill (rep 1 [.int .i64 0]) [(0, 1, .int .i64 a)] = some (cs .i64 [a]) := fill_one rfl rfl
    have w1 : IntKind.wrap .i64 a = a := wrap64 (by omega)
    have w2 : IntKind.wrap .i64 (n : Int) = n := wrap64 (by omega)
    have hap : cs .i64 (tckL s i) ++ cs .i64 (List.replicate n a) = cs .i64 (tckL s (i + 1)) := by rw [hts]; simp [cs]
    have hlen : (tckL s (i + 1)).length = (tckL s i).length + n := by rw [hts]; simp
    rw [hap, ← hlen] at g3
    have h2l : (mvC (a, (n : Int))).length = 2 := rfl
    simp [b321_1, h9, h7, h8, h3, hii, ha, hr, h2l, stM, ldM1, ldM2, w1, w2, hf2, ← hGa, c494, c3, wbOf, e9]
    exact g3
  · rintro e G _ h9 ⟨h7, h8, x3, h3, g⟩
    have hfin := g.gr.fin flat_cs
    simp [b321_1, h9, h7, h8, h3, hfin]
/-- Shots of a book of n pages. -/
def okShs (s : ML) (n : Nat) : Prop := s.length ≤ 80 ∧ ∀ i, i < s.length → 0 ≤ (mv s i).1 ∧ (mv s i).1 < n ∧ 1 ≤ (mv s i).2 ∧ (mv s i).2 ≤ 24
theorem call561 {H : Heap} {P n : Nat} {m : Int × Int} (hP : rd H P 0 0 1 = some [.int .i64 (n : Int)]) (hn : n ≤ 40) (h1 : 0 ≤ m.1) (h2 : m.1 < n) (h3 : 1 ≤ m.2) (h4 : m.2 ≤ 24) : Call tab true 561 [agg (mvC m), adr P 0 0] H = some (.bool false, H) := by
  refine Call_wp t561 (.inr rfl) rfl ?_
  have w1 : IntKind.wrap .i64 m.1 = m.1 := wrap64 (by omega)
  have w2 : IntKind.wrap .i64 m.2 = m.2 := wrap64 (by omega)
  have w3 : IntKind.wrap .i64 ((n : Int) - 1) = (n : Int) - 1 := wrap64 (by omega)
  have d1 : decide (0 ≤ m.1 ∧ m.1 ≤ (n : Int) - 1) = true := decide_eq_true (by omega)
  have d2 : decide (1 ≤ m.2 ∧ m.2 ≤ 24) = true := decide_eq_true (by omega)
  simp [c561, k561, ldM1, ldM2, w1, w2, w3, hP, call295, d1, d2, skip, -Bool.decide_and, -decide_eq_true_eq]
theorem call586 {H : Heap} {x : Value} {s : ML} {P n : Nat} (hs : SlR H x 2 s.length (mvsC s)) (hP : rd H P 0 0 1 = some [.int .i64 (n : Int)]) (hn : n ≤ 40) (hk : okShs s n) :
    Call tab true 586 [x, .func (.func 561) #[] #[adr P 0 0]] H = some (.int .i64 (-1), H) := by
  refine Call_wp t586 (.inr rfl) rfl ?_
  have := hk.1
  simp [c586, k586, hs.lenV]
  refine WP_forH 8 s.length s.length rfl (by omega) (fun i e => e 0 = x ∧ e 1 = .func (.func 561) #[] #[adr P 0 0] ∧ e 7 = .int .i64 s.length) ?_ ?_ (by simp) ⟨by simp, by simp, by simp⟩
  · rintro i e hi hii e9 h8 ⟨h0, h1, h7⟩
    obtain ⟨q, off, ver, ha, hr⟩ := hs.get1 hi
    rw [mvsC_elem hi] at hr
    obtain ⟨v1, v2, v3, v4⟩ := hk.2 i hi
    have c := call561 hP hn v1 v2 v3 v4
    simp [b586_1, h8, h0, h1, h7, hii, ha, hr, c, e9]
  · rintro e h8 ⟨h0, h1, h7⟩
    simp [b586_1, h8, h7]
theorem call560 {H : Heap} {x : Value} {s : ML} {P n : Nat} (hs : SlR H x 2 s.length (mvsC s)) (hP : rd H P 0 0 1 = some [.int .i64 (n : Int)]) (hn : n ≤ 40) (hk : okShs s n) :
    Call tab true 560 [x, .func (.func 561) #[] #[adr P 0 0]] H = some (.bool false, H) := by
  refine Call_wp t560 (.inr rfl) rfl ?_
  simp [c560, k560, call586 hs hP hn hk]
theorem call493 {pu : Bool} {H : Heap} {x : Value} {s : ML} {n : Nat} (hs : SlR H x 2 s.length (mvsC s)) (hn : n ≤ 40) (hk : okShs s n) : Call tab pu 493 [x, .int .i64 (n : Int)] H = some (.bool true, H) := by
  refine Call_wp t493 (.inr rfl) rfl ?_
  obtain ⟨G, hG⟩ : ∃ G, G = H ++ [(⟨[.int .i64 (n : Int)], 1, 0, false⟩ : Blk)] := ⟨_, rfl⟩
  have p : Pre H G := by rw [hG]; exact Pre.one
  have hP : rd G H.length 0 0 1 = some [.int .i64 (n : Int)] := by rw [hG]; exact rd_last rfl rfl
  have c := call560 (SlR.pre p hs) hP hn hk
  have hl : (s.length : Int) ≤ 80 := by have := hk.1; omega
  have ht : G.take H.length = H := p.take
  simp [c493, k493, ← hG, hs.lenV, hl, c, ht]
theorem call320 {pu : Bool} {H : Heap} {x y : Value} {b : List (List Int)} {s : ML} (h : Bk H x b) (hV : ∀ f ∈ b, VF f) (hn : b.length ≤ 40) (hs : SlR H y 2 s.length (mvsC s)) (hk : okShs s b.length) : Call tab pu 320 [x, y] H = some (.bool true, H) := by
  have hw : BkW b := fun f hf => (hV f hf).W
  refine Call_wp t320 (.inr rfl) rfl ?_
  have c1 := call316 (pu := true) h hw (by omega)
  rw [okB_V hV hn] at c1
  have c2 := call493 (pu := true) hs hn hk
  simp [c320, k320, c1, h.lenV, c2]
theorem call322 {pu : Bool} {H : Heap} {b ver n : Nat} (hb : b < H.length) (hn : n ≤ 40) : Call tab pu 322 [slc b 0 ver n n] H = some (tup [slc b 0 ver n n, .int .i64 0], H) := by
  refine Call_wp t322 (.inr rfl) rfl ?_
  have hl : ¬ (40 : Int) < n := by omega
  have ho : old1 H.length (slc b 0 ver n n) = true := by
    show (true && decide (b < H.length)) = true
    simp [hb]
  simp [c322, k322, hl, ho]
theorem tckL_in {s : ML} {n : Nat} (hk : okShs s n) {k : Nat} (h : k ≤ s.length) {a : Int} (ha : a ∈ tckL s k) : 0 ≤ a ∧ a < n := by
  induction k with
  | zero => rw [tckL_zero] at ha; cases ha
  | succ k ih =>
    rw [tckL_succ, List.mem_append] at ha
    rcases ha with ha | ha
    · exact ih (by omega) ha
    · rw [List.mem_replicate] at ha
      rw [ha.2]
      have := hk.2 k (by omega)
      exact ⟨this.1, this.2.1⟩
def plB (b : List (List Int)) (l : List Int) : List (List Int) := l.map fun a => fr b a.toNat
theorem plB_succ {b : List (List Int)} {l : List Int} {j : Nat} (h : j < l.length) : plB b (l.take (j + 1)) = plB b (l.take j) ++ [fr b (nth l j).toNat] := by
  have : l.take (j + 1) = l.take j ++ [nth l j] := by
    rw [List.take_add_one, List.getElem?_eq_getElem h]; simp [nth, h]
  rw [this]; simp [plB]
theorem nth_in {l : List Int} {j : Nat} (h : j < l.length) : nth l j ∈ l := by
  have : nth l j = l[j] := by simp [nth, h]
  rw [this]; exact List.getElem_mem h
theorem call89 {pu : Bool} {H : Heap} {x y : Value} {b : List (List Int)} {s : ML} (h : Bk H x b) (hV : ∀ f ∈ b, VF f) (hn : b.length ≤ 40) (hs : SlR H y 2 s.length (mvsC s)) (hk : okShs s b.length) (hm : (tckL s s.length).length ≤ 40) :
    Call tab pu 89 [x, y] H = some (tup [slc H.length 0 0 (tckL s s.length).length (tckL s s.length).length, .int .i64 0], H ++ [⟨bkC (plB b (tckL s s.length)), 12, 0, false⟩]) := by
  have hw : BkW b := fun f hf => (hV f hf).W
  refine Call_wp t89 (.inr rfl) rfl ?_
  have c1 := call320 (pu := true) h hV hn hs hk
  have hf0 : fill (rep 0 (cs .u16 (zr 12 0))) [] = some [] := rfl
  obtain ⟨G1, hG1⟩ : ∃ G1, G1 = H ++ [(⟨[], 12, 0, false⟩ : Blk)] := ⟨_, rfl⟩
  have p1 : Pre H G1 := by rw [hG1]; exact Pre.one
  have l1 : G1.length = H.length + 1 := by rw [hG1]; simp
  have hv : ∀ i, i < s.length → 1 ≤ (mv s i).2 ∧ (mv s i).2 ≤ 24 ∧ -128 ≤ (mv s i).1 ∧ (mv s i).1 ≤ 127 := fun i hi => by
    have := hk.2 i hi; omega
  have c2 := call321 (pu := true) (SlR.pre p1 hs) hv hk.1
  have hin : ∀ a ∈ tckL s s.length, 0 ≤ a ∧ a < b.length := fun a ha => tckL_in hk (Nat.le_refl _) ha
  generalize tckL s s.length = L at *
  obtain ⟨G2, hG2⟩ : ∃ G2, G2 = G1 ++ [(⟨cs .i64 L, 1, 0, false⟩ : Blk)] := ⟨_, rfl⟩
  rw [← hG2] at c2
  have p2 : Pre G1 G2 := by rw [hG2]; exact Pre.one
  have z1 : GrB H G2 H.length (slc H.length 0 0 0 0) 12 0 (bkC []) := GrB.mk' (by rw [p2.get (by omega), hG1]; exact get_last) (Nat.le_refl _) (p1.trans p2)
  have z2 : G2[H.length + 1]? = some ⟨cs .i64 L, 1, 0, false⟩ := by rw [hG2, ← l1]; exact get_last
  rw [l1] at c2
  simp [c89, k89, c1, hf0, zs_cs, ← hG1, c2]
  refine WP_count 17 L.length L.length rfl (fun j e G => e 0 = x ∧ e 15 = slc (H.length + 1) 0 0 L.length L.length ∧ e 16 = .int .i64 L.length ∧ ∃ x6, e 6 = x6 ∧ GrB H G H.length x6 12 j (bkC (plB b (L.take j))) ∧ G[H.length + 1]? = some ⟨cs .i64 L, 1, 0, false⟩) (by omega) ?_ ?_ (by simp)
    ⟨by simp, by simp, by simp, _, by simp; rfl, by simpa [plB] using z1, z2⟩
  · rintro j e G _ hj hjj e17 h17 ⟨h0, h15, h16, x6, h6, g, gt⟩
    obtain ⟨r1, r2⟩ := hin _ (nth_in hj)
    obtain ⟨i, hi⟩ : ∃ i : Nat, nth L j = i := ⟨(nth L j).toNat, by omega⟩
    have hps := plB_succ (b := b) hj
    have rt : rd G (H.length + 1) j 0 1 = some [.int .i64 (i : Int)] := by
      rw [rd_at gt rfl (by simp; omega)]
      simp only []
      rw [cs_one hj, hi]
    have hib : i < b.length := by omega
    obtain ⟨q, off, ver, ha, hr⟩ := Bk.get (h.pre g.pr) hw hib
    have hl := (hw.fr hib).len
    rw [hi, Int.toNat_natCast] at hps
    obtain ⟨x6', G3, c3, g3, kp⟩ := g.push (c := cs .u16 (fr b i)) (bytes := 24) (by simp [hl]) (room24 (by omega)) (wb := false)
    have gt3 := (kp (H.length + 1) (by omega) (List.getElem?_eq_some_iff.1 gt).1).trans gt
    rw [bkC_push, ← hps] at g3
    simp [b89_1, h17, h0, h15, h16, h6, hj, rt, ha, hr, zs_cs, agg_cs, hl, fillF hl, c3, wbOf, e17]
    exact ⟨g3, gt3⟩
  · rintro e G _ h17 ⟨h0, h15, h16, x6, h6, g, gt⟩
    rw [List.take_length] at g
    have hfin := g.gr.fin2 bkC_flat (c := 0)
    have hlt := g.ltG
    obtain ⟨ver, rfl, _⟩ := g
    have c4 := call322 (pu := true) (H := G) (ver := ver) hlt hm
    simp [b89_1, h17, h16, h6, c4, hfin]
theorem call90 {pu : Bool} {H : Heap} {x y : Value} {s : ML} (hs : SlR H x 2 s.length (mvsC s)) (ht : SlR H y 2 s.length (mvsC s)) (hn : s.length ≤ 1000000) : Call tab pu 90 [x, y] H = some (.bool true, H) := by
  refine Call_wp t90 (.inr rfl) rfl ?_
  simp [c90, k90, hs.lenV, ht.lenV]
  refine WP_forH 5 s.length s.length rfl (by omega) (fun i e => e 0 = x ∧ e 1 = y) ?_ ?_ (by simp) ⟨by simp, by simp⟩
  · rintro i e hi hii e9 h5 ⟨h0, h1⟩
    obtain ⟨q, off, ver, ha, hr⟩ := hs.get1 hi
    obtain ⟨q', off', ver', ha', hr'⟩ := ht.get1 hi
    rw [mvsC_elem hi] at hr hr'
    have eq : eqV (.a (rb 2 (some .i8))) (agg (mvC (mv s i))) (agg (mvC (mv s i))) = some true := by
      have := eqV_iv (k := .i8) (n := 2) (f := [(mv s i).1, (mv s i).2]) (g := [(mv s i).1, (mv s i).2]) rfl rfl
      rw [decide_eq_true rfl] at this
      exact this
    simp [b90_1, h5, h0, h1, hs.lenV, hii, ha, hr, ha', hr', eq, e9]
  · rintro e h5 ⟨h0, h1⟩
    simp [b90_1, h5, h0, hs.lenV]
theorem plB_ds {b : List (List Int)} : plB (dsL b b.length).1 (dsL b b.length).2 = b := by
  have I := dsL_I (b := b) (k := b.length)
  refine List.ext_getElem (by simp [plB, I.l2]) fun i h1 h2 => ?_
  have h3 : i < (dsL b b.length).2.length := by rw [I.l2]; exact h2
  obtain ⟨j, j1, j2, j3⟩ := I.at' i h2
  have e1 : (dsL b b.length).2[i] = (j : Int) := by rw [← j1]; simp [nth, h3]
  have e2 : (plB (dsL b b.length).1 (dsL b b.length).2)[i] = fr (dsL b b.length).1 ((dsL b b.length).2[i]).toNat := by simp [plB]
  rw [e2, e1, Int.toNat_natCast, j3]
  simp [fr, at0, h2]
/-- One more place. -/
def shS (P : List Int) (i : Nat) (s : ML) : Option ML :=
  if 0 < i ∧ nth P i = nth P (i - 1) then (if (mv s (s.length - 1)).2 = 24 then none else some (s.dropLast ++ [((mv s (s.length - 1)).1, (mv s (s.length - 1)).2 + 1)]))
  else some (s ++ [(nth P i, 1)])
def shL (P : List Int) : Nat → Option ML
  | 0 => some []
  | k + 1 => (shL P k).bind (shS P k)
theorem shL_none {P : List Int} {i n : Nat} (h : shL P i = none) (hn : i ≤ n) : shL P n = none := by
  induction hn with
  | refl => exact h
  | step _ ih => rw [shL, ih]; rfl
/-- What is true of them. -/
structure ShI (P : List Int) (k : Nat) (s : ML) : Prop where
  len : s.length ≤ k
  last : 0 < k → ∃ t h, s = t ++ [(nth P (k - 1), h)]
  hold : ∀ i, i < s.length → 1 ≤ (mv s i).2 ∧ (mv s i).2 ≤ 24
  val : ∀ i, i < s.length → ∃ j, j < k ∧ (mv s i).1 = nth P j
  tck : tckL s s.length = P.take k
theorem tckL_pre {s t : ML} {k : Nat} (h : k ≤ s.length) : tckL (s ++ t) k = tckL s k := by
  induction k with
  | zero => rw [tckL_zero, tckL_zero]
  | succ k ih =>
    rw [tckL_succ, tckL_succ, ih (by omega)]
    have : mv (s ++ t) k = mv s k := by
      unfold mv at0
      rw [List.getD_eq_getElem?_getD, List.getD_eq_getElem?_getD, List.getElem?_append_left (by omega)]
    rw [this]
theorem tckL_snoc {s : ML} {a : Int × Int} : tckL (s ++ [a]) (s.length + 1) = tckL s s.length ++ List.replicate a.2.toNat a.1 := by
  rw [tckL_succ, tckL_pre (Nat.le_refl _), mv_app, if_neg (by omega), if_pos rfl]
theorem shL_I {P : List Int} {k : Nat} {s : ML} (h : shL P k = some s) (hk : k ≤ P.length) : ShI P k s := by
  induction k generalizing s with
  | zero =>
    cases h
    exact ⟨Nat.le_refl _, fun h => by omega, fun i hi => by simp at hi, fun i hi => by simp at hi, by simp [tckL_zero]⟩
  | succ k ih =>
    rw [shL] at h
    obtain ⟨s0, h0, h⟩ := Option.bind_eq_some_iff.1 h
    obtain ⟨q1, q2, q3, q4, q5⟩ := ih h0 (by omega)
    have htk : P.take (k + 1) = P.take k ++ [nth P k] := by
      rw [List.take_add_one, List.getElem?_eq_getElem (by omega)]; simp [nth, show k < P.length by omega]
    unfold shS at h
    split at h
    · rename_i hc
      obtain ⟨t, d, rfl⟩ := q2 hc.1
      have hm : mv (t ++ [(nth P (k - 1), d)]) t.length = (nth P (k - 1), d) := by rw [mv_app, if_neg (by omega), if_pos rfl]
      have e1 : (t ++ [(nth P (k - 1), d)]).length - 1 = t.length := by simp
      rw [e1, hm] at h
      split at h
      · cases h
      · rename_i h24
        cases h
        simp only [List.dropLast_concat] at *
        have hd := q3 t.length (by simp)
        rw [hm] at hd
        simp only [] at hd h24
        refine ⟨by simp at q1 ⊢; omega, fun _ => ⟨t, d + 1, by rw [← hc.2]; rfl⟩, fun i hi => ?_, fun i hi => ?_, ?_⟩
        · have hi : i < t.length + 1 := by simpa using hi
          by_cases hit : i < t.length
          · have := q3 i (by simp; omega)
            rw [mv_app, if_pos hit] at this ⊢; exact this
          · rw [mv_app, if_neg hit, if_pos (by omega)]; simp only []; omega
        · have hi : i < t.length + 1 := by simpa using hi
          by_cases hit : i < t.length
          · obtain ⟨j, j1, j2⟩ := q4 i (by simp; omega)
            rw [mv_app, if_pos hit] at j2 ⊢; exact ⟨j, by omega, j2⟩
          · rw [mv_app, if_neg hit, if_pos (by omega)]; exact ⟨k, by omega, by rw [hc.2]⟩
        · rw [List.length_append, List.length_singleton, tckL_snoc] at q5 ⊢
          simp only [] at q5 ⊢
          rw [htk, ← q5, show (d + 1).toNat = d.toNat + 1 by omega, List.replicate_succ', hc.2, List.append_assoc]
    · rename_i hc
      cases h
      refine ⟨by simp; omega, fun _ => ⟨s0, 1, rfl⟩, fun i hi => ?_, fun i hi => ?_, ?_⟩
      · have hi : i < s0.length + 1 := by simpa using hi
        by_cases hit : i < s0.length
        · rw [mv_app, if_pos hit]; exact q3 i hit
        · rw [mv_app, if_neg hit, if_pos (by omega)]; simp
      · have hi : i < s0.length + 1 := by simpa using hi
        by_cases hit : i < s0.length
        · obtain ⟨j, j1, j2⟩ := q4 i hit
          rw [mv_app, if_pos hit]; exact ⟨j, by omega, j2⟩
        · rw [mv_app, if_neg hit, if_pos (by omega)]; exact ⟨k, by omega, rfl⟩
      · rw [List.length_append, List.length_singleton, tckL_snoc, q5, htk]; rfl
theorem sh_set {t : ML} {m : Int × Int} {h : Int} : splice (mvsC (t ++ [m])) (t.length * 2 + 1) [.int .i8 h] = mvsC (t ++ [(m.1, h)]) := by
  rw [mvsC_app, mvsC_app]
  have hl : (mvsC t).length = t.length * 2 := mvsC_length
  have e1 : mvsC [m] = [.int .i8 m.1, .int .i8 m.2] := rfl
  have e2 : mvsC [(m.1, h)] = [.int .i8 m.1, .int .i8 h] := rfl
  rw [e1, e2, ← hl]
  unfold splice
  rw [List.take_length_add_append, Nat.add_assoc, List.drop_length_add_append]
  simp
/-- The last shot's hold is changed. -/
theorem sh_put {H G : Heap} {b : Nat} {x : Value} {t : ML} {m : Int × Int} (g : GrB H G b x 2 (t.length + 1) (mvsC (t ++ [m]))) :
    ∃ ver, idxAV 2 x (.int .i64 (t.length : Int)) = some (adr b (t.length * 2) ver) ∧ rd G b (t.length * 2 + 1) ver 1 = some [.int .i8 m.2] ∧
      ∀ h wb, ∃ G', wr H.length wb G b (t.length * 2 + 1) ver [.int .i8 h] = some G' ∧ GrB H G' b x 2 (t.length + 1) (mvsC (t ++ [(m.1, h)])) ∧ rd G' b (t.length * 2 + 1) ver 1 = some [.int .i8 h] ∧ ∀ b', b' ≠ b → G'[b']? = G[b']? := by
  obtain ⟨ver, h1, h2, h3⟩ := g.place (show t.length < t.length + 1 by omega)
  have hel : ∀ m : Int × Int, elem (mvsC (t ++ [m])) 2 t.length = mvC m := fun m => by
    rw [mvsC_elem (by simp), mv_app, if_neg (by omega), if_pos rfl]
  refine ⟨ver, h1, ?_, fun h wb => ?_⟩
  · rw [h2 1 1 (by omega), hel]; rfl
  · obtain ⟨w1, w2⟩ := h3 1 [.int .i8 h] wb (by simp)
    rw [sh_set] at w1 w2
    refine ⟨_, w1, w2, ?_, fun b' hne => by rw [List.getElem?_set_ne fun h => hne h.symm]⟩
    obtain ⟨v', k1, k2, k3⟩ := w2.place (show t.length < t.length + 1 by omega)
    have : v' = ver := by
      rw [h1] at k1
      have := Option.some.inj k1
      simpa [adr] using this.symm
    subst this
    rw [k2 1 1 (by omega), hel]; rfl
def sh86 (H : Heap) : Option ML → Value × Heap
  | some s => (tup [slc H.length 0 0 s.length s.length, .int .i64 0], H ++ [⟨mvsC s, 2, 0, false⟩])
  | none => (tup [.slice none 0 0, .int .i64 3], H)
def sh87 (H : Heap) : Option ML → Value × Heap
  | some s => (tup [slc H.length 0 0 s.length s.length, .int .i64 0], H ++ [⟨mvsC s, 2, 0, false⟩])
  | none => (tup [slc H.length 0 0 0 0, .int .i64 3], H ++ [⟨[], 2, 0, false⟩])
theorem mvsC_one' {l : ML} {a b : Int} : mvsC l ++ [.int .i8 a, .int .i8 b] = mvsC (l ++ [(a, b)]) := by rw [← mvsC_one]; rfl
theorem call86 {pu : Bool} {H : Heap} {x : Value} {b : List (List Int)} (h : Bk H x b) (hV : ∀ f ∈ b, VF f) (hn : b.length ≤ 40) : Call tab pu 86 [x] H = some (sh86 H (shL (dsL b b.length).2 b.length)) := by
  have hw : BkW b := fun f hf => (hV f hf).W
  refine Call_wp t86 (.inr rfl) rfl ?_
  have c1 := call316 (pu := true) h hw (by omega)
  rw [okB_V hV hn] at c1
  have c2 := call317 (pu := true) h hV (by omega)
  have I := dsL_I (b := b) (k := b.length)
  have pp : Pre H (dsH H b) := ⟨_, rfl⟩
  have hl2 : (dsH H b).length = H.length + 2 := by simp [dsH]
  obtain ⟨G1, hG1⟩ : ∃ G1, G1 = dsH H b ++ [(⟨[], 2, 0, false⟩ : Blk)] := ⟨_, rfl⟩
  have p1 : Pre (dsH H b) G1 := by rw [hG1]; exact Pre.one
  have g2 : GrB H G1 (H.length + 1) (slc (H.length + 1) 0 0 b.length b.length) 1 b.length (cs .i64 (dsL b b.length).2) := ⟨0, rfl, by rw [p1.get (by omega)]; simp [dsH], by omega, by simp [I.l2], pp.trans p1⟩
  have g3 : GrB H G1 (H.length + 2) (slc (H.length + 2) 0 0 0 0) 2 0 (mvsC []) := GrB.mk' (by rw [hG1, ← hl2]; exact get_last) (by omega) (pp.trans p1)
  have hf1 : fill (rep 0 [.int .i8 0, .int .i8 0]) [] = some [] := rfl
  have hb : ∀ i, i < b.length → 0 ≤ nth (dsL b b.length).2 i ∧ nth (dsL b b.length).2 i < 40 := fun i hi => by
    obtain ⟨j, j1, j2, j3⟩ := I.at' i hi
    have := I.l1
    omega
  have hPl := I.l2
  generalize (dsL b b.length).2 = P at *
  simp [c86, k86, c1, c2, dsV, hf1, ← hG1, hl2]
  refine WP_count 20 b.length b.length rfl (fun i e G => e 5 = slc (H.length + 1) 0 0 b.length b.length ∧ e 18 = slc (H.length + 1) 0 0 b.length b.length ∧ e 19 = .int .i64 b.length ∧ GrB H G (H.length + 1) (slc (H.length + 1) 0 0 b.length b.length) 1 b.length (cs .i64 P) ∧ ∃ s, shL P i = some s ∧ ∃ x6, e 6 = x6 ∧ GrB H G (H.length + 2) x6 2 s.length (mvsC s)) (by omega) ?_ ?_ (by simp)
    ⟨by simp, by simp, by simp, g2, [], rfl, _, by simp, g3⟩
  · rintro i e G _ hi hii e20 h20 ⟨h5, h18, h19, g2, s, hs, x6, h6, g3⟩
    obtain ⟨o1, v1, a1, r1⟩ := g2.get_i hi
    have J := shL_I hs (by omega)
    have Jl := J.len
    obtain ⟨b1, b2⟩ := hb i hi
    have w8 : IntKind.wrap .i8 (nth P i) = nth P i := wrap8 (by omega)
    have hsucc : shL P (i + 1) = shS P i s := by rw [shL, hs]; rfl
    by_cases hc : 0 < i ∧ nth P i = nth P (i - 1)
    · obtain ⟨hi0, he⟩ := hc
      obtain ⟨k, rfl⟩ : ∃ k, i = k + 1 := ⟨i - 1, by omega⟩
      obtain ⟨t, d, rfl⟩ := J.last hi0
      simp only [Nat.add_sub_cancel] at he
      obtain ⟨o2, v2, a2, r2⟩ := g2.get_i (show k < b.length by omega)
      rw [List.length_append, List.length_singleton] at g3
      obtain ⟨ver, q1, q2, q3⟩ := sh_put g3
      have hm : mv (t ++ [(nth P k, d)]) t.length = (nth P k, d) := by rw [mv_app, if_neg (by omega), if_pos rfl]
      have hd := J.hold t.length (by simp)
      simp only [Nat.add_sub_cancel] at hd
      rw [hm] at hd
      simp only [] at hd
      obtain ⟨G', w1, w2, w3, w4⟩ := q3 (d + 1) false
      have wd : IntKind.wrap .i8 (d + 1) = d + 1 := wrap8 (by omega)
      have hz : ((k : Int) + 1 == 0) = false := by simp; omega
      have wk : IntKind.wrap .i64 (k : Int) = k := wrap64 (by omega)
      have wt : IntKind.wrap .i64 (t.length : Int) = t.length := wrap64 (by simp at Jl; omega)
      have hll : lenV x6 = some (.int .i64 ((t.length : Int) + 1)) := by obtain ⟨ver, rfl, _⟩ := g3; rfl
      have hne : (nth P k != nth P (k + 1)) = false := by rw [he]; simp
      have g2' := g2.kept (w4 _ (by omega)) w2.pr
      simp only [Nat.add_sub_cancel, Int.natCast_add, Int.natCast_one] at *
      unfold shS at hsucc
      rw [if_pos ⟨hi0, he⟩] at hsucc
      simp only [List.length_append, List.length_singleton, Nat.add_sub_cancel, hm, List.dropLast_concat] at hsucc
      by_cases h24 : d = 24
      · rw [if_pos h24] at hsucc
        have hnone := shL_none hsucc (show k + 1 + 1 ≤ b.length by omega)
        have hgt : (24 : Int) < d + 1 := by omega
        simp [b86_1, h20, h18, h19, h5, h6, hii, a1, r1, hz, wk, a2, r2, hne, hll, wt, q1, q2, wd, wbOf, w1, w3, hgt, hnone, sh86, finish_nil2, w2.pr.take]
      · rw [if_neg h24] at hsucc
        have hgt : ¬ (24 : Int) < d + 1 := by omega
        simp [b86_1, h20, h18, h19, h5, h6, hii, a1, r1, hz, wk, a2, r2, hne, hll, wt, q1, q2, wd, wbOf, w1, w3, hgt, e20]
        exact ⟨g2', _, hsucc, by simpa using w2⟩
    · have hsome : shL P (i + 1) = some (s ++ [(nth P i, 1)]) := by rw [hsucc, shS, if_neg hc]
      obtain ⟨x6', G3, c3, g4, kp⟩ := g3.push (c := [.int .i8 (nth P i), .int .i8 0]) (bytes := 2) rfl (room2 (by omega)) (wb := false)
      rw [mvsC_one'] at g4
      have g2' := g2.kept (kp _ (by omega) g2.ltG) g4.pr
      obtain ⟨ver, q1, q2, q3⟩ := sh_put g4
      obtain ⟨G', w1, w2, w3, w4⟩ := q3 1 false
      have g2'' := g2'.kept (w4 _ (by omega)) w2.pr
      have wt : IntKind.wrap .i64 (s.length : Int) = s.length := wrap64 (by omega)
      have w01 : IntKind.wrap .i8 1 = 1 := wrap8 (by omega)
      have hll : lenV x6' = some (.int .i64 ((s.length : Int) + 1)) := by obtain ⟨ver, rfl, _⟩ := g4; rfl
      have hf2 : fill (rep 1 [.int .i8 0, .int .i8 0]) [(0, 2, agg [.int .i8 (nth P i), .int .i8 0])] = some [.int .i8 (nth P i), .int .i8 0] := rfl
      have hf3 : fill [.int .i8 0, .int .i8 0] [(0, 1, .int .i8 (nth P i))] = some [.int .i8 (nth P i), .int .i8 0] := rfl
      simp only [] at q2 w2
      by_cases hi0 : i = 0
      · subst hi0
        have a1' : idxAV 1 (slc (H.length + 1) 0 0 b.length b.length) (.int .i64 0) = some (adr (H.length + 1) o1 v1) := a1
        simp [b86_1, h20, h18, h19, h5, h6, hi, a1', r1, skip, w8, hf3, hf2, c3, hll, wt, q1, q2, w01, wbOf, w1, w3, e20]
        exact ⟨g2'', _, hsome, by simpa using w2⟩
      · obtain ⟨k, rfl⟩ : ∃ k, i = k + 1 := ⟨i - 1, by omega⟩
        obtain ⟨o2, v2, a2, r2⟩ := g2.get_i (show k < b.length by omega)
        have hz : ((k : Int) + 1 == 0) = false := by simp; omega
        have wk : IntKind.wrap .i64 (k : Int) = k := wrap64 (by omega)
        have hne : (nth P k != nth P (k + 1)) = true := by
          simp only [bne_iff_ne, ne_eq]
          intro h
          exact hc ⟨by omega, by rw [Nat.add_sub_cancel, h]⟩
        simp only [Nat.add_sub_cancel, Int.natCast_add, Int.natCast_one] at *
        simp [b86_1, h20, h18, h19, h5, h6, hii, a1, r1, hz, wk, a2, r2, hne, w8, hf3, hf2, c3, hll, wt, q1, q2, w01, wbOf, w1, w3, e20]
        exact ⟨g2'', _, hsome, by simpa using w2⟩
  · rintro e G _ h20 ⟨h5, h18, h19, g2, s, hs, x6, h6, g3⟩
    have hfin := g3.gr.fin2 (mvsC_flat (l := s)) (c := 0)
    simp [b86_1, h20, h19, h6, hfin, hs, sh86]
theorem call87 {pu : Bool} {H : Heap} {x : Value} {b : List (List Int)} (h : Bk H x b) (hV : ∀ f ∈ b, VF f) (hn : b.length ≤ 40) : Call tab pu 87 [x] H = some (sh87 H (shL (dsL b b.length).2 b.length)) := by
  have hw : BkW b := fun f hf => (hV f hf).W
  refine Call_wp t87 (.inr rfl) rfl ?_
  have c1 := call318 (pu := true) h hw (by omega)
  rw [okB_V hV hn] at c1
  have c2 := call319 (pu := true) h hV (by omega)
  have I := dsL_I (b := b) (k := b.length)
  have pp : Pre H (dsH H b) := ⟨_, rfl⟩
  have hl2 : (dsH H b).length = H.length + 2 := by simp [dsH]
  obtain ⟨G1, hG1⟩ : ∃ G1, G1 = dsH H b ++ [(⟨[], 2, 0, false⟩ : Blk)] := ⟨_, rfl⟩
  have p1 : Pre (dsH H b) G1 := by rw [hG1]; exact Pre.one
  have g2 : GrB H G1 (H.length + 1) (slc (H.length + 1) 0 0 b.length b.length) 1 b.length (cs .i64 (dsL b b.length).2) := ⟨0, rfl, by rw [p1.get (by omega)]; simp [dsH], by omega, by simp [I.l2], pp.trans p1⟩
  have g3 : GrB H G1 (H.length + 2) (slc (H.length + 2) 0 0 0 0) 2 0 (mvsC []) := GrB.mk' (by rw [hG1, ← hl2]; exact get_last) (by omega) (pp.trans p1)
  have hf1 : fill (rep 0 [.int .i8 0, .int .i8 0]) [] = some [] := rfl
  have hb : ∀ i, i < b.length → 0 ≤ nth (dsL b b.length).2 i ∧ nth (dsL b b.length).2 i < 40 := fun i hi => by
    obtain ⟨j, j1, j2, j3⟩ := I.at' i hi
    have := I.l1
    omega
  have hPl := I.l2
  generalize (dsL b b.length).2 = P at *
  simp [c87, k87, c1, c2, dsV, hf1, ← hG1, hl2]
  refine WP_count 7 b.length b.length rfl (fun i e G => e 5 = slc (H.length + 1) 0 0 b.length b.length ∧ GrB H G (H.length + 1) (slc (H.length + 1) 0 0 b.length b.length) 1 b.length (cs .i64 P) ∧ ∃ s, shL P i = some s ∧ ∃ x6, e 6 = x6 ∧ GrB H G (H.length + 2) x6 2 s.length (mvsC s)) (by omega) ?_ ?_ (by simp)
    ⟨by simp, g2, [], rfl, _, by simp, g3⟩
  · rintro i e G _ hi hii e20 h20 ⟨h5, g2, s, hs, x6, h6, g3⟩
    obtain ⟨o1, v1, a1, r1⟩ := g2.get_i hi
    have J := shL_I hs (by omega)
    have Jl := J.len
    obtain ⟨b1, b2⟩ := hb i hi
    have w8 : IntKind.wrap .i8 (nth P i) = nth P i := wrap8 (by omega)
    have hsucc : shL P (i + 1) = shS P i s := by rw [shL, hs]; rfl
    by_cases hc : 0 < i ∧ nth P i = nth P (i - 1)
    · obtain ⟨hi0, he⟩ := hc
      obtain ⟨k, rfl⟩ : ∃ k, i = k + 1 := ⟨i - 1, by omega⟩
      obtain ⟨t, d, rfl⟩ := J.last hi0
      simp only [Nat.add_sub_cancel] at he
      obtain ⟨o2, v2, a2, r2⟩ := g2.get_i (show k < b.length by omega)
      rw [List.length_append, List.length_singleton] at g3
      obtain ⟨ver, q1, q2, q3⟩ := sh_put g3
      have hm : mv (t ++ [(nth P k, d)]) t.length = (nth P k, d) := by rw [mv_app, if_neg (by omega), if_pos rfl]
      have hd := J.hold t.length (by simp)
      simp only [Nat.add_sub_cancel] at hd
      rw [hm] at hd
      simp only [] at hd
      obtain ⟨G', w1, w2, w3, w4⟩ := q3 (d + 1) false
      have wd : IntKind.wrap .i8 (d + 1) = d + 1 := wrap8 (by omega)
      have hz : (0 : Int) < (k : Int) + 1 := by omega
      have wk : IntKind.wrap .i64 (k : Int) = k := wrap64 (by omega)
      have wt : IntKind.wrap .i64 (t.length : Int) = t.length := wrap64 (by simp at Jl; omega)
      have hll : lenV x6 = some (.int .i64 ((t.length : Int) + 1)) := by obtain ⟨ver, rfl, _⟩ := g3; rfl
      have hne : (nth P (k + 1) == nth P k) = true := by rw [he]; simp
      have g2' := g2.kept (w4 _ (by omega)) w2.pr
      simp only [Nat.add_sub_cancel, Int.natCast_add, Int.natCast_one] at *
      unfold shS at hsucc
      rw [if_pos ⟨hi0, he⟩] at hsucc
      simp only [List.length_append, List.length_singleton, Nat.add_sub_cancel, hm, List.dropLast_concat] at hsucc
      by_cases h24 : d = 24
      · rw [if_pos h24] at hsucc
        have hnone := shL_none hsucc (show k + 1 + 1 ≤ b.length by omega)
        have hgt : (d == 24) = true := by simpa using h24
        have hfin := (Gr.new (H := H) (G := G) (esz := 2) g3.pr).fin2 (by intro v hv; simp at hv) (c := 3)
        simp [b87_1, h20, h5, h6, hii, a1, r1, hz, wk, a2, r2, hne, hll, wt, q1, q2, hgt, hnone, sh87, hf1, hfin]
      · rw [if_neg h24] at hsucc
        have hgt : (d == 24) = false := by simpa using h24
        simp [b87_1, h20, h5, h6, hii, a1, r1, hz, wk, a2, r2, hne, hll, wt, q1, q2, wd, wbOf, w1, w3, hgt, e20]
        exact ⟨g2', _, hsucc, by simpa using w2⟩
    · have hsome : shL P (i + 1) = some (s ++ [(nth P i, 1)]) := by rw [hsucc, shS, if_neg hc]
      obtain ⟨x6', G3, c3, g4, kp⟩ := g3.push (c := [.int .i8 (nth P i), .int .i8 1]) (bytes := 2) rfl (room2 (by omega)) (wb := false)
      rw [mvsC_one'] at g4
      have g2' := g2.kept (kp _ (by omega) g2.ltG) g4.pr
      have hf2 : fill (rep 1 [.int .i8 0, .int .i8 0]) [(0, 2, agg [.int .i8 (nth P i), .int .i8 1])] = some [.int .i8 (nth P i), .int .i8 1] := rfl
      have hf3 : fill [.int .i8 0, .int .i8 0] [(0, 1, .int .i8 (nth P i)), (1, 1, .int .i8 1)] = some [.int .i8 (nth P i), .int .i8 1] := rfl
      by_cases hi0 : i = 0
      · subst hi0
        have a1' : idxAV 1 (slc (H.length + 1) 0 0 b.length b.length) (.int .i64 0) = some (adr (H.length + 1) o1 v1) := a1
        simp [b87_1, h20, h5, h6, hi, a1', r1, skip, w8, hf3, hf2, c3, wbOf, e20]
        exact ⟨g2', _, hsome, by simpa using g4⟩
      · obtain ⟨k, rfl⟩ : ∃ k, i = k + 1 := ⟨i - 1, by omega⟩
        obtain ⟨o2, v2, a2, r2⟩ := g2.get_i (show k < b.length by omega)
        have hz : (0 : Int) < (k : Int) + 1 := by omega
        have wk : IntKind.wrap .i64 (k : Int) = k := wrap64 (by omega)
        have hne : (nth P (k + 1) == nth P k) = false := by
          rw [beq_eq_false_iff_ne]
          intro h
          exact hc ⟨by omega, by rw [Nat.add_sub_cancel, h]⟩
        simp only [Nat.add_sub_cancel, Int.natCast_add, Int.natCast_one] at *
        simp [b87_1, h20, h5, h6, hii, a1, r1, hz, wk, a2, r2, hne, w8, hf3, hf2, c3, wbOf, e20]
        exact ⟨g2', _, hsome, by simpa using g4⟩
  · rintro e G _ h20 ⟨h5, g2, s, hs, x6, h6, g3⟩
    have hfin := g3.gr.fin2 (mvsC_flat (l := s)) (c := 0)
    simp [b87_1, h20, h5, h6, hfin, hs, sh87]
/-- A loop that counts to n, however great, in a heap that stays. -/
theorem WP_forM {T : Tab} {n0 : Nat} {wb : Bool} {e : Env} {H : Heap} {Q : Ex → Env → Heap → Prop} {fs : List Fr} {b : Cd} (v n : Nat) (hn : n ≤ 9223372036854775807) (I : Nat → Env → Prop)
    (round : ∀ i e', i < n → (i : Int) < n → IntKind.wrap .i64 ((i : Int) + 1) = (i : Int) + 1 → e' v = .int .i64 (i : Int) → I i e' →
      WK T n0 wb b [] e' H (rnd T n0 wb (fun e1 H1 => H1 = H ∧ e1 v = .int .i64 ((i : Int) + 1) ∧ I (i + 1) e1) fs Q))
    (last : ∀ e', e' v = .int .i64 n → I n e' → WK T n0 wb b [] e' H (rnd T n0 wb (fun _ _ => False) fs Q))
    (hv : e v = .int .i64 0) (h0 : I 0 e) : WK T n0 wb (.loop b) fs e H Q := by
  refine WK_loop (fun i e' H' => H' = H ∧ e' v = .int .i64 (i : Int) ∧ I i e') n ?_ (Nat.zero_le _) ⟨rfl, hv, h0⟩
  rintro i e' _ hf hi ⟨rfl, h1, h2⟩
  by_cases hlt : i < n
  · refine (round i e' hlt (by omega) (wrap64 (by omega)) h1 h2).mono fun x e1 H1 h => ?_
    cases x with
    | normal => exact ⟨hlt, h.1, by rw [h.2.1]; rfl, h.2.2⟩
    | exit j => exact h
    | ret => exact h
  · obtain rfl : i = n := by omega
    refine (last e' h1 h2).mono fun x e1 H1 h => ?_
    cases x with
    | normal => exact h.elim
    | exit j => exact h
    | ret => exact h
theorem any281 {pu : Bool} {H : Heap} {x : Value} {l : List Ly} (hs : Sc H x l) (hw : ScW l) : Call tab pu 281 [x] H = some (.bool (okSc l), H) := by
  by_cases hl : l.length ≤ 8
  · exact call281 hs hw (by omega)
  · refine Call_wp t281 (.inr rfl) rfl ?_
    have hl' : ¬ (l.length : Int) ≤ 8 := by omega
    simp [c281, k281, SlR.lenV hs, hl', skip, okSc, hl]
theorem any498 {pu : Bool} {H : Heap} {x : Value} {l : List Ly} (hs : Sc H x l) (hw : ScW l) (hn : l.length ≤ 9223372036854775807) : Call tab pu 498 [x] H = some (.bool (okSc l), H) := by
  refine Call_wp t498 (.inr rfl) rfl ?_
  simp [c498, k498]
  refine WP_forM 3 l.length hn (fun i e => e 0 = x ∧ ∀ j, j < i → okLy (at0 l j) = true) ?_ ?_ (by simp) ⟨by simp, fun j hj => by omega⟩
  · rintro i e hi hii e4 h3 ⟨h0, hj⟩
    obtain ⟨q, off, ver, ha, _, hr⟩ := Sc.get hs hw hi
    have c1 := call563 (pu := true) (hw _ (at0_mem hi)) hr
    cases hk : okLy (at0 l i) with
    | true =>
      rw [hk] at c1
      simp [b498_1, h3, h0, SlR.lenV hs, hii, ha, c1, e4]
      exact upto_succ hj hk
    | false =>
      rw [hk] at c1
      have : okSc l = false := by
        unfold okSc
        rw [allN_false hi hk]; rfl
      simp [b498_1, h3, h0, SlR.lenV hs, hii, ha, c1, this]
  · rintro e h3 ⟨h0, hj⟩
    have : okSc l = decide (l.length ≤ 8) := by
      unfold okSc
      rw [allN_true hj]; rfl
    have e1 : decide ((l.length : Int) ≤ 8) = decide (l.length ≤ 8) := by
      by_cases h : l.length ≤ 8
      · rw [decide_eq_true h, decide_eq_true (by omega)]
      · rw [decide_eq_false h, decide_eq_false (by omega)]
    simp [b498_1, h3, h0, SlR.lenV hs, this, e1, -decide_eq_true_eq, -decide_eq_false_iff_not]
theorem any329 {pu : Bool} {H : Heap} {z : Value} {l : List Ly} {x y : Int} (hs : Sc H z l) (hw : ScW l) : Call tab pu 329 [z, .int .i64 x, .int .i64 y] H = some (.int .i64 (cmC l x y), H) := by
  refine Call_wp t329 (.inr rfl) rfl ?_
  have c1 := any281 (pu := true) hs hw
  cases k1 : okSc l with
  | false => simp [c329, k329, c1, k1, cmC]
  | true =>
    cases k2 : in1 x (-100) 100 && in1 y (-100) 100 with
    | false => simp only [cmC, k1, k2]; simp [c329, k329, c1, k1, call416, k2]
    | true => simp only [cmC, k1, k2]; simp [c329, k329, c1, k1, call416, k2]
theorem any331 {pu : Bool} {H : Heap} {z : Value} {l : List Ly} {x y : Int} (hs : Sc H z l) (hw : ScW l) (hn : l.length ≤ 9223372036854775807) : Call tab pu 331 [z, .int .i64 x, .int .i64 y] H = some (.int .i64 (cmC l x y), H) := by
  refine Call_wp t331 (.inr rfl) rfl ?_
  have c1 := any498 (pu := true) hs hw hn
  cases k1 : okSc l with
  | false => simp [c331, k331, c1, k1, cmC]
  | true =>
    cases k2 : in1 x (-100) 100 with
    | false => simp [c331, k331, c1, k1, in304, k2, skip, cmC]
    | true =>
      cases k3 : in1 y (-100) 100 with
      | false => simp [c331, k331, c1, k1, in304, k2, k3, cmC]
      | true => simp [c331, k331, c1, k1, in304, k2, k3, cmC]
/-- What the functions of scenes return. -/
def shwF (l : List Ly) (x y : Int) : List Int := if cmC l x y = 0 then flI l x y l.length else zr 12 0
def flatF (l : List Ly) (x y : Int) : List Int := if cmC l x y = 0 then flI l x y l.length ++ cvr l x y l.length else zr 24 0
theorem fill0 {n : Nat} {k : IntKind} : fill (cs k (zr n 0)) [] = some (cs k (zr n 0)) := rfl
theorem call97 {pu : Bool} {l : List Ly} {x y : Int} (hw : ScW l) {H : Heap} {z : Value} (hs : Sc H z l) :
    Call tab pu 97 [z, .int .i64 x, .int .i64 y] H = some (tup [iv .u16 (shwF l x y), .int .i64 (cmC l x y)], H) := by
  have h1 := any329 (pu := true) (x := x) (y := y) hs hw
  refine Call_wp t97 (.inr rfl) rfl ?_
  have z12 := stc_zr (k := .u16) (n := 12) (l := zr 12 0) (by simp)
  by_cases hc : cmC l x y = 0
  · obtain ⟨hok, hx, hy⟩ := cmC_ok hc
    have c1 := call330 (pu := true) hs hw hok hx hy
    have hl := flI_len (l := l) (x := x) (y := y) (k := l.length)
    have hl2 := cvr_len (l := l) (x := x) (y := y) (k := l.length)
    have s1 := stc_zr (k := .u16) (n := 12) (l := flI l x y l.length) hl
    simp [c97, k97, h1, hc, c1, ev1_fld, fldV_a hl hl2, zs_cs, agg_cs, hl, s1, shwF]
  · have hb : (cmC l x y != 0) = true := by simpa using hc
    simp [c97, k97, h1, hb, zs_cs, agg_cs, fill0, z12, shwF, hc]
theorem call98 {pu : Bool} {l : List Ly} {x y : Int} (hw : ScW l) (hn : l.length ≤ 9223372036854775807) {H : Heap} {z : Value} (hs : Sc H z l) :
    Call tab pu 98 [z, .int .i64 x, .int .i64 y] H = some (tup [iv .u16 (shwF l x y), .int .i64 (cmC l x y)], H) := by
  have h1 := any331 (pu := true) (x := x) (y := y) hs hw hn
  refine Call_wp t98 (.inr rfl) rfl ?_
  have z12 := stc_zr (k := .u16) (n := 12) (l := zr 12 0) (by simp)
  by_cases hc : cmC l x y = 0
  · obtain ⟨hok, hx, hy⟩ := cmC_ok hc
    have c1 := call332 (pu := true) hs hw hok hx hy
    have hl := flI_len (l := l) (x := x) (y := y) (k := l.length)
    have hl2 := cvr_len (l := l) (x := x) (y := y) (k := l.length)
    have s1 := stc_zr (k := .u16) (n := 12) (l := flI l x y l.length) hl
    have l1 : (flI l x y l.length ++ cvr l x y l.length).length = 24 := by simp [hl, hl2]
    have s2 := stc_zr (k := .u16) (n := 24) (l := flI l x y l.length ++ cvr l x y l.length) l1
    simp [c98, k98, h1, hc, c1, zs_cs, agg_cs, hl, hl2, s1, s2, ldAB_a hl hl2, shwF]
  · have hb : (cmC l x y != 0) = true := by simpa using hc
    simp [c98, k98, h1, hb, zs_cs, agg_cs, fill0, z12, shwF, hc]
theorem call99 {pu : Bool} {l : List Ly} {x y : Int} (hw : ScW l) {H : Heap} {z : Value} (hs : Sc H z l) :
    Call tab pu 99 [z, .int .i64 x, .int .i64 y] H = some (tup [iv .u16 (flatF l x y), .int .i64 (cmC l x y)], H) := by
  have h1 := any329 (pu := true) (x := x) (y := y) hs hw
  refine Call_wp t99 (.inr rfl) rfl ?_
  have z24 := stc_zr (k := .u16) (n := 24) (l := zr 24 0) (by simp)
  by_cases hc : cmC l x y = 0
  · obtain ⟨hok, hx, hy⟩ := cmC_ok hc
    have c1 := call330 (pu := true) hs hw hok hx hy
    have l1 : (flI l x y l.length ++ cvr l x y l.length).length = 24 := by simp [flI_len, cvr_len]
    have s2 := stc_zr (k := .u16) (n := 24) (l := flI l x y l.length ++ cvr l x y l.length) l1
    simp [c99, k99, h1, hc, c1, zs_cs, agg_cs, flI_len, cvr_len, s2, flatF]
  · have hb : (cmC l x y != 0) = true := by simpa using hc
    simp [c99, k99, h1, hb, zs_cs, agg_cs, fill0, z24, flatF, hc]
theorem call100 {pu : Bool} {H : Heap} {s : Ly} (hw : LyW s) : Call tab pu 100 [iv .u16 s.f] H = some (tup [iv .u16 (if okCel s = true then inkL s else zr 12 0), .int .i64 (if okCel s = true then 0 else 1)], H) := by
  refine Call_wp t100 (.inr rfl) rfl ?_
  have c1 := call333 (pu := true) (H := H) hw
  have hl := hw.len
  have hi : (inkL s).length = 12 := hw.ink.len
  have z12 := stc_zr (k := .u16) (n := 12) (l := zr 12 0) (by simp)
  have s1 := stc_zr (k := .u16) (n := 12) (l := inkL s) hi
  have da := d24a hl
  have e : sub s.f 0 12 = inkL s := rfl
  rw [e] at da
  have l24 : ldc 24 true (iv .u16 s.f) 0 = some (iv .u16 s.f) := ldc_iv hl
  cases hk : okCel s with
  | false => simp [c100, k100, l24, c1, hk, zs_cs, agg_cs, fill0, z12]
  | true => simp [c100, k100, l24, c1, hk, zs_cs, agg_cs, da, hi, s1]
theorem call334 {pu : Bool} {H : Heap} {z : Value} {l : List Ly} {i : Int} (hs : Sc H z l) (hn : l.length ≤ 1000000) : Call tab pu 334 [z, .int .i64 i] H = some (.bool (in1 i 0 ((l.length : Int) - 1)), H) := by
  refine Call_wp t334 (.inr rfl) rfl ?_
  have w1 : IntKind.wrap .i64 ((l.length : Int) - 1) = (l.length : Int) - 1 := wrap64 (by omega)
  simp [c334, k334, SlR.lenV hs, w1, in295]
theorem call101 {pu : Bool} {l : List Ly} {x y : Int} (hw : ScW l) {H : Heap} {z : Value} (hs : Sc H z l) (hc : cmC l x y = 0) (h0 : 0 < l.length) :
    Call tab pu 101 [z, .int .i64 0, .int .i64 x, .int .i64 y] H = some (tup [.int .i64 (offX (at0 l 0) x), .int .i64 (offY (at0 l 0) y), .int .i64 0], H) := by
  have h1 := any329 (pu := true) (x := x) (y := y) hs hw
  refine Call_wp t101 (.inr rfl) rfl ?_
  obtain ⟨hok, hx, hy⟩ := cmC_ok hc
  have c1 := call334 (pu := true) (i := 0) hs (by have := okSc_len hok; omega)
  have hi : in1 0 0 ((l.length : Int) - 1) = true := by simp [in1]; omega
  rw [hi] at c1
  obtain ⟨q, off, ver, ha, hr, _⟩ := Sc.get hs hw h0
  have c2 := call335 (pu := true) (H := H) (hw _ (at0_mem h0)) (okSc_get hok h0) hx hy
  have ha' : idxAV 27 z (.int .i64 0) = some (adr q off ver) := ha
  simp [c101, k101, h1, hc, c1, ha', hr, c2]
/-- A cel that is moved: what both programs return. -/
def mvC24 (s : Ly) (dx dy : Int) : List Int := if (in1 dx (-12) 12 && in1 dy (-12) 12) = true then shF (inkL s) dx dy ++ shF (mskL s) dx dy else zr 24 0
def mvCc (dx dy : Int) : Int := if (in1 dx (-12) 12 && in1 dy (-12) 12) = true then 0 else 2
theorem call102 {pu : Bool} {H : Heap} {s : Ly} {x y : Int} (hw : LyW s) (h : okLy s = true) (hx : -100 ≤ x ∧ x ≤ 100) (hy : -100 ≤ y ∧ y ≤ 100) :
    Call tab pu 102 [iv .u16 s.f, .int .i64 (offX s x), .int .i64 (offY s y)] H = some (tup [iv .u16 (mvC24 s (offX s x) (offY s y)), .int .i64 (mvCc (offX s x) (offY s y))], H) := by
  refine Call_wp t102 (.inr rfl) rfl ?_
  have c1 := call333 (pu := true) (H := H) hw
  have hk : okCel s = true := by
    unfold okLy at h
    simp only [Bool.and_eq_true] at h
    exact h.1.1.1
  rw [hk] at c1
  have hl := hw.len
  have c2 := call336 (pu := true) (H := H) hw h hx hy
  have z24 := stc_zr (k := .u16) (n := 24) (l := zr 24 0) (by simp)
  have l1 : (lyI s x y ++ lyM s x y).length = 24 := by simp [lyI_W.len, lyM_W.len]
  have s2 := stc_zr (k := .u16) (n := 24) (l := lyI s x y ++ lyM s x y) l1
  have l24 : ldc 24 true (iv .u16 s.f) 0 = some (iv .u16 s.f) := ldc_iv hl
  have e1 : shF (inkL s) (offX s x) (offY s y) ++ shF (mskL s) (offX s x) (offY s y) = lyI s x y ++ lyM s x y := rfl
  cases k1 : in1 (offX s x) (-12) 12 with
  | false => simp [c102, k102, l24, c1, in295, k1, skip, zs_cs, agg_cs, fill0, z24, mvC24, mvCc]
  | true =>
    cases k2 : in1 (offY s y) (-12) 12 with
    | false => simp [c102, k102, l24, c1, in295, k1, k2, skip, zs_cs, agg_cs, fill0, z24, mvC24, mvCc]
    | true => simp [c102, k102, l24, c1, in295, k1, k2, zs_cs, agg_cs, c2, lyI_W.len, lyM_W.len, s2, mvC24, mvCc, e1]
theorem ly_V {s : Ly} (hw : LyW s) (h : okLy s = true) : VF (inkL s) ∧ VF (mskL s) :=
  ⟨⟨hw.ink, (okLy_d h).2.2.2.1⟩, ⟨hw.msk, (okLy_d h).2.2.2.2⟩⟩
theorem okLy_cel {s : Ly} (h : okLy s = true) : okCel s = true := by
  unfold okLy at h
  simp only [Bool.and_eq_true] at h
  exact h.1.1.1
theorem ink_msk {s : Ly} (hw : LyW s) (h : okLy s = true) {x y : Nat} (hx : x < 12) (hy : y < 12) (hd : hasF (inkL s) x y = true) : hasF (mskL s) x y = true := by
  obtain ⟨v1, v2⟩ := ly_V hw h
  have hc := okLy_cel h
  unfold okCel at hc
  simp only [Bool.and_eq_true, decide_eq_true_eq] at hc
  have := mix_less v1 v2 hx hy
  rw [hc.2, hasF_zero hx hy, hd] at this
  cases hm : hasF (mskL s) x y with
  | true => rfl
  | false => rw [hm] at this; cases this
theorem lyI_V {s : Ly} {x y : Int} : VF (lyI s x y) := shF_V
theorem lyM_V {s : Ly} {x y : Int} : VF (lyM s x y) := shF_V
theorem lyI_M {s : Ly} (hw : LyW s) (h : okLy s = true) {x y : Int} {u v : Nat} (hu : u < 12) (hv : v < 12) (hd : hasF (lyI s x y) u v = true) : hasF (lyM s x y) u v = true := by
  unfold lyI lyM shF at *
  rw [hasF_dots hu hv] at hd ⊢
  unfold mvP at *
  simp only [Bool.and_eq_true, decide_eq_true_eq] at hd ⊢
  exact ⟨hd.1, ink_msk hw h (by omega) (by omega) hd.2⟩
theorem cvr_V {l : List Ly} {x y : Int} {k : Nat} : VF (cvr l x y k) := by
  induction k with
  | zero => rw [cvr_zero]; exact .zero
  | succ k ih => rw [cvr_succ]; exact or_V ih lyM_V
theorem flI_V {l : List Ly} {x y : Int} {k : Nat} : VF (flI l x y k) := by
  induction k with
  | zero => rw [flI_zero]; exact .zero
  | succ k ih => rw [flI_succ]; exact or_V ih (less_V lyI_V cvr_V)
theorem flI_cvr {l : List Ly} {x y : Int} (hw : ScW l) (hok : okSc l = true) {k : Nat} (hk : k ≤ l.length) {u v : Nat} (hu : u < 12) (hv : v < 12) (hd : hasF (flI l x y k) u v = true) : hasF (cvr l x y k) u v = true := by
  induction k with
  | zero => rw [flI_zero, hasF_zero hu hv] at hd; cases hd
  | succ k ih =>
    rw [flI_succ, mix_or flI_V (less_V lyI_V cvr_V) hu hv, mix_less lyI_V cvr_V hu hv] at hd
    rw [cvr_succ, mix_or cvr_V lyM_V hu hv]
    simp only [Bool.or_eq_true, Bool.and_eq_true] at hd ⊢
    rcases hd with hd | hd
    · exact .inl (ih (by omega) hd)
    · exact .inr (lyI_M (hw _ (at0_mem (by omega))) (okSc_get hok (by omega)) hu hv hd.1)
/-- A scene laid flat, as a cel. -/
def flatY (l : List Ly) (x y : Int) : Ly := ⟨flI l x y l.length ++ cvr l x y l.length, 0, 0, 0⟩
theorem flatY_ink {l : List Ly} {x y : Int} : inkL (flatY l x y) = flI l x y l.length := (join_sub flI_len cvr_len).1
theorem flatY_msk {l : List Ly} {x y : Int} : mskL (flatY l x y) = cvr l x y l.length := (join_sub flI_len cvr_len).2
theorem flatY_W {l : List Ly} {x y : Int} : LyW (flatY l x y) := by
  refine ⟨by simp [flatY, flI_len, cvr_len], fun n hn => ?_, ⟨by simp [flatY], by simp [flatY]⟩, ⟨by simp [flatY], by simp [flatY]⟩, ⟨by simp [flatY], by simp [flatY]⟩⟩
  rcases List.mem_append.1 hn with h | h
  · exact flI_V.W.ok n h
  · exact cvr_V.W.ok n h
theorem flatY_ok {l : List Ly} {x y : Int} (hw : ScW l) (hok : okSc l = true) : okCel (flatY l x y) = true := by
  unfold okCel
  rw [flatY_ink, flatY_msk, flI_V.ok, cvr_V.ok, less_none flI_V cvr_V fun u v hu hv h => flI_cvr hw hok (Nat.le_refl _) hu hv h]
  simp
/-- The topmost layer is shown as it is. -/
theorem top_dot {l : List Ly} {x y : Int} (hw : ScW l) (hok : okSc l = true) {k : Nat} (h1 : k + 1 ≤ l.length) {u v : Nat} (hu : u < 12) (hv : v < 12) :
    (hasF (lyM (at0 l 0) x y) u v = true → hasF (cvr l x y (k + 1)) u v = true ∧ hasF (flI l x y (k + 1)) u v = hasF (lyI (at0 l 0) x y) u v) ∧ (hasF (lyI (at0 l 0) x y) u v = true → hasF (flI l x y (k + 1)) u v = true) := by
  have hI := lyI_M (hw _ (at0_mem (show 0 < l.length by omega))) (okSc_get hok (show 0 < l.length by omega)) (x := x) (y := y) hu hv
  induction k with
  | zero =>
    have e1 : flI l x y (0 + 1) = lyI (at0 l 0) x y := by
      rw [flI_succ, flI_zero, cvr_zero]
      refine (or_V .zero (less_V lyI_V .zero)).ext lyI_V fun a b ha hb => ?_
      rw [mix_or .zero (less_V lyI_V .zero) ha hb, mix_less lyI_V .zero ha hb, hasF_zero ha hb]; simp
    have e2 : cvr l x y (0 + 1) = lyM (at0 l 0) x y := by
      rw [cvr_succ, cvr_zero]
      refine (or_V .zero lyM_V).ext lyM_V fun a b ha hb => ?_
      rw [mix_or .zero lyM_V ha hb, hasF_zero ha hb]; simp
    rw [e1, e2]
    exact ⟨fun h => ⟨h, rfl⟩, id⟩
  | succ k ih =>
    obtain ⟨i1, i2⟩ := ih (by omega)
    have f1 : hasF (flI l x y (k + 1 + 1)) u v = (hasF (flI l x y (k + 1)) u v || (hasF (lyI (at0 l (k + 1)) x y) u v && !hasF (cvr l x y (k + 1)) u v)) := by
      rw [flI_succ, mix_or flI_V (less_V lyI_V cvr_V) hu hv, mix_less lyI_V cvr_V hu hv]
    have f2 : hasF (cvr l x y (k + 1 + 1)) u v = (hasF (cvr l x y (k + 1)) u v || hasF (lyM (at0 l (k + 1)) x y) u v) := by
      rw [cvr_succ, mix_or cvr_V lyM_V hu hv]
    refine ⟨fun h => ?_, fun h => ?_⟩
    · obtain ⟨j1, j2⟩ := i1 h
      rw [f1, f2, j1, j2]; simp
    · rw [f1, i2 h]; rfl
theorem nth_mix {op : Int → Int → Int} {a b : List Int} {i : Nat} (hi : i < 12) : op (nth a i) (nth b i) = nth (mixF op a b) i := by rw [mixF, nth_tabN hi]
theorem top_rows {l : List Ly} {x y : Int} (hw : ScW l) (hok : okSc l = true) (h0 : 0 < l.length) {i : Nat} (hi : i < 12) :
    lessI (nth (lyI (at0 l 0) x y) i) (nth (flI l x y l.length) i) = 0 ∧ andI (nth (flI l x y l.length) i) (nth (lyM (at0 l 0) x y) i) = nth (lyI (at0 l 0) x y) i := by
  obtain ⟨k, hk⟩ : ∃ k, l.length = k + 1 := ⟨l.length - 1, by omega⟩
  rw [hk]
  constructor
  · rw [nth_mix (op := lessI) hi, less_none lyI_V flI_V fun u v hu hv h => (top_dot hw hok (by omega) hu hv).2 h, nth_zr]
  · rw [nth_mix (op := andI) hi]
    congr 1
    refine (and_V flI_V lyM_V).ext lyI_V fun u v hu hv => ?_
    rw [mix_and flI_V lyM_V hu hv]
    cases hm : hasF (lyM (at0 l 0) x y) u v with
    | true => rw [((top_dot hw hok (by omega) hu hv).1 hm).2, Bool.and_true]
    | false =>
      rw [Bool.and_false]
      cases hi' : hasF (lyI (at0 l 0) x y) u v with
      | false => rfl
      | true =>
        have := lyI_M (hw _ (at0_mem h0)) (okSc_get hok h0) hu hv hi'
        rw [hm] at this; cases this
def putI (f : List Int) (a b : Int) : List Int := if okP a b = true then putF f a.toNat b.toNat else f
theorem okP_iff {a b : Int} : okP a b = true ↔ (0 ≤ a ∧ a < 12) ∧ 0 ≤ b ∧ b < 12 := by
  unfold okP; simp; omega
theorem putI_V {f : List Int} {a b : Int} (h : VF f) : VF (putI f a b) := by
  unfold putI
  split
  · rename_i ho
    have := okP_iff.1 ho
    exact h.put (by omega) (by omega)
  · exact h
theorem putI_has {f : List Int} {a b : Int} (h : VF f) {u v : Nat} (hu : u < 12) (hv : v < 12) : hasF (putI f a b) u v = (hasF f u v || (decide ((u : Int) = a) && decide ((v : Int) = b))) := by
  unfold putI
  split
  · rename_i ho
    have := okP_iff.1 ho
    rw [hasF_put h (by omega) (by omega) hu hv]
    congr 1
    congr 1
    · exact decide_eq_decide.2 (by omega)
    · exact decide_eq_decide.2 (by omega)
  · rename_i ho
    have : (decide ((u : Int) = a) && decide ((v : Int) = b)) = false := by
      simp only [Bool.and_eq_false_iff, decide_eq_false_iff_not]
      by_cases h1 : (u : Int) = a
      · refine .inr fun h2 => ho (okP_iff.2 (by omega))
      · exact .inl h1
    rw [this, Bool.or_false]
theorem put305 {H : Heap} {b ver esz : Nat} {l : List Int} (hg : H[b]? = some ⟨cs .u16 l, esz, ver, false⟩) {x y : Int} (hl : l.length = 12) :
    Call tab false 305 [adr b 0 ver, .int .i64 x, .int .i64 y] H = some (tup [], H.set b ⟨cs .u16 (putI l x y), esz, ver, false⟩) := by
  cases ho : okP x y with
  | true =>
    have := okP_iff.1 ho
    obtain ⟨a, rfl⟩ := Int.eq_ofNat_of_zero_le this.1.1
    obtain ⟨c, rfl⟩ := Int.eq_ofNat_of_zero_le this.2.1
    have := call305 hg hl (x := a) (y := c) (by omega) (by omega)
    rw [this, putI, if_pos ho]
    simp
  | false =>
    rw [putI, if_neg (by rw [ho]; decide), set_self hg]
    refine Call_wp t305 (.inl rfl) rfl ?_
    simp [c305, k305, placeS, ho]
/-- Are two places side by side? -/
def nbr (u v p : Nat) : Bool := decide ((u : Int) = ((p % 12 : Nat) : Int) - 1) && decide ((v : Int) = ((p / 12 : Nat) : Int)) || (decide ((u : Int) = ((p % 12 : Nat) : Int) + 1) && decide ((v : Int) = ((p / 12 : Nat) : Int)) || (decide ((u : Int) = ((p % 12 : Nat) : Int)) && decide ((v : Int) = ((p / 12 : Nat) : Int) - 1) || decide ((u : Int) = ((p % 12 : Nat) : Int)) && decide ((v : Int) = ((p / 12 : Nat) : Int) + 1)))
def gr1 (p : Nat) (g : List Int) : List Int :=
  putI (putI (putI (putI g (((p % 12 : Nat) : Int) - 1) ((p / 12 : Nat) : Int)) (((p % 12 : Nat) : Int) + 1) ((p / 12 : Nat) : Int)) ((p % 12 : Nat) : Int) (((p / 12 : Nat) : Int) - 1)) ((p % 12 : Nat) : Int) (((p / 12 : Nat) : Int) + 1)
theorem gr1_V {p : Nat} {g : List Int} (h : VF g) : VF (gr1 p g) := putI_V (putI_V (putI_V (putI_V h)))
theorem gr1_has {p : Nat} {g : List Int} (h : VF g) {u v : Nat} (hu : u < 12) (hv : v < 12) : hasF (gr1 p g) u v = (hasF g u v || nbr u v p) := by
  unfold gr1 nbr
  rw [putI_has (putI_V (putI_V (putI_V h))) hu hv, putI_has (putI_V (putI_V h)) hu hv, putI_has (putI_V h) hu hv, putI_has h hu hv]
  simp only [Bool.or_assoc]
def grL (f : List Int) (j : Nat) : List Int := itN (fun j g => gr1 (at0 (dotL f 144) j) g) f j
theorem grL_zero {f : List Int} : grL f 0 = f := itN_zero
theorem grL_succ {f : List Int} {j : Nat} : grL f (j + 1) = gr1 (at0 (dotL f 144) j) (grL f j) := itN_succ
theorem grL_V {f : List Int} (h : VF f) {j : Nat} : VF (grL f j) := by
  induction j with
  | zero => rw [grL_zero]; exact h
  | succ j ih => rw [grL_succ]; exact gr1_V ih
theorem grL_has {f : List Int} (h : VF f) {j : Nat} (hj : j ≤ (dotL f 144).length) {u v : Nat} (hu : u < 12) (hv : v < 12) : hasF (grL f j) u v = (hasF f u v || ((dotL f 144).take j).any (nbr u v)) := by
  induction j with
  | zero => rw [grL_zero]; simp
  | succ j ih =>
    have ht : (dotL f 144).take (j + 1) = (dotL f 144).take j ++ [at0 (dotL f 144) j] := by
      rw [List.take_add_one, at0_get (by omega)]; rfl
    rw [grL_succ, gr1_has (grL_V h) hu hv, ih (by omega), ht, List.any_append, Bool.or_assoc]
    simp
/-- A frame and all places beside its dots. -/
def nearP (f : List Int) (u v : Nat) : Bool := hasF f u v || (hasI f ((u : Int) - 1) v || (hasI f ((u : Int) + 1) v || (hasI f u ((v : Int) - 1) || hasI f u ((v : Int) + 1))))
def growF (f : List Int) : List Int := dotsF (nearP f)
theorem growF_V {f : List Int} : VF (growF f) := ⟨dotsF_W, dotsF_ok⟩
theorem hasI_dot {f : List Int} {a b : Int} (h : hasI f a b = true) : ∃ p, p ∈ dotL f 144 ∧ ((p % 12 : Nat) : Int) = a ∧ ((p / 12 : Nat) : Int) = b := by
  unfold hasI at h
  simp only [Bool.and_eq_true] at h
  have ho := okP_iff.1 h.1
  refine ⟨b.toNat * 12 + a.toNat, List.mem_filter.2 ⟨by simp; omega, by rw [hasK_yx (by omega)]; exact h.2⟩, by omega, by omega⟩
theorem dot_hasI {f : List Int} {p : Nat} (h : p ∈ dotL f 144) : hasI f ((p % 12 : Nat) : Int) ((p / 12 : Nat) : Int) = true := by
  obtain ⟨h1, h2⟩ := List.mem_filter.1 h
  have h1 : p < 144 := by simpa using h1
  rw [hasI_nat (by omega) (by omega)]; exact h2
theorem grL_all {f : List Int} (h : VF f) : grL f (dotL f 144).length = growF f := by
  refine (grL_V h).ext growF_V fun u v hu hv => ?_
  rw [grL_has h (Nat.le_refl _) hu hv, List.take_length, growF, hasF_dots hu hv, nearP]
  congr 1
  rw [Bool.eq_iff_iff]
  simp only [List.any_eq_true, Bool.or_eq_true, nbr, Bool.and_eq_true, decide_eq_true_eq]
  constructor
  · rintro ⟨p, hp, h1⟩
    have := dot_hasI hp
    rcases h1 with ⟨h1, h2⟩ | ⟨h1, h2⟩ | ⟨h1, h2⟩ | ⟨h1, h2⟩
    · exact .inr (.inl (by rw [h1, h2, show ((p % 12 : Nat) : Int) - 1 + 1 = ((p % 12 : Nat) : Int) by omega]; exact this))
    · exact .inl (by rw [h1, h2, show ((p % 12 : Nat) : Int) + 1 - 1 = ((p % 12 : Nat) : Int) by omega]; exact this)
    · exact .inr (.inr (.inr (by rw [h1, h2, show ((p / 12 : Nat) : Int) - 1 + 1 = ((p / 12 : Nat) : Int) by omega]; exact this)))
    · exact .inr (.inr (.inl (by rw [h1, h2, show ((p / 12 : Nat) : Int) + 1 - 1 = ((p / 12 : Nat) : Int) by omega]; exact this)))
  · rintro (h1 | h1 | h1 | h1)
    · obtain ⟨p, p1, p2, p3⟩ := hasI_dot h1
      exact ⟨p, p1, .inr (.inl ⟨by omega, by omega⟩)⟩
    · obtain ⟨p, p1, p2, p3⟩ := hasI_dot h1
      exact ⟨p, p1, .inl ⟨by omega, by omega⟩⟩
    · obtain ⟨p, p1, p2, p3⟩ := hasI_dot h1
      exact ⟨p, p1, .inr (.inr (.inr ⟨by omega, by omega⟩))⟩
    · obtain ⟨p, p1, p2, p3⟩ := hasI_dot h1
      exact ⟨p, p1, .inr (.inr (.inl ⟨by omega, by omega⟩))⟩
end Fb
