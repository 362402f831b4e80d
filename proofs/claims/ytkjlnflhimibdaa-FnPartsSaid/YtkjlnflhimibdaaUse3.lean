/- What each function computes. -/
import Derived.Test.YtkjlnflhimibdaaUse2
set_option linter.unusedVariables false
set_option linter.unusedSimpArgs false
namespace Fb
open Go
theorem call460 {G : Heap} {P k : Nat} (h : Src G P k) (hk : k ≤ 10000000) :
    ∃ ks G1, Call tab false 460 [adr P 0 0] G = some (slc G.length 0 0 ks.length ks.length, G1 ++ [⟨kysC ks, 3, 0, false⟩]) ∧ DT ks ∧ Mv P G G1 ∧ Src G1 P (k + 200) := by
  have key : ∃ r, Call tab false 460 [adr P 0 0] G = some r ∧ ∃ ks G1, r = (slc G.length 0 0 ks.length ks.length, G1 ++ [⟨kysC ks, 3, 0, false⟩]) ∧ DT ks ∧ Mv P G G1 ∧ Src G1 P (k + 200) := by
    refine Call_ex t460 (.inl rfl) rfl ?_
    obtain ⟨G1, hG1⟩ : ∃ G1, G1 = G ++ [(⟨[], 3, 0, false⟩ : Blk)] := ⟨_, rfl⟩
    have L1 : LoG G G1 P k (slc G.length 0 0 0 0) 3 0 (kysC []) := by rw [hG1]; exact LoG.new h
    obtain ⟨t, G2, c2, ht, L2⟩ := L1.pick (n := 4) (by omega) (by omega)
    obtain ⟨N0, G3, c3, hN, L3⟩ := L2.pick (n := 5) (by omega) (by omega)
    obtain ⟨N, hN0⟩ : ∃ N : Nat, 1 + N0 = N := ⟨(1 + N0).toNat, by omega⟩
    have e1 : IntKind.wrap .i64 (1 + N0) = N := by rw [wrap64 (by omega)]; exact hN0
    have hf0 : fill (rep 0 [.int .i16 0, .int .i8 0, .int .i8 0]) [] = some [] := rfl
    simp [c460, k460, hf0, ← hG1, c2, c3, wbOf, e1]
    refine WK_loop (fun i e G' => e 0 = adr P 0 0 ∧ e 5 = .int .i64 ((N - i : Nat) : Int) ∧ ∃ ks, ks.length = i ∧ LoG G G' P (k + 4 + i * 10) (e 3) 3 i (kysC ks) ∧ ∃ t : Int, e 4 = .int .i64 t ∧ KG ks t ∧ 0 ≤ t ∧ t ≤ 3 + 6 * i) N ?_ (Nat.zero_le _)
      ⟨by simp, by simp, [], rfl, by simp; exact L3, t, by simp, ⟨fun i hi => by simp at hi, fun i hi => by simp at hi⟩, by omega, by omega⟩
    rintro i e G' _ hi ⟨h0, h5, ks, hks, Lo, t, h4, K, ht0, ht1⟩
    obtain ⟨x, h3⟩ : ∃ x, e 3 = x := ⟨_, rfl⟩
    rw [h3] at Lo
    by_cases hiN : i = N
    · subst hiN
      rw [Nat.sub_self] at h5
      have hD : DT ks := K.DT (by omega) (by omega) (by omega)
      have hlen : lenV x = some (.int .i64 i) := by obtain ⟨ver, rfl, _⟩ := Lo.ls; rfl
      by_cases h2 : 2 < i
      · obtain ⟨b, G4, c4, m4, s4⟩ := call513 (n := 3) Lo.src (by omega) (by omega)
        have L4 := Lo.mv m4 s4
        have h2' : (2 : Int) < i := by omega
        cases b with
        | false =>
          obtain ⟨d1, d2, d3⟩ := L4.done kysC_flat
          simp [b460_1, h0, h5, h3, hlen, h2, h2', c4, wbOf, d1]
          exact ⟨ks, _, ⟨by rw [hks], rfl, rfl⟩, hD, d2, d3.le (by omega)⟩
        | true =>
          simp [b460_1, h0, h5, h3, hlen, h2, h2', c4, wbOf]
          obtain ⟨ver, hx, _⟩ := L4.ls
          refine WP_from 7 1 i i rfl (fun j e G' => e 3 = x ∧ ∃ vs, LoG G G' P (k + 4 + i * 10 + 2) x 3 i vs ∧ ∀ m, m < i → ∃ y, elem vs 3 m = kyC y ∧ y.1 = (ky ks m).1 ∧ (-24 ≤ y.2.1 ∧ y.2.1 ≤ 24) ∧ (-24 ≤ y.2.2 ∧ y.2.2 ≤ 24) ∧ (m = 0 → y = ky ks 0)) (by omega) (by omega) ?_ ?_ (by simp)
            ⟨by simp [h3], kysC ks, L4, fun m hm => ⟨ky ks m, by rw [kysC_elem (by omega)]; rfl, rfl, by have := K.r m (by omega); omega, by have := K.r m (by omega); omega, fun hm => by rw [hm]⟩⟩
          · rintro j e G' hj1 hj2 hjj e8 h7 ⟨h3, vs, L, hv⟩
            obtain ⟨k0, f0, f1, f2, f3, f4⟩ := hv 0 (by omega)
            obtain rfl := f4 rfl
            obtain ⟨yj, g0, g1, g2, g3, _⟩ := hv j hj2
            have q0 := L.rd hx (o := 0) (m := 3) (by omega)
            have qj := L.rd hx (o := j * 3) (m := 3) (by omega)
            rw [show (vs.drop 0).take 3 = elem vs 3 0 from rfl, f0] at q0
            rw [show (vs.drop (j * 3)).take 3 = elem vs 3 j from rfl, g0] at qj
            have r00 := rd_part q0 (o := 0) (m := 1) (by omega)
            have r01 := rd_part q0 (o := 1) (m := 1) (by omega)
            have rj0 := rd_part qj (o := 0) (m := 1) (by omega)
            simp only [Nat.add_zero, Nat.zero_add] at r00 r01 rj0
            simp only [kyC, List.drop_zero, List.drop_succ_cons, List.take_succ_cons, List.take_zero] at r00 r01 rj0
            have K0 := K.r 0 (by omega)
            have Kj := K.r j (by omega)
            have hlt : ∀ m, m < i → 0 < m → (ky ks 0).1 < (ky ks m).1 := by
              intro m
              induction m with
              | zero => intro _ h; omega
              | succ m ih =>
                intro hm _
                have := K.s m (by omega)
                by_cases hm0 : m = 0
                · subst hm0; exact this
                · have := ih (by omega) (by omega); omega
            have hlj := hlt j hj2 (by omega)
            rw [g1] at rj0
            obtain ⟨v, hvv⟩ : ∃ v, v = (ky ks 0).2.1 + ((ky ks j).1 - (ky ks 0).1) / 2 := ⟨_, rfl⟩
            have hvr : -24 ≤ v ∧ v ≤ 24 := by omega
            have u1 : IntKind.wrap .i16 ((ky ks j).1 - (ky ks 0).1) = (ky ks j).1 - (ky ks 0).1 := wrap16 (by omega)
            have u2 : IntKind.wrap .i8 ((ky ks j).1 - (ky ks 0).1) = (ky ks j).1 - (ky ks 0).1 := wrap8 (by omega)
            have u3 : ((ky ks j).1 - (ky ks 0).1).tdiv 2 = ((ky ks j).1 - (ky ks 0).1) / 2 := Int.tdiv_eq_ediv_of_nonneg (by omega)
            have u4 : IntKind.wrap .i8 (((ky ks j).1 - (ky ks 0).1) / 2) = ((ky ks j).1 - (ky ks 0).1) / 2 := wrap8 (by omega)
            have u5 : IntKind.wrap .i8 ((ky ks 0).2.1 + ((ky ks j).1 - (ky ks 0).1) / 2) = v := by rw [wrap8 (by omega), hvv]
            obtain ⟨G5, w1, L5⟩ := L.cell (i := j * 3 + 1) (v := .int .i8 v) (by omega) old0_int hx
            have q1 := L5.rd hx (o := 0) (m := 3) (by omega)
            have e1 : elem (vs.set (j * 3 + 1) (.int .i8 v)) 3 0 = kyC (ky ks 0) := by rw [elem_set (by omega), if_neg (by omega), f0]
            rw [show ((vs.set (j * 3 + 1) (.int .i8 v)).drop 0).take 3 = elem (vs.set (j * 3 + 1) (.int .i8 v)) 3 0 from rfl, e1] at q1
            have r02 := rd_part q1 (o := 2) (m := 1) (by omega)
            simp only [Nat.zero_add] at r02
            simp only [kyC, List.drop_zero, List.drop_succ_cons, List.take_succ_cons, List.take_zero] at r02
            obtain ⟨G6, w2, L6⟩ := L5.cell (i := j * 3 + 2) (v := .int .i8 (ky ks 0).2.2) (by omega) old0_int hx
            have hidx : ∀ m, m < i → idxAV 3 x (.int .i64 (m : Int)) = some (adr G.length (m * 3) ver) := fun m hm => by rw [hx, idxAV_slc, at_nat hm]; simp
            have hx0 := hidx 0 (by omega)
            have hxj := hidx j hj2
            rw [Nat.zero_mul] at hx0
            have hx0' : idxAV 3 x (.int .i64 0) = some (adr G.length 0 ver) := hx0
            simp [b460_2, h7, h3, hlen, hjj, hj2, hx0', hxj, r00, r01, rj0, u1, u2, u3, u4, u5, w1, r02, w2, wbOf, e8]
            refine ⟨_, L6, fun m hm => ?_⟩
            rw [elem_set (by omega)]
            by_cases hmj : m = j
            · subst hmj
              rw [if_pos rfl, elem_set (by omega), if_pos rfl, g0]
              exact ⟨(ky ks m).1, v, (ky ks 0).2.2, by simp [kyC, g1], rfl, hvr, by omega, fun hm0 => by omega⟩
            · rw [if_neg hmj, elem_set (by omega), if_neg hmj]
              obtain ⟨⟨a, b, c⟩, hh⟩ := hv m hm
              exact ⟨a, b, c, hh⟩
          · rintro e G' h7 ⟨h3, vs, L, hv⟩
            obtain ⟨ks', g1, g2, g3⟩ := keys_list (p := fun m y => y.1 = (ky ks m).1 ∧ (-24 ≤ y.2.1 ∧ y.2.1 ≤ 24) ∧ (-24 ≤ y.2.2 ∧ y.2.2 ≤ 24)) L.size fun m hm => by
              obtain ⟨y, e1, e2, e3, e4, _⟩ := hv m hm
              exact ⟨y, e1, e2, e3, e4⟩
            subst g2
            obtain ⟨d1, d2, d3⟩ := L.done kysC_flat
            simp [b460_2, h7, h3, hlen, d1]
            refine ⟨ks', _, ⟨by rw [g1], rfl, rfl⟩, ⟨by omega, by omega, okTk_of (by omega) (by omega) (fun m hm => ?_) fun m hm => ?_⟩, d2, d3.le (by omega)⟩
            · have := g3 m (by omega)
              have := K.r m (by omega)
              omega
            · have a1 := (g3 m (by omega)).1
              have a2 := (g3 (m + 1) (by omega)).1
              have := K.s m (by omega)
              omega
      · obtain ⟨d1, d2, d3⟩ := Lo.done kysC_flat
        have h2' : ¬ (2 : Int) < i := by omega
        simp [b460_1, h0, h5, h3, hlen, h2, h2', skip, d1]
        exact ⟨ks, _, ⟨by rw [hks], rfl, rfl⟩, hD, d2, d3.le (by omega)⟩
    · have hpos : 0 < N - i := by omega
      have hiN' : i < N := by omega
      have e7 : IntKind.wrap .i64 (((N - i : Nat) : Int) - 1) = ((N - (i + 1) : Nat) : Int) := by rw [wrap64 (by omega)]; omega
      obtain ⟨a, G4, c4, ha, L4⟩ := Lo.pick (n := 13) (by omega) (by omega)
      obtain ⟨b, G5, c5, hb, L5⟩ := L4.pick (n := 13) (by omega) (by omega)
      have w1 : IntKind.wrap .i64 (a - 6) = a - 6 := wrap64 (by omega)
      have w2 : IntKind.wrap .i8 (a - 6) = a - 6 := wrap8 (by omega)
      have w3 : IntKind.wrap .i64 (b - 6) = b - 6 := wrap64 (by omega)
      have w4 : IntKind.wrap .i8 (b - 6) = b - 6 := wrap8 (by omega)
      have w5 : IntKind.wrap .i16 t = t := wrap16 (by omega)
      have hfa : fill [.int .i16 0, .int .i8 0, .int .i8 0] [(0, 1, .int .i16 t), (1, 1, .int .i8 (a - 6)), (2, 1, .int .i8 (b - 6))] = some (kyC (t, a - 6, b - 6)) := rfl
      have hf1 := fill_one (z := [.int .i16 0, .int .i8 0, .int .i8 0]) (v := agg (kyC (t, a - 6, b - 6))) (esz := 3) rfl rfl
      obtain ⟨x', G6, c6, L6⟩ := L5.push (c := kyC (t, a - 6, b - 6)) (bytes := 4) rfl (room4' (by omega))
      rw [kysC_push] at L6
      obtain ⟨d, G7, c7, hd, L7⟩ := L6.pick (n := 6) (by omega) (by omega)
      have w6 : IntKind.wrap .i64 (1 + d) = 1 + d := wrap64 (by omega)
      have w7 : IntKind.wrap .i64 (t + (1 + d)) = t + (1 + d) := wrap64 (by omega)
      have K' : KG (ks ++ [(t, a - 6, b - 6)]) (t + (1 + d)) := K.push ht0 (by omega) (by omega) (by omega)
      simp [b460_1, h0, h5, h3, h4, hpos, c4, c5, wbOf, w1, w2, w3, w4, w5, hfa, hf1, c6, c7, w6, w7, e7]
      exact ⟨hiN', _, by simp [hks], L7.le (by omega), K', by omega, by omega⟩
  obtain ⟨r, hc, ks, G1, rfl, h⟩ := key
  exact ⟨ks, G1, hc, h⟩
/-- A drawn part. -/
structure DP (s : Pt) : Prop where
  f : VF s.f
  e : 0 ≤ s.e ∧ s.e ≤ 3
  ks : DT s.ks
theorem DT.W {ks : List Ky} (h : DT ks) : KyW ks := fun k hk => by
  have V := okTk_V h.ok
  obtain ⟨i, hi, rfl⟩ := List.getElem_of_mem hk
  have := V.r i hi
  have e : ky ks i = ks[i] := Option.some.inj ((at0_get hi).symm.trans (List.getElem?_eq_getElem hi))
  rw [e] at this
  exact ⟨by omega, ⟨by omega, by omega⟩, ⟨by omega, by omega⟩⟩
theorem DP.ok {s : Pt} (h : DP s) : okPt s = true := by
  have := h.e
  simp [okPt, h.f.ok, h.ks.ok, in1, this]
theorem DP.W {s : Pt} (h : DP s) : PtW s := ⟨h.f.W.ok, ⟨by have := h.e; omega, by have := h.e; omega⟩, h.ks.W⟩
theorem call258 {pu : Bool} {H : Heap} {x : Value} {bs : List Int} (hx : By H x bs) (hn : bs.length ≤ 1000000) :
    ∃ s y G, Call tab pu 258 [x] H = some (agg (ptC s y), G) ∧ Pre H G ∧ Kr G y s ∧ DP s := by
  obtain ⟨c1, s1⟩ := call315 (pu := true) hx.s hx.b hn
  obtain ⟨f, G2, c2, V, m2, s2⟩ := call368 s1 (by omega)
  obtain ⟨e, G3, c3, he, m3, s3⟩ := call459 (n := 4) s2 (by omega) (by omega)
  obtain ⟨ks, G4, c4, D, m4, s4⟩ := call460 s3 (by omega)
  obtain ⟨H1, hH1⟩ : ∃ H1, H1 = H ++ [srB x 0 0] := ⟨_, rfl⟩
  rw [← hH1] at c1 c2 s1 m2
  have p1 : Pre H H1 := by rw [hH1]; exact Pre.one
  have lH1 : H1.length = H.length + 1 := by rw [hH1]; simp
  obtain ⟨G5, hG5⟩ : ∃ G5, G5 = G4 ++ [(⟨kysC ks, 3, 0, false⟩ : Blk)] := ⟨_, rfl⟩
  rw [← hG5] at c4
  have t1 : H1.take H.length = H := p1.take
  have t2 : G2.take H.length = H := by rw [m2.take (Nat.le_refl _), t1]
  have t3 : G3.take H.length = H := by rw [m3.take (Nat.le_refl _), t2]
  have l3 : G3.length = H.length + 1 := by rw [m3.len, m2.len, lH1]
  have l4 : G4.length = H.length + 1 := by rw [m4.len, l3]
  have t5 : G5.take H.length = H := by rw [hG5, List.take_append_of_le_length (by omega), m4.take (Nat.le_refl _), t3]
  have x2 : elder H.length false H1 (iv .u16 f, G2) = some (iv .u16 f, G2) := elder_same (by rw [t2, t1])
  have x3 : elder H.length false G2 (.int .i64 e, G3) = some (.int .i64 e, G3) := elder_same (by rw [t3, t2])
  have x4 : elder H.length false G3 (slc G3.length 0 0 ks.length ks.length, G5) = some (slc G3.length 0 0 ks.length ks.length, G5) := elder_same (by rw [t5, t3])
  have hP : Pre H G5 := ⟨G5.drop H.length, by conv => lhs; rw [← List.take_append_drop H.length G5, t5]⟩
  have hl := V.W.len
  have hz : (zr 12 0).length = 12 := rfl
  have w1 : IntKind.wrap .i8 e = e := wrap8 (by omega)
  have hf : fill ptZ [(0, 12, iv .u16 f)] = some (ptT f (.int .i8 0) (.slice none 0 0)) := by
    show (if (cellsOf (iv .u16 f)).length = 12 ∧ 0 + 12 ≤ ptZ.length then fill (splice ptZ 0 (cellsOf (iv .u16 f))) [] else none) = _
    rw [if_pos ⟨by simp [hl], by rw [ptZ_len]; omega⟩]
    have : splice ptZ 0 (cellsOf (iv .u16 f)) = ptT f (.int .i8 0) (.slice none 0 0) := by
      show splice ptZ 0 (cs .u16 f) = _
      unfold splice ptZ ptT
      rw [List.take_zero, List.nil_append, Nat.zero_add, show (cs .u16 f).length = (cs .u16 (zr 12 0)).length by simp [hl], List.drop_left]
    rw [this]; rfl
  have st0 := stPall (a := .int .i8 0) (b := .slice none 0 0) (a' := .int .i8 0) (b' := .slice none 0 0) hz hl
  have st1 := stP12 (a := .int .i8 0) (b := .slice none 0 0) (v := .int .i8 e) hl
  have st2 := stP13 (a := .int .i8 e) (b := .slice none 0 0) (v := slc G3.length 0 0 ks.length ks.length) hl
  have st3 := stPall (a := .int .i8 0) (b := .slice none 0 0) (a' := .int .i8 e) (b' := slc G3.length 0 0 ks.length ks.length) hz hl
  have hk := keepP (n0 := H.length) (H := G5) (s := ⟨f, e, ks, hl⟩) (y := slc G3.length 0 0 ks.length ks.length) (by rw [old0_slc]; simp; omega)
  refine ⟨⟨f, e, ks, hl⟩, slc G3.length 0 0 ks.length ks.length, G5, Call_wp t258 (.inr rfl) rfl ?_, hP, ?_, ⟨V, (by show 0 ≤ e ∧ e ≤ 3; omega), D⟩⟩
  · simp only [ptC] at hk ⊢
    simp [c258, k258, z14, c1, c2, x2, wbOf, hf]
    simp [ptZ, ptT_len hl, st0, c3, x3, w1, st1, c4, x4, st2, ldPall hl, st3, hk, ptT_len hz]
  · refine ⟨kysC_length, .inr ⟨G3.length, 0, 0, ks.length, rfl, Nat.le_refl _, ?_, ⟨kysC ks, 3, 0, false⟩, ?_, rfl, rfl⟩⟩
    · rw [hG5, ← m4.len]; exact rd_last rfl (by simp [kysC_length])
    · rw [hG5, ← m4.len]; exact get_last
theorem call259 {pu : Bool} {H : Heap} {x : Value} {bs : List Int} {n : Int} (hx : By H x bs) (hn : bs.length ≤ 1000000) (h1 : 1 ≤ n ∧ n ≤ 1000000) : ∃ v, Call tab pu 259 [x, .int .i64 n] H = some (.int .i64 v, H) ∧ 0 ≤ v ∧ v < n := by
  obtain ⟨c1, s1⟩ := call315 (pu := true) hx.s hx.b hn
  obtain ⟨v, G2, c2, hv, m2, s2⟩ := call459 (n := n) s1 (by omega) h1
  obtain ⟨H1, hH1⟩ : ∃ H1, H1 = H ++ [srB x 0 0] := ⟨_, rfl⟩
  rw [← hH1] at c1 c2 s1 m2
  have p1 : Pre H H1 := by rw [hH1]; exact Pre.one
  have t2 : G2.take H.length = H := by rw [m2.take (Nat.le_refl _), p1.take]
  have x2 : elder H.length false H1 (.int .i64 v, G2) = some (.int .i64 v, G2) := elder_same (by rw [t2, p1.take])
  refine ⟨v, Call_wp t259 (.inr rfl) rfl ?_, hv⟩
  simp [c259, k259, c1, c2, x2, wbOf, t2]
theorem call356 {pu : Bool} {G : Heap} {x y : Value} {l : List Int} (hx : SlR G x 1 l.length (cs .i64 l)) (hy : SlR G y 1 l.length (cs .i64 l)) (hn : l.length ≤ 1000000) : Call tab pu 356 [x, y] G = some (.bool true, G) := by
  refine Call_wp t356 (.inr rfl) rfl ?_
  simp [c356, k356, hx.lenV, hy.lenV]
  refine WP_forH 5 l.length _ rfl (by omega) (fun i e => e 0 = x ∧ e 1 = y) ?_ ?_ (by simp) (by simp)
  · rintro i e hi hii e4 h5 ⟨h0, h1⟩
    obtain ⟨q, off, ver, ha, hr⟩ := hx.get1 hi
    obtain ⟨q', off', ver', ha', hr'⟩ := hy.get1 hi
    rw [elem_i hi] at hr hr'
    simp [b356_1, h5, h0, h1, hii, hx.lenV, ha, hr, ha', hr', e4]
  · rintro e h5 ⟨h0, h1⟩
    simp [b356_1, h5, h0, hx.lenV]
theorem call262 {pu : Bool} {G : Heap} {x y : Value} {l : List Int} (hx : SlR G x 1 l.length (cs .i64 l)) (hy : SlR G y 1 l.length (cs .i64 l)) (hn : l.length ≤ 1000000) : Call tab pu 262 [x, y] G = some (.bool true, G) := by
  refine Call_wp t262 (.inr rfl) rfl ?_
  simp [c262, k262, call356 hx hy hn]
theorem call265 {pu : Bool} {G : Heap} {g : Value} {v : List Int} {a : Int} (h : SlR G g 1 v.length (cs .i64 v)) (hn : v.length ≤ 10000000) : Call tab pu 265 [g, .int .i64 a] G = some (.bool (memI v a), G) := by
  refine Call_wp t265 (.inr rfl) rfl ?_
  simp [c265, k265, call401 h hn]
theorem call323 {pu : Bool} {G : Heap} {x y : Value} {b : List (List Int)} (hx : Bk G x b) (hy : Bk G y b) (hw : ∀ f ∈ b, f.length = 12) (hn : b.length ≤ 1000000) (hbw : BkW b) : Call tab pu 323 [x, y] G = some (.bool true, G) := by
  refine Call_wp t323 (.inr rfl) rfl ?_
  simp [c323, k323, hx.lenV, hy.lenV]
  refine WP_forH 5 b.length _ rfl (by omega) (fun i e => e 0 = x ∧ e 1 = y) ?_ ?_ (by simp) (by simp)
  · rintro i e hi hii e4 h5 ⟨h0, h1⟩
    obtain ⟨q, off, ver, ha, hr⟩ := Bk.get hx hbw hi
    obtain ⟨q', off', ver', ha', hr'⟩ := Bk.get hy hbw hi
    have hl := (hbw.fr hi).len
    have q1 := eqV_iv (k := .u16) hl hl
    simp [b323_1, h5, h0, h1, hii, hx.lenV, ha, hr, ha', hr', agg_cs, q1, e4]
  · rintro e h5 ⟨h0, h1⟩
    simp [b323_1, h5, h0, hx.lenV]
theorem call91 {pu : Bool} {G : Heap} {x y : Value} {b : List (List Int)} (hx : Bk G x b) (hy : Bk G y b) (hn : b.length ≤ 1000000) (hbw : BkW b) : Call tab pu 91 [x, y] G = some (.bool true, G) := by
  refine Call_wp t91 (.inr rfl) rfl ?_
  simp [c91, k91, call323 hx hy (fun f hf => (hbw f hf).len) hn hbw]
theorem call171 {pu : Bool} {H : Heap} {f : List Int} (hf : VF f) : Call tab pu 171 [iv .u16 f] H = some (tup [.int .i64 (cntF f), .int .i64 0], H) := by
  refine Call_wp t171 (.inr rfl) rfl ?_
  simp [c171, k171, hf.W.len, call234 hf.W.len, hf.ok, call393 hf.W hf.ok]
theorem call264 {pu : Bool} {H : Heap} {f : List Int} (hf : VF f) : Call tab pu 264 [iv .u16 f] H = some (tup [.int .i64 (cntF f), .int .i64 0], H) := by
  refine Call_wp t264 (.inr rfl) rfl ?_
  obtain ⟨H1, hH1⟩ : ∃ H1, H1 = H ++ [(⟨cs .u16 f, 1, 0, false⟩ : Blk)] := ⟨_, rfl⟩
  have p1 : Pre H H1 := by rw [hH1]; exact Pre.one
  have r1 : rd H1 H.length 0 0 12 = some (cs .u16 f) := by rw [hH1]; exact rd_last rfl (by simp [hf.W.len])
  simp [c264, k264, hf.W.len, ← hH1, call359 hf.W.len r1, hf.ok, call409 hf.W r1, p1.take]
theorem call253 {pu : Bool} {H : Heap} {a b : List Int} (ha : VF a) (hb : VF b) : Call tab pu 253 [iv .u16 a, iv .u16 b] H = some (tup [iv .u16 (mixF orI a b), .int .i64 0], H) := by
  refine Call_wp t253 (.inr rfl) rfl ?_
  obtain ⟨H1, hH1⟩ : ∃ H1, H1 = H ++ [(⟨cs .u16 a, 1, 0, false⟩ : Blk)] := ⟨_, rfl⟩
  obtain ⟨H2, hH2⟩ : ∃ H2, H2 = H1 ++ [(⟨cs .u16 b, 1, 0, false⟩ : Blk)] := ⟨_, rfl⟩
  have p1 : Pre H H1 := by rw [hH1]; exact Pre.one
  have p2 : Pre H1 H2 := by rw [hH2]; exact Pre.one
  have r1 : rd H2 H.length 0 0 12 = some (cs .u16 a) := p2.rd (by rw [hH1]; exact rd_last rfl (by simp [ha.W.len]))
  have r2 : rd H2 H1.length 0 0 12 = some (cs .u16 b) := by rw [hH2]; exact rd_last rfl (by simp [hb.W.len])
  have s3 := stc_zr (k := .u16) (n := 12) (l := mixF orI a b) mixF_length
  simp [c253, k253, ha.W.len, hb.W.len, ← hH1, ← hH2, call327 ha hb r1 r2, call337 ha.W.len hb.W.len r1 r2, zs_cs, agg_cs, mixF_length, s3, (p1.trans p2).take]
theorem call251 {pu : Bool} {H : Heap} {a b : List Int} (ha : VF a) (hb : VF b) : Call tab pu 251 [iv .u16 a, iv .u16 b] H = some (tup [iv .u16 (mixF andI a b), .int .i64 0], H) := by
  refine Call_wp t251 (.inr rfl) rfl ?_
  obtain ⟨H1, hH1⟩ : ∃ H1, H1 = H ++ [(⟨cs .u16 a, 1, 0, false⟩ : Blk)] := ⟨_, rfl⟩
  obtain ⟨H2, hH2⟩ : ∃ H2, H2 = H1 ++ [(⟨cs .u16 b, 1, 0, false⟩ : Blk)] := ⟨_, rfl⟩
  have p1 : Pre H H1 := by rw [hH1]; exact Pre.one
  have p2 : Pre H1 H2 := by rw [hH2]; exact Pre.one
  have l1 : H1.length = H.length + 1 := by rw [hH1]; simp
  have g1 : H2[H.length]? = some ⟨cs .u16 a, 1, 0, false⟩ := by rw [p2.get (by omega), hH1]; exact get_last
  have g2 : H2[H1.length]? = some ⟨cs .u16 b, 1, 0, false⟩ := by rw [hH2]; exact get_last
  have r1 : rd H2 H.length 0 0 12 = some (cs .u16 a) := p2.rd (by rw [hH1]; exact rd_last rfl (by simp [ha.W.len]))
  have r2 : rd H2 H1.length 0 0 12 = some (cs .u16 b) := by rw [hH2]; exact rd_last rfl (by simp [hb.W.len])
  have s3 := stc_zr (k := .u16) (n := 12) (l := mixF andI a b) mixF_length
  simp [c251, k251, ha.W.len, hb.W.len, ← hH1, ← hH2, call327 ha hb r1 r2, zs_cs]
  refine WP_count 7 12 12 rfl (fun i e G => e 2 = adr H.length 0 0 ∧ e 3 = adr H1.length 0 0 ∧ e 4 = iv .u16 (zr 12 0) ∧ G = H2.set H.length ⟨cs .u16 (mixU andI a b i), 1, 0, false⟩) (by omega) ?_ ?_ (by simp) ⟨by simp, by simp, by simp [agg_cs], by rw [mixU_zero ha.W.len]; exact (set_self g1).symm⟩
  · rintro i e _ _ hi hii e5 h7 ⟨h2, h3, h4, rfl⟩
    have hl := mixU_length (op := andI) (a := a) (b := b) (i := i)
    have ra := rd_at (ver := 0) (off := 0) (n := 12) (get_set (k' := ⟨cs .u16 (mixU andI a b i), 1, 0, false⟩) g1) rfl (by simp [hl])
    simp [take_all, hl] at ra
    have ra1 := rd_one ra hi
    rw [Nat.zero_add, mixU_nth hi] at ra1
    have rb1 : rd (H2.set H.length ⟨cs .u16 (mixU andI a b i), 1, 0, false⟩) H1.length i 0 1 = some [.int .u16 (nth b i)] := by
      have := rd_one r2 hi
      rw [Nat.zero_add] at this
      unfold rd at this ⊢
      rw [List.getElem?_set_ne (by omega)]
      exact this
    have hw := wr_at (n0 := H.length) (wb := false) (off := i) (vs := [.int .u16 (andI (nth a i) (nth b i))]) (ver := 0) (get_set (k' := ⟨cs .u16 (mixU andI a b i), 1, 0, false⟩) g1) rfl rfl (by simp [may]) (by simp [hl]; omega)
    have hsp : splice (cs .u16 (mixU andI a b i)) i [.int .u16 (andI (nth a i) (nth b i))] = cs .u16 (mixU andI a b (i + 1)) := by
      rw [splice_one (by simp [hl]; omega), ← mixU_set hi]; simp [cs, List.map_set]
    simp only [hsp, set_set] at hw
    simp [b251_1, h7, h2, h3, h4, hii, hi, ra1, rb1, andI_eq, hw, wbOf, e5]
  · rintro e _ _ h7 ⟨h2, h3, h4, rfl⟩
    have hl := mixF_length (op := andI) (a := a) (b := b)
    have ra := rd_at (ver := 0) (off := 0) (n := 12) (get_set (k' := ⟨cs .u16 (mixU andI a b 12), 1, 0, false⟩) g1) rfl (by simp [mixU_all, hl])
    simp [mixU_all, take_all, hl] at ra
    have ht : (H2.set H.length ⟨cs .u16 (mixF andI a b), 1, 0, false⟩).take H.length = H := by rw [Mv.set.take (Nat.le_refl _), (p1.trans p2).take]
    simp [b251_1, h7, h2, h4, mixU_all, ra, hl, s3, agg_cs, ht]
theorem hasF_put {g : List Int} (h : VF g) {x y u v : Nat} (hx : x < 12) (hy : y < 12) (hu : u < 12) (hv : v < 12) : hasF (putF g x y) u v = (hasF g u v || (decide (u = x) && decide (v = y))) := by
  have e : putF g x y = putF (dotsF (hasF g)) x y := by rw [h.dots]
  rw [e, putF_dots hx hy, hasF_dots hu hv]
theorem dotL_put {g : List Int} (h : VF g) {x y k : Nat} (hx : x < 12) (hy : y < 12) (hk : k ≤ 144) : (dotL (putF g x y) k).length ≤ (dotL g k).length + (if y * 12 + x < k then 1 else 0) := by
  induction k with
  | zero => simp [dotL]
  | succ k ih =>
    have ih := ih (by omega)
    have e := hasF_put h hx hy (u := k % 12) (v := k / 12) (by omega) (by omega)
    have d1 : (dotL (putF g x y) (k + 1)).length = (dotL (putF g x y) k).length + (if hasK (putF g x y) k = true then 1 else 0) := by
      unfold dotL; rw [List.range_succ, List.filter_append, List.length_append]
      cases hh : hasK (putF g x y) k <;> simp [hh]
    have d2 : (dotL g (k + 1)).length = (dotL g k).length + (if hasK g k = true then 1 else 0) := by
      unfold dotL; rw [List.range_succ, List.filter_append, List.length_append]
      cases hh : hasK g k <;> simp [hh]
    rw [d1, d2]
    have e2 : hasK (putF g x y) k = (hasK g k || (decide (k % 12 = x) && decide (k / 12 = y))) := e
    rw [e2]
    by_cases hxy : k % 12 = x ∧ k / 12 = y
    · have hlt : ¬ y * 12 + x < k := by omega
      have hlt2 : y * 12 + x < k + 1 := by omega
      rw [if_neg hlt] at ih
      rw [if_pos hlt2]
      split <;> split <;> omega
    · have e3 : (decide (k % 12 = x) && decide (k / 12 = y)) = false := by simpa using hxy
      rw [e3, Bool.or_false]
      split at ih <;> split <;> split <;> omega
theorem cntF_put {g : List Int} (h : VF g) {x y : Nat} (hx : x < 12) (hy : y < 12) : cntF (putF g x y) ≤ cntF g + 1 := by
  have := dotL_put h hx hy (Nat.le_refl 144)
  unfold cntF
  split at this <;> omega
theorem cntF_fold {dx dy : Int} : ∀ {L : List Nat} {s : List Int}, VF s → VF (L.foldl (fun s k => mv1 dx dy k s) s) ∧ cntF (L.foldl (fun s k => mv1 dx dy k s) s) ≤ cntF s + L.length
  | [], s, h => ⟨h, by simp⟩
  | k :: L, s, h => by
    have key : VF (mv1 dx dy k s) ∧ cntF (mv1 dx dy k s) ≤ cntF s + 1 := by
      unfold mv1
      split
      · rename_i ho
        simp [okP] at ho
        exact ⟨h.put (by omega) (by omega), cntF_put h (by omega) (by omega)⟩
      · exact ⟨h, by omega⟩
    obtain ⟨g1, g2⟩ := cntF_fold (L := L) key.1
    exact ⟨g1, by simp only [List.foldl_cons, List.length_cons]; omega⟩
theorem cntF_zr : cntF (zr 12 0) = 0 := by
  have h1 := cntF_ok (f := zr 12 0)
  have h2 : ∀ i, i < 12 → nth (zr 12 0) i = 0 := by decide
  have h3 : ¬ 0 < cntF (zr 12 0) := fun z => ((cntF_zero VF.zero.W VF.zero.ok).1 z) h2
  omega
theorem cntF_sh {f : List Int} {dx dy : Int} : cntF (shF f dx dy) ≤ cntF f := by
  rw [← mvS_all]
  have := (cntF_fold (dx := dx) (dy := dy) (L := dotL f 144) VF.zero).2
  rw [cntF_zr] at this
  unfold mvS
  have e : cntF f = ((dotL f 144).length : Int) := rfl
  omega
theorem or_zero {f : List Int} (h : VF f) : mixF orI (zr 12 0) f = f := (or_V .zero h).ext h fun x y hx hy => by rw [mix_or .zero h hx hy, hasF_zero hx hy]; rfl
theorem ptFr_V {s : Pt} {t : Int} : VF (ptFr s t) := ⟨ptFr_W, ptFr_ok⟩
theorem prF_one {s : Pt} {t : Int} : prF [s] t 1 = ptFr s t := by rw [prF_succ, prF_zero]; exact or_zero ptFr_V
theorem prF_two {s1 s2 : Pt} {t : Int} : prF [s1, s2] t 2 = mixF orI (ptFr s1 t) (ptFr s2 t) := by
  rw [prF_succ, prF_succ, prF_zero]
  show mixF orI (mixF orI (zr 12 0) (ptFr s1 t)) (ptFr s2 t) = _
  rw [or_zero ptFr_V]
theorem plL_fr {l : List Pt} {A : Nat} : ∀ {k i : Nat}, i < k → fr (plL l A k) i = prF l (A + i : Nat) l.length
  | 0, i, h => by omega
  | k + 1, i, h => by
    rw [plL_succ]
    unfold fr at0
    rw [List.getD_eq_getElem?_getD, List.getElem?_append]
    by_cases hik : i < k
    · rw [if_pos (by rw [plL_len]; exact hik)]
      have := plL_fr (l := l) (A := A) hik
      unfold fr at0 at this
      rw [List.getD_eq_getElem?_getD] at this
      exact this
    · rw [if_neg (by rw [plL_len]; exact hik), plL_len, show i - k = 0 by omega, show i = k by omega]; rfl
theorem mtL_mem {s1 s2 : Pt} {A : Nat} : ∀ {k i : Nat}, ((A + i : Nat) : Int) ∈ mtL s1 s2 A k ↔ i < k ∧ mtB s1 s2 (A + i : Nat) = true
  | 0, i => by rw [mtL_zero]; simp
  | k + 1, i => by
    have ih := mtL_mem (s1 := s1) (s2 := s2) (A := A) (k := k) (i := i)
    rw [mtL_succ]
    split
    · rename_i h
      rw [List.mem_append, ih, List.mem_singleton]
      constructor
      · rintro (h1 | h1)
        · exact ⟨by omega, h1.2⟩
        · have : i = k := by omega
          subst this
          exact ⟨by omega, h⟩
      · rintro ⟨h1, h2⟩
        by_cases hik : i < k
        · exact .inl ⟨hik, h2⟩
        · exact .inr (by have : i = k := by omega
                         rw [this])
    · rename_i h
      rw [ih]
      constructor
      · rintro ⟨h1, h2⟩; exact ⟨by omega, h2⟩
      · rintro ⟨h1, h2⟩
        by_cases hik : i < k
        · exact ⟨hik, h2⟩
        · have : i = k := by omega
          subst this
          exact absurd h2 h
theorem faR_ok {l : List Pt} {t : Int} (h1 : okPts l = true) (ht : 0 ≤ t ∧ t ≤ 200) (hn : l.length ≤ 6) : faR l t = tup [iv .u16 (prF l t l.length), .int .i64 0] := by
  have e1 : in1 t 0 200 = true := by simp [in1]; omega
  have e2 : faC l (in1 t 0 200) = 0 := by unfold faC; rw [h1, e1, if_pos rfl, if_pos rfl, if_neg (by omega)]
  rw [faR, if_pos e2]
theorem one_pt {G : Heap} {s : Pt} {y : Value} (h : Kr G y s) : PtS (G ++ [⟨ptC s y, 14, 0, false⟩]) (slc G.length 0 0 1 1) [s] := by
  have l1 := ptC_len (s := s) (y := y)
  refine ⟨ptC s y, SlR.of (by simp [l1]) (.inr ⟨_, 1, rfl, Nat.le_refl _, rd_last rfl (by simp [l1]), _, get_last, rfl, rfl⟩), fun i hi => ?_⟩
  have : i = 0 := by simp at hi; exact hi
  subst this
  refine ⟨y, ?_, h.pre Pre.one⟩
  show ((ptC s y).drop (0 * 14)).take 14 = _
  rw [Nat.zero_mul, List.drop_zero, List.take_of_length_le (by omega)]; rfl
theorem fill_pt {s : Pt} {y : Value} : fill (rep 1 ptZ) [(0, 14, agg (ptC s y))] = some (ptC s y) := fill_one (z := ptZ) (v := agg (ptC s y)) (esz := 14) (by simpa using ptC_len) rfl
theorem plL_V {l : List Pt} {A k : Nat} : ∀ f ∈ plL l A k, VF f := by
  have hp : ∀ (t : Int) (m : Nat), VF (prF l t m) := fun t m => by
    induction m with
    | zero => rw [prF_zero]; exact .zero
    | succ m ih => rw [prF_succ]; exact or_V ih ptFr_V
  induction k with
  | zero => intro f hf; rw [plL_zero] at hf; cases hf
  | succ k ih =>
    intro f hf
    rw [plL_succ] at hf
    rcases List.mem_append.1 hf with h | h
    · exact ih f h
    · rw [List.mem_singleton.1 h]; exact hp _ _
theorem call49 {H : Heap} {x y : Value} {bs bs' : List Int} (hx : By H x bs) (hy : By H y bs') : ∃ H', Call tab false 49 [x, y] H = some (.bool true, H') := by
  refine ⟨H, Call_wp t49 (.inl rfl) rfl ?_⟩
  have k1 := call169 (pu := true) hx
  have k2 := call169 (pu := true) hy
  by_cases b1 : 4096 < bs.length
  · simp [c49, k49, k1, b1, skip]
  by_cases b2 : 4096 < bs'.length
  · simp [c49, k49, k1, b1, k2, b2]
  obtain ⟨s1, y1, G1, d1, P1, r1, D1⟩ := call258 (pu := true) hx (by omega)
  obtain ⟨s2, y2, G2, d2, P2, r2, D2⟩ := call258 (pu := true) (hy.pre P1) (by omega)
  have r1 := r1.pre P2
  have P02 := P1.trans P2
  obtain ⟨A, e1, hA⟩ := call259 (pu := true) (n := 10) (hy.pre P02) (by omega) (by omega)
  obtain ⟨n, e2, hn⟩ := call259 (pu := true) (n := 12) (hx.pre P02) (by omega) (by omega)
  obtain ⟨A, rfl⟩ := Int.eq_ofNat_of_zero_le hA.1
  obtain ⟨n, rfl⟩ := Int.eq_ofNat_of_zero_le hn.1
  have w1 : IntKind.wrap .i64 ((A : Int) + n) = ((A + n : Nat) : Int) := by rw [wrap64 (by omega)]; omega
  have o1 := D1.ok
  have o2 := D2.ok
  have W1 := D1.W
  have W2 := D2.W
  have n1 : s1.ks.length ≤ 1000000 := by have := D1.ks.n5; omega
  have n2 : s2.ks.length ≤ 1000000 := by have := D2.ks.n5; omega
  have hW := two_W W1 W2 n1 n2
  have hok : okPts [s1, s2] = true := allN_true fun i hi => by
    rcases i with _ | _ | i
    · exact o1
    · exact o2
    · simp at hi; omega
  have hsp : spnB A (A + n : Nat) = true := by simp [spnB, in1]; omega
  have hfa : faC [s1, s2] (spnB A (A + n : Nat)) = 0 := by unfold faC; rw [hok, hsp]; rfl
  have hpc : plC [s1, s2] A (A + n : Nat) = 0 := by rw [plC, if_pos hfa, if_neg (by omega)]
  have hmc : mtC s1 s2 A (A + n : Nat) = 0 := hfa
  have hpr : plR [s1, s2] A (A + n : Nat) = plL [s1, s2] A (n + 1) := by rw [plR, if_pos hpc]; congr 1; omega
  have hmr : mtR s1 s2 A (A + n : Nat) = mtL s1 s2 A (n + 1) := by rw [mtR, if_pos hmc]; congr 1; omega
  have lp := plL_len (l := [s1, s2]) (A := A) (k := n + 1)
  have lm := mtL_len (s1 := s1) (s2 := s2) (A := A) (k := n + 1)
  -- the books
  obtain ⟨G3, hG3⟩ : ∃ G3, G3 = G2 ++ [(⟨ptC s1 y1 ++ ptC s2 y2, 14, 0, false⟩ : Blk)] := ⟨_, rfl⟩
  have P3 : Pre G2 G3 := by rw [hG3]; exact Pre.one
  have t3 : PtS G3 (slc G2.length 0 0 2 2) [s1, s2] := by rw [hG3]; exact two_pts r1 r2
  obtain ⟨ri, G4, βi, q1, P4, oi⟩ := rs260 (a := A) (b := (A + n : Nat)) hW G3 _ t3
  rw [hpc] at q1
  rw [hpr, lp] at oi
  have P24 := P3.trans P4
  obtain ⟨G5, hG5⟩ : ∃ G5, G5 = G4 ++ [(⟨ptC s1 y1 ++ ptC s2 y2, 14, 0, false⟩ : Blk)] := ⟨_, rfl⟩
  have P5 : Pre G4 G5 := by rw [hG5]; exact Pre.one
  have t5 : PtS G5 (slc G4.length 0 0 2 2) [s1, s2] := by rw [hG5]; exact two_pts (r1.pre P24) (r2.pre P24)
  obtain ⟨rs, G6, βs, q2, P6, os⟩ := rs261 (a := A) (b := (A + n : Nat)) hW G5 _ t5
  rw [hpc] at q2
  rw [hpr, lp] at os
  have P26 := (P24.trans P5).trans P6
  obtain ⟨mi, G7, γi, q3, P7, ui⟩ := rs208 (a := A) (b := (A + n : Nat)) W1 W2 n1 n2 G6 _ _ (r1.pre P26) (r2.pre P26)
  rw [hmc] at q3
  rw [hmr] at ui
  have P27 := P26.trans P7
  obtain ⟨ms, G8, γs, q4, P8, us⟩ := rs206 (a := A) (b := (A + n : Nat)) W1 W2 n1 n2 G7 _ _ (r1.pre P27) (r2.pre P27)
  rw [hmc] at q4
  rw [hmr] at us
  have P28 := P27.trans P8
  have bi : Bk G8 ri (plL [s1, s2] A (n + 1)) := by have := (oi.pre (((P5.trans P6).trans P7).trans P8)).sl; unfold Bk; rw [lp]; exact this
  have bs8 : Bk G8 rs (plL [s1, s2] A (n + 1)) := by have := (os.pre (P7.trans P8)).sl; unfold Bk; rw [lp]; exact this
  have hbw : BkW (plL [s1, s2] A (n + 1)) := fun f hf => (plL_V f hf).W
  have v1 := call91 (pu := true) bi bs8 (by omega) hbw
  have v2 := call262 (pu := true) (ui.pre P8).sl us.sl (by omega)
  have v3 := call263 (pu := true) (r1.pre P28) W1 n1
  have v4 := call263 (pu := true) (r2.pre P28) W2 n2
  rw [o1] at v3
  rw [o2] at v4
  have ld1 : ldc 14 true (agg (ptC s1 y1)) 0 = some (agg (ptC s1 y1)) := ldPall s1.len
  have ld2 : ldc 14 true (agg (ptC s2 y2)) 0 = some (agg (ptC s2 y2)) := ldPall s2.len
  have st1 : stc (agg ptZ) 0 (ptC s1 y1) = some (agg (ptC s1 y1)) := stPall rfl s1.len
  have st2 : stc (agg ptZ) 0 (ptC s2 y2) = some (agg (ptC s2 y2)) := stPall rfl s2.len
  have pl1 : (ptC s1 y1).length = 14 := ptC_len
  have pl2 : (ptC s2 y2).length = 14 := ptC_len
  have ls : lenV rs = some (.int .i64 (n + 1 : Nat)) := by have := bs8.lenV; rw [lp] at this; exact this
  have w2 : IntKind.wrap .i64 (((A + n : Nat) : Int) - A) = (n : Int) := by rw [wrap64 (by omega)]; omega
  have w3 : IntKind.wrap .i64 ((n : Int) + 1) = ((n + 1 : Nat) : Int) := by rw [wrap64 (by omega)]; omega
  have hneq : (((n + 1 : Nat) : Int) != ((n + 1 : Nat) : Int)) = false := by simp
  simp [c49, k49, k1, b1, k2, b2, z14, d1, pl1, st1, d2, pl2, st2, e1, e2, w1, ld1, ld2, fill_pts, ← hG3, q1, ← hG5, q2, q3, q4, v1, ls, w2, w3, hneq, v2, v3, v4, -Int.natCast_add]
  have P08 := P02.trans P28
  refine WP_from 17 A (A + n + 1) _ rfl (fun i e G => e 5 = agg (ptC s1 y1) ∧ e 6 = agg (ptC s2 y2) ∧ e 7 = .int .i64 A ∧ e 8 = .int .i64 (A + n : Nat) ∧ e 11 = rs ∧ e 15 = ms ∧ Pre G8 G) (by omega) (by omega) ?_ ?_ (by simp) ⟨by simp, by simp, by simp, by simp [-Int.natCast_add], by simp, by simp, .refl⟩
  · rintro i e G hai hi hii e18 h17 ⟨h5, h6, h7, h8, h11, h15, PG⟩
    obtain ⟨k, rfl⟩ : ∃ k, i = A + k := ⟨i - A, by omega⟩
    obtain ⟨T, hT⟩ : ∃ T : Nat, T = A + k := ⟨_, rfl⟩
    rw [← hT] at h17 e18 hii ⊢
    have hTr : 0 ≤ (T : Int) ∧ (T : Int) ≤ 200 := by omega
    have g1 := r1.pre (P28.trans PG)
    have g2 := r2.pre (P28.trans PG)
    obtain ⟨Ga, hGa⟩ : ∃ Ga, Ga = G ++ [(⟨ptC s1 y1 ++ ptC s2 y2, 14, 0, false⟩ : Blk)] := ⟨_, rfl⟩
    have Pa : Pre G Ga := by rw [hGa]; exact Pre.one
    have ta : PtS Ga (slc G.length 0 0 2 2) [s1, s2] := by rw [hGa]; exact two_pts g1 g2
    obtain ⟨Gb, hGb⟩ : ∃ Gb, Gb = Ga ++ [(⟨ptC s1 y1, 14, 0, false⟩ : Blk)] := ⟨_, rfl⟩
    have Pb : Pre Ga Gb := by rw [hGb]; exact Pre.one
    have tb : PtS Gb (slc Ga.length 0 0 1 1) [s1] := by rw [hGb]; exact one_pt (g1.pre Pa)
    obtain ⟨Gc, hGc⟩ : ∃ Gc, Gc = Gb ++ [(⟨ptC s2 y2, 14, 0, false⟩ : Blk)] := ⟨_, rfl⟩
    have Pc : Pre Gb Gc := by rw [hGc]; exact Pre.one
    have tc : PtS Gc (slc Gb.length 0 0 1 1) [s2] := by rw [hGc]; exact one_pt (g2.pre (Pa.trans Pb))
    have PGc := (Pa.trans Pb).trans Pc
    have hW1 : PtsW [s1] := ⟨fun s hs => by simp at hs; subst hs; exact W1, by simp, fun s hs => by simp at hs; subst hs; exact n1⟩
    have hW2 : PtsW [s2] := ⟨fun s hs => by simp at hs; subst hs; exact W2, by simp, fun s hs => by simp at hs; subst hs; exact n2⟩
    have ho1 : okPts [s1] = true := allN_true fun i hi => by
      have : i = 0 := by simp at hi; exact hi
      subst this; exact o1
    have ho2 : okPts [s2] = true := allN_true fun i hi => by
      have : i = 0 := by simp at hi; exact hi
      subst this; exact o2
    have F1 := call222 (pu := true) (t := (T : Int)) ta hW
    have F2 := call222 (pu := true) (t := (T : Int)) tb hW1
    have F3 := call220 (pu := true) (t := (T : Int)) tc hW2
    rw [faR_ok hok hTr (by simp)] at F1
    rw [faR_ok ho1 hTr (by simp)] at F2
    rw [faR_ok ho2 hTr (by simp)] at F3
    rw [show [s1, s2].length = 2 from rfl, prF_two] at F1
    rw [show [s1].length = 1 from rfl, prF_one] at F2
    rw [show [s2].length = 1 from rfl, prF_one] at F3
    have V1 := ptFr_V (s := s1) (t := (T : Int))
    have V2 := ptFr_V (s := s2) (t := (T : Int))
    have F4 := call253 (pu := true) (H := Gc) V1 V2
    have F5 := call251 (pu := true) (H := Gc) V1 V2
    have VM := and_V V1 V2
    have F6 := call264 (pu := true) (H := Gc) VM
    have F7 := call264 (pu := true) (H := Gc) D1.f
    have F8 := call171 (pu := true) (H := Gc) V1
    have hsh : cntF (ptFr s1 T) ≤ cntF s1.f := cntF_sh
    have bs9 := bs8.pre (PG.trans PGc)
    obtain ⟨q, off, ver, ha, hr⟩ := Bk.get bs9 hbw (i := k) (by omega)
    rw [plL_fr (by omega), ← hT, show [s1, s2].length = 2 from rfl, prF_two] at hr
    have F9 := call265 (pu := true) (a := (T : Int)) (us.pre (PG.trans PGc)).sl (by omega)
    have hmem : memI (mtL s1 s2 A (n + 1)) T = decide (0 < cntF (mixF andI (ptFr s1 T) (ptFr s2 T))) := by
      unfold memI
      refine decide_eq_decide.2 ?_
      rw [hT, mtL_mem, ← hT]
      constructor
      · rintro ⟨_, h2⟩; unfold mtB at h2; exact of_decide_eq_true h2
      · intro h2; exact ⟨by omega, by unfold mtB; exact decide_eq_true h2⟩
    rw [hmem] at F9
    have hor : (mixF orI (ptFr s1 T) (ptFr s2 T)).length = 12 := mixF_length
    have hand : (mixF andI (ptFr s1 T) (ptFr s2 T)).length = 12 := mixF_length
    have l1 := V1.W.len
    have l2 := V2.W.len
    have lds : ldc 12 true (agg (ptC s1 y1)) 0 = some (iv .u16 s1.f) := ldP0 s1.len
    generalize hFO : mixF orI (ptFr s1 T) (ptFr s2 T) = FO at *
    generalize hFA : mixF andI (ptFr s1 T) (ptFr s2 T) = FA at *
    generalize hf1 : ptFr s1 (T : Int) = f1 at *
    generalize hf2 : ptFr s2 (T : Int) = f2 at *
    have z1 := stc_zr (k := .u16) (n := 12) (l := FO) hor
    have z2 := stc_zr (k := .u16) (n := 12) (l := FA) hand
    have z3 := stc_zr (k := .u16) (n := 12) (l := f1) l1
    have z4 := stc_zr (k := .u16) (n := 12) (l := f2) l2
    have q9 := eqV_iv (k := .u16) hor hor
    have hle : (T : Int) ≤ ((A + n : Nat) : Int) := by omega
    have w4 : IntKind.wrap .i64 ((T : Int) - A) = (k : Int) := by rw [wrap64 (by omega)]; omega
    have hng : ¬ cntF s1.f < cntF f1 := by omega
    simp [b49_1, h17, h5, h6, h7, h8, h11, h15, hle, ld1, ld2, fill_pts, z14, ← hGa, F1, zs_cs, hor, z1, fill_pt, ← hGb, F2, l1, z3, ← hGc, F3, l2, z4, F4, F5, hand, z2, F6, lds, F7, F8, w4, ha, hr, agg_cs, q9, F9, hng, e18, -Int.natCast_add]
    exact PG.trans PGc
  · rintro e G h17 ⟨h5, h6, h7, h8, h11, h15, PG⟩
    have hnle : ¬ ((A + n + 1 : Nat) : Int) ≤ ((A + n : Nat) : Int) := by omega
    simp [b49_1, h17, h8, hnle, (P08.trans PG).take, -Int.natCast_add]
end Fb
