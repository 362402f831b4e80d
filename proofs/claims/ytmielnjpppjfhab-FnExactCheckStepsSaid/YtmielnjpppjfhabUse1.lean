/- What each function computes. -/
import Derived.Test.YtmielnjpppjfhabUse0
set_option linter.unusedVariables false
set_option linter.unusedSimpArgs false
namespace Fb
open Go
theorem finish_keepS {H G : Heap} {b n cap : Nat} {k : Blk} (hb : H.length ≤ b) (hk : G[b]? = some k) (ho : k.cells.all (old0 H.length) = false) : finish H.length G [slc b 0 0 n cap] = (slc b 0 0 n cap, G) := by
  have hne : old1 H.length (slc b 0 0 n cap) = false := by
    show (true && decide (b < H.length)) = false
    simp; omega
  have : pack H.length G [slc b 0 0 n cap] [] [] = none := by
    rw [pack, if_neg (by rw [hne]; decide)]
    show (match G[b]? with
      | some k => if ([] : List Nat).contains b = false ∧ 0 = k.ver ∧ k.ro = false ∧ k.cells.all (old0 H.length) = true then _ else none
      | none => none) = _
    rw [hk]
    simp only []
    rw [if_neg (by rw [ho]; simp)]
  unfold finish; rw [this]; rfl
theorem mem_elem {C : List Value} {esz i : Nat} {v : Value} (h : v ∈ elem C esz i) : v ∈ C := List.mem_of_mem_drop (List.mem_of_mem_take h)
theorem stC_mem {s : Sted} {y : Value} : y ∈ stC s y := by simp [stC]
/-- A call, and what holds of what it comes to. -/
theorem Call_ex {T : Tab} {pu : Bool} {f : Nat} {F : Fn} (hT : T f = some (.fn F)) (hp : pu = false ∨ F.kind = .pure) {xs : List Value} {H : Heap} {P : Value × Heap → Prop} (hn : xs.length = F.np)
    (h : WK T H.length (wbOf F.kind) F.body [] (ini xs) H fun x e' H' => (∀ i, x ≠ .exit i) ∧ ∃ r, (resVs e' H' F.res).map (finish H.length H') = some r ∧ P r) : ∃ r, Call T pu f xs H = some r ∧ P r := by
  obtain ⟨x, e', H', hr, hx, r, q, p⟩ := h
  exact ⟨r, Call_wp0 hT hp hn ⟨x, e', H', hr, hx, q⟩, p⟩
theorem roomN_pos {n : Nat} : 0 < n + roomN n := by
  rcases Nat.eq_zero_or_pos n with h | h
  · subst h; decide
  · omega
/-- The copy's blocks are its own. -/
def CpB (lo : Nat) (G : Heap) (x : Value) (l : List Sted) : Prop := ∃ b ver vs, x = slc b 0 ver l.length (l.length + roomN l.length) ∧ G[b]? = some ⟨vs, 5, ver, false⟩ ∧ lo ≤ b ∧ ∀ i, i < l.length → ∃ y, elem vs 5 i = stC (at0 l i) y ∧ old0 lo y = false
theorem cpB159 {pu : Bool} {H : Heap} {x : Value} {l : List Sted} {flag : Bool} (hs : StS H x l) (hn : l.length ≤ 1000000) (hr : ∀ s ∈ l, s.rows.length ≤ 1000000) :
    ∃ x' G, Call tab pu 159 [x, .bool flag] H = some (x', G) ∧ StS G x' l ∧ Pre H G ∧ (flag = false → CpS G x' l ∧ CpB H.length G x' l) := by
  by_cases hc : flag = true ∧ l.length = 0
  · obtain ⟨rfl, h0⟩ := hc
    have hl0 : l = [] := List.length_eq_zero_iff.1 h0
    subst hl0
    have hlen : lenV x = some (.int .i64 0) := hs.lenV
    refine ⟨.slice none 0 0, H, Call_wp t159 (.inr rfl) rfl ?_, ⟨[], ⟨rfl, .inl ⟨rfl, rfl⟩⟩, fun i hi => by simp at hi⟩, .refl, fun h => by cases h⟩
    simp [c159, k159, hlen]
  · have hn0 : flag = true → ¬ l.length = 0 := fun h h2 => hc ⟨h, h2⟩
    have hn1 : flag = true → ((l.length : Int) == 0) = false := fun h => by have := hn0 h; simpa using this
    have hRp := roomN_pos (n := l.length)
    have hrr := roomN_le (n := l.length)
    generalize hR : roomN l.length = R at hrr hRp
    have e1 : IntKind.wrap .i64 ((l.length : Int) + (R : Int)) = ((l.length + R : Nat) : Int) := by rw [wrap64 (by omega)]; omega
    have hmk : (0 ≤ ((l.length + R : Nat) : Int) ∧ ((l.length + R : Nat) : Int) ≤ ((l.length + R : Nat) : Int) ∧ ((l.length + R : Nat) : Int) * 32 ≤ (roomMax : Int)) := by
      have h2 : roomMax = 140737488355328 := rfl
      omega
    have hmk' := hmk
    -- what holds at the end
    suffices main : ∃ G C, Call tab pu 159 [x, .bool flag] H = some (finish H.length G [slc H.length 0 0 l.length (l.length + R)]) ∧ Pre H G ∧ G[H.length]? = some ⟨C, 5, 0, false⟩ ∧ C.length = (l.length + R) * 5 ∧
        (∀ j, j < l.length → ∃ y, elem C 5 j = stC (at0 l j) y ∧ CpI H G H.length flag (at0 l j) y) ∧ ∀ j, l.length ≤ j → j < l.length + R → ∃ y, elem C 5 j = stC stpF y ∧ CpI H G H.length true stpF y ∧ old0 H.length y = false by
      obtain ⟨G, C, hcall, hP, hg, hC, h1, h2⟩ := main
      have hsub : ∀ i, i < l.length → (C.take (l.length * 5)).length = l.length * 5 := fun _ _ => by simp; omega
      cases ho : C.all (old0 H.length) with
      | false =>
        rw [finish_keepS (Nat.le_refl _) hg ho] at hcall
        have hset : ∀ k, G[H.length]? = some k → G.set H.length k = G := fun k h => set_self h
        refine ⟨_, G, hcall, ⟨C.take (l.length * 5), ⟨by simp; omega, .inr ⟨H.length, 0, 0, _, rfl, by omega, by rw [rd_at hg rfl (by simp; omega)]; simp, _, hg, rfl, rfl⟩⟩, fun i hi => ?_⟩, hP, fun hf => ⟨⟨H.length, 0, C, by rw [hR], hg, by rw [hR]; exact hC, fun i hi => ?_, fun i hi hi2 => ?_⟩, H.length, 0, C, by rw [hR], hg, Nat.le_refl _, fun i hi => ?_⟩⟩
        · obtain ⟨y, h3, h4⟩ := h1 i hi
          have := h4.r ⟨C, 5, 0, false⟩
          rw [hset _ hg] at this
          exact ⟨y, by rw [elem_take hi, h3], this⟩
        · obtain ⟨y, h3, h4⟩ := h1 i hi
          have := (h4.c hf).1 ⟨C, 5, 0, false⟩
          rw [hset _ hg] at this
          exact ⟨y, h3, this⟩
        · rw [hR] at hi2
          obtain ⟨y, h3, h4, _⟩ := h2 i hi hi2
          have := h4.r ⟨C, 5, 0, false⟩
          rw [hset _ hg] at this
          exact ⟨y, h3, this⟩
        · obtain ⟨y, h3, h4⟩ := h1 i hi
          exact ⟨y, h3, (h4.c hf).2⟩
      | true =>
        have hall := List.all_eq_true.1 ho
        rw [finish_slc hP (Nat.le_refl _) hg rfl rfl ho] at hcall
        refine ⟨_, _, hcall, ⟨C.take (l.length * 5), ⟨by simp; omega, .inr ⟨H.length, 0, 0, _, rfl, by omega, by rw [rd_at get_last rfl (by simp; omega)]; simp, _, get_last, rfl, rfl⟩⟩, fun i hi => ?_⟩, Pre.one, fun hf => ?_⟩
        · obtain ⟨y, h3, h4⟩ := h1 i hi
          have hy := hall y (mem_elem (esz := 5) (i := i) (by rw [h3]; exact stC_mem))
          rcases h4.n with h5 | h5
          · subst h5
            refine ⟨_, by rw [elem_take hi, h3], ?_⟩
            have h6 := h4.r ⟨C, 5, 0, false⟩
            refine ⟨h6.size, ?_⟩
            rcases h6.is with h7 | ⟨_, _, _, _, h7, _⟩
            · exact .inl h7
            · cases h7
          · rw [hy] at h5; cases h5
        · exfalso
          rcases Nat.eq_zero_or_pos l.length with h0 | h0
          · obtain ⟨y, h3, h4, h5⟩ := h2 0 (by omega) (by omega)
            have hy := hall y (mem_elem (esz := 5) (i := 0) (by rw [h3]; exact stC_mem))
            rw [hy] at h5; cases h5
          · obtain ⟨y, h3, h4⟩ := h1 0 h0
            have hy := hall y (mem_elem (esz := 5) (i := 0) (by rw [h3]; exact stC_mem))
            have h6 := (h4.c hf).2
            rw [hy] at h6; cases h6
    have key : ∀ fl, fl = flag → ∃ r, Call tab pu 159 [x, .bool flag] H = some r ∧ ∃ G C, r = finish H.length G [slc H.length 0 0 l.length (l.length + R)] ∧ Pre H G ∧ G[H.length]? = some ⟨C, 5, 0, false⟩ ∧ C.length = (l.length + R) * 5 ∧
        (∀ j, j < l.length → ∃ y, elem C 5 j = stC (at0 l j) y ∧ CpI H G H.length fl (at0 l j) y) ∧ ∀ j, l.length ≤ j → j < l.length + R → ∃ y, elem C 5 j = stC stpF y ∧ CpI H G H.length true stpF y ∧ old0 H.length y = false := by
      intro fl hfl
      refine Call_ex t159 (.inr rfl) rfl ?_
      cases flag
      all_goals
        simp [c159, k159, hs.lenV, hn1, call296, hR, e1, ev1_mkS, mksV_int, hmk', skip, -Int.natCast_add]
        refine WP_count 6 l.length l.length rfl (fun i e G => e 0 = x ∧ e 1 = .bool fl ∧ e 5 = slc H.length 0 0 (l.length + R) (l.length + R) ∧ Pre H G ∧ ∃ C, G[H.length]? = some ⟨C, 5, 0, false⟩ ∧ C.length = (l.length + R) * 5 ∧ ∀ j, j < i → ∃ y, elem C 5 j = stC (at0 l j) y ∧ CpI H G H.length fl (at0 l j) y) (by omega) ?_ ?_ (by simp)
          ⟨by simp, by simp [hfl], by simp, Pre.one, _, get_last, by simp [rep_len], fun j hj => by omega⟩
        · rintro i e G _ hi hii e6 h6 ⟨h0, h1, h5, hP, C, hg, hC, hj⟩
          obtain ⟨q, off, ver, y0, ha, hrd, hrw⟩ := hs.get hi
          have hbG : H.length < G.length := (List.getElem?_eq_some_iff.1 hg).1
          obtain ⟨y, G', hcy, hPy, hI⟩ := cp81 (pu := true) (flag := fl) hbG hP (fun k => hrw.pre (hP.set (Nat.le_refl _))) (hr _ (at0_mem hi))
          have hi2 : i < l.length + R := by omega
          have hg' : G'[H.length]? = some ⟨C, 5, 0, false⟩ := by rw [hPy.get hbG]; exact hg
          have hm := mul_next (esz := 5) hi2
          have hwr := wr_at (n0 := H.length) (wb := false) (off := i * 5) (vs := stC (at0 l i) y) (ver := 0) hg' rfl rfl (by simp [may]) (by simp [stC]; omega)
          have hP' := (hP.trans hPy).set (b := H.length) (k := ⟨splice C (i * 5) (stC (at0 l i) y), 5, 0, false⟩) (Nat.le_refl _)
          have hlen : (stC (at0 l i) y).length = 5 := rfl
          simp [b159_1, h6, h0, h1, h5, hii, hs.lenV, ha, hP.rd hrd, hcy, at_nat hi2, hlen, hwr, wbOf, e6]
          refine ⟨hP', _, get_set hg', by rw [← hC]; simp [splice, stC]; omega, fun j hj2 => ?_⟩
          rw [elem_splice hC rfl hi2 (by omega)]
          by_cases hji : j = i
          · subst hji
            exact ⟨y, by rw [if_pos rfl], hI.set⟩
          · obtain ⟨y', h7, h8⟩ := hj j (by omega)
            exact ⟨y', by rw [if_neg hji, h7], (h8.pre hPy hbG).set⟩
        · rintro e G _ h6 ⟨h0, h1, h5, hP, C, hg, hC, hj⟩
          simp [b159_1, h6, h0, h5, hs.lenV]
          refine WP_from 7 l.length (l.length + R) ((l.length + R : Nat) : Int) rfl (fun i e G => e 0 = x ∧ e 5 = slc H.length 0 0 (l.length + R) (l.length + R) ∧ Pre H G ∧ ∃ C, G[H.length]? = some ⟨C, 5, 0, false⟩ ∧ C.length = (l.length + R) * 5 ∧ (∀ j, j < l.length → ∃ y, elem C 5 j = stC (at0 l j) y ∧ CpI H G H.length fl (at0 l j) y) ∧
            ∀ j, l.length ≤ j → j < i → ∃ y, elem C 5 j = stC stpF y ∧ CpI H G H.length true stpF y ∧ old0 H.length y = false) (by omega) (by omega) ?_ ?_ (by simp) ⟨by simp [h0], by simp [h5], hP, C, hg, hC, hj, fun j h1 h2 => by omega⟩
          · rintro i e G hni hi2 hii e6 h7 ⟨h0, h5, hP, C, hg, hC, hj, hj2⟩
            have hbG : H.length < G.length := (List.getElem?_eq_some_iff.1 hg).1
            obtain ⟨y, G', hcy, hPy, hI, ho⟩ := cp382 (pu := true) hbG hP
            have hg' : G'[H.length]? = some ⟨C, 5, 0, false⟩ := by rw [hPy.get hbG]; exact hg
            have hm := mul_next (esz := 5) hi2
            have hwr := wr_at (n0 := H.length) (wb := false) (off := i * 5) (vs := stC stpF y) (ver := 0) hg' rfl rfl (by simp [may]) (by simp [stC]; omega)
            have hP' := (hP.trans hPy).set (b := H.length) (k := ⟨splice C (i * 5) (stC stpF y), 5, 0, false⟩) (Nat.le_refl _)
            have hlen : (stC stpF y).length = 5 := rfl
            simp [b159_2, h7, h0, h5, hii, hcy, at_nat hi2, hlen, hwr, wbOf, e6, -Int.natCast_add]
            refine ⟨hP', _, get_set hg', by rw [← hC]; simp [splice, stC]; omega, fun j hjl => ?_, fun j hjl hji => ?_⟩
            · rw [elem_splice hC rfl hi2 (by omega), if_neg (by omega)]
              obtain ⟨y', h8, h9⟩ := hj j hjl
              exact ⟨y', h8, (h9.pre hPy hbG).set⟩
            · rw [elem_splice hC rfl hi2 (by omega)]
              by_cases hji2 : j = i
              · subst hji2
                exact ⟨y, by rw [if_pos rfl], hI.set, ho⟩
              · obtain ⟨y', h8, h9, h10⟩ := hj2 j hjl (by omega)
                exact ⟨y', by rw [if_neg hji2, h8], (h9.pre hPy hbG).set, h10⟩
          · rintro e G h7 ⟨h0, h5, hP, C, hg, hC, hj, hj2⟩
            have hsl : slcAV G 5 (slc H.length 0 0 (l.length + R) (l.length + R)) none (some (.int .i64 l.length)) none = some (slc H.length 0 0 l.length (l.length + R)) := slcAV_hi hg rfl rfl (by omega)
            simp [b159_2, h7, h0, h5, hs.lenV, hsl, -Int.natCast_add]
            exact ⟨G, rfl, hP, C, hg, hC, hj, hj2⟩
    obtain ⟨r, hcall, G, C, rfl, h⟩ := key flag rfl
    exact ⟨G, C, hcall, h⟩
theorem cp159 {pu : Bool} {H : Heap} {x : Value} {l : List Sted} {flag : Bool} (hs : StS H x l) (hn : l.length ≤ 1000000) (hr : ∀ s ∈ l, s.rows.length ≤ 1000000) :
    ∃ x' G, Call tab pu 159 [x, .bool flag] H = some (x', G) ∧ StS G x' l ∧ Pre H G ∧ (flag = false → CpS G x' l) := by
  obtain ⟨x', G, h1, h2, h3, h4⟩ := cpB159 (pu := pu) (flag := flag) hs hn hr
  exact ⟨x', G, h1, h2, h3, fun hf => (h4 hf).1⟩
theorem eqS2_call {f eqE esz : Nat} (hf : tab f = some (.fn (eqSC eqE esz))) {pu : Bool} {H : Heap} {x y : Value} {n : Nat} {vs ws : List Value} (hx : SlR H x esz n vs) (hy : SlR H y esz n ws) (hn : n ≤ 1000000000)
    (hE : ∀ i, i < n → Call tab true eqE [agg (elem vs esz i), agg (elem ws esz i)] H = some (.bool true, H)) : Call tab pu f [x, y] H = some (.bool true, H) := by
  refine Call_wp hf (.inr rfl) rfl ?_
  simp [eqSC, eqSK, hx.lenV, hy.lenV]
  refine WP_forH 5 n n rfl (by omega) (fun i e => e 0 = x ∧ e 1 = y) ?_ ?_ (by simp) (by simp)
  · rintro i e hi hlt e4 h5 ⟨h0, h1⟩
    obtain ⟨a, ha, hl⟩ := hx.get hi
    obtain ⟨a', ha', hl'⟩ := hy.get hi
    simp [eqSB1, h5, h0, h1, hlt, hx.lenV, ha, hl, ha', hl', hE i hi, e4]
  · rintro e h5 ⟨h0, h1⟩
    simp [eqSB1, h5, h0, h1, hx.lenV]
theorem call390 {pu : Bool} {H : Heap} {y y' : Value} {s : Sted} (h : Rw H y s) (h' : Rw H y' s) (hn : s.rows.length ≤ 1000000) : Call tab pu 390 [y, y'] H = some (.bool true, H) :=
  eqS_call s390 h h' (by omega) fun i hi => by rw [chsC_elem hi]; exact call529
theorem call166 {pu : Bool} {H : Heap} {y y' : Value} {s : Sted} (h : Rw H y s) (h' : Rw H y' s) (hn : s.rows.length ≤ 1000000) : Call tab pu 166 [agg (stC s y), agg (stC s y')] H = some (.bool true, H) := by
  refine Call_wp t166 (.inr rfl) rfl ?_
  simp [c166, k166, stC, ldc5a, ldc5b, ldc5c, ldc5d, ldc5e, call390 h h' hn]
theorem s213 : tab 213 = some (.fn (eqSC 166 5)) := t213
theorem in161 {pu : Bool} {H : Heap} {x y : Value} {l : List Sted} (hx : CpS H x l) (hy : CpS H y l) (hn : l.length ≤ 1000000) (hr : ∀ s ∈ l, s.rows.length ≤ 1000000) : Call tab pu 161 [x, y] H = some (.bool true, H) := by
  refine Call_wp t161 (.inr rfl) rfl ?_
  have sx := hx.sl
  have sy := hy.sl
  obtain ⟨b, ver, vs, rfl, hg, hl, h1, h2⟩ := hx
  obtain ⟨b', ver', ws, rfl, hg', hl', h1', h2'⟩ := hy
  have hrr := roomN_le (n := l.length)
  generalize hR : roomN l.length = R at *
  have e1 : IntKind.wrap .i64 ((l.length : Int) + (R : Int)) = ((l.length + R : Nat) : Int) := by rw [wrap64 (by omega)]; omega
  have s1 := slcAV_lohi (off := 0) (len := l.length) (cap := l.length + R) (lo := l.length) (hi := l.length + R) (kk := .i64) (kk' := .i64) hg rfl rfl (Nat.le_refl _) (by omega)
  have s2 := slcAV_lohi (off := 0) (len := l.length) (cap := l.length + R) (lo := l.length) (hi := l.length + R) (kk := .i64) (kk' := .i64) hg' rfl rfl (Nat.le_refl _) (by omega)
  rw [Nat.zero_add, show l.length + R - l.length = R by omega] at s1 s2
  have r1 : SlR H (slc b (l.length * 5) ver R R) 5 R (vs.drop (l.length * 5)) := ⟨by simp; omega, .inr ⟨b, _, ver, R, rfl, Nat.le_refl _, by rw [rd_at hg rfl (by simp only []; omega), List.take_of_length_le (by simp; omega)], _, hg, rfl, rfl⟩⟩
  have r2 : SlR H (slc b' (l.length * 5) ver' R R) 5 R (ws.drop (l.length * 5)) := ⟨by simp; omega, .inr ⟨b', _, ver', R, rfl, Nat.le_refl _, by rw [rd_at hg' rfl (by simp only []; omega), List.take_of_length_le (by simp; omega)], _, hg', rfl, rfl⟩⟩
  have hc := eqS2_call s213 (pu := true) r1 r2 (by omega) fun i hi => by
    obtain ⟨y1, e1, q1⟩ := h2 (l.length + i) (by omega) (by omega)
    obtain ⟨y2, e2, q2⟩ := h2' (l.length + i) (by omega) (by omega)
    rw [elem_drop, elem_drop, e1, e2]
    exact call166 q1 q2 (by decide)
  obtain ⟨x0, hx0⟩ : ∃ x0, x0 = slc b 0 ver l.length (l.length + R) := ⟨_, rfl⟩
  obtain ⟨y0, hy0⟩ : ∃ y0, y0 = slc b' 0 ver' l.length (l.length + R) := ⟨_, rfl⟩
  rw [← hx0] at s1 sx ⊢
  rw [← hy0] at s2 sy ⊢
  simp [c161, k161, sx.lenV, sy.lenV, call296, hR, e1, -Int.natCast_add]
  refine WP_forH 6 l.length _ rfl (by omega) (fun i e => e 0 = x0 ∧ e 1 = y0 ∧ e 5 = .int .i64 (l.length + R : Nat)) ?_ ?_ (by simp) (by simp)
  · rintro i e hi hlt e4 h6 ⟨h0, h1e, h5⟩
    obtain ⟨y1, g1, q1⟩ := h1 i hi
    obtain ⟨y2, g2, q2⟩ := h1' i hi
    have m := mul_next (esz := 5) (show i < l.length + R by omega)
    have a1 : idxAV 5 x0 (.int .i64 (i : Int)) = some (adr b (i * 5) ver) := by rw [hx0, idxAV_slc, at_nat hi]; simp
    have a2 : idxAV 5 y0 (.int .i64 (i : Int)) = some (adr b' (i * 5) ver') := by rw [hy0, idxAV_slc, at_nat hi]; simp
    have d1 : rd H b (i * 5) ver 5 = some (stC (at0 l i) y1) := by rw [rd_at hg rfl (by simp only []; omega), ← g1]; rfl
    have d2 : rd H b' (i * 5) ver' 5 = some (stC (at0 l i) y2) := by rw [rd_at hg' rfl (by simp only []; omega), ← g2]; rfl
    have hi83 := call83 (pu := true) (a := (at0 l i).a) (b := (at0 l i).b) (c := (at0 l i).c) (d := (at0 l i).d) q1 q2 (hr _ (at0_mem hi))
    rw [stp_eq, stp_eq] at hi83
    simp [b161_1, h6, h0, h1e, h5, hlt, sy.lenV, a1, a2, d1, d2, hi83, e4, -Int.natCast_add]
  · rintro e h6 ⟨h0, h1e, h5⟩
    simp [b161_1, h6, h0, h1e, h5, sy.lenV, s1, s2, hc, -Int.natCast_add]
theorem sz157 {H : Heap} {x : Value} {l : List Sted} (hs : StS H x l) (hn : l.length ≤ 9223372036854775807) (hr : ∀ s ∈ l, s.rows.length ≤ 9223372036854775807) {left : Int} (h0 : 0 ≤ left) (h1 : left ≤ 1000000) :
    ∃ v, Call tab true 157 [x, .int .i64 left] H = some (.int .i64 v, H) ∧ v ≤ left ∧ (0 ≤ v → l.length ≤ 1000000 ∧ ∀ s ∈ l, s.rows.length ≤ 1000000) := by
  have key : ∃ r, Call tab true 157 [x, .int .i64 left] H = some r ∧ ∃ v, r = (.int .i64 v, H) ∧ v ≤ left ∧ (0 ≤ v → l.length ≤ 1000000 ∧ ∀ s ∈ l, s.rows.length ≤ 1000000) := by
    refine Call_ex t157 (.inr rfl) rfl ?_
    have e1 : IntKind.wrap .i64 (left - l.length) = left - l.length := wrap64 (by omega)
    by_cases h2 : left - (l.length : Int) < 0
    · simp [c157, k157, hs.lenV, e1, h2]
      omega
    · simp [c157, k157, hs.lenV, e1, h2]
      refine WP_forH 5 l.length _ rfl (by omega) (fun i e => e 0 = x ∧ ∃ v, e 1 = .int .i64 v ∧ 0 ≤ v ∧ v ≤ left ∧ ∀ j, j < i → (at0 l j).rows.length ≤ 1000000) ?_ ?_ (by simp) ⟨by simp, _, by simp; rfl, by omega, by omega, fun j hj => by omega⟩
      · rintro i e hi hlt e4 h5 ⟨h0e, v, h1e, hv0, hv1, hj⟩
        obtain ⟨q, off, ver, y, ha, hrd, hrw⟩ := hs.get hi
        have hsz := call79 (pu := true) (a := (at0 l i).a) (b := (at0 l i).b) (c := (at0 l i).c) (d := (at0 l i).d) hrw (hr _ (at0_mem hi)) hv0 (by omega)
        rw [stp_eq] at hsz
        by_cases h3 : v - ((at0 l i).rows.length : Int) < 0
        · rw [if_pos h3] at hsz
          simp [b157_1, h5, h0e, h1e, hlt, hs.lenV, ha, hrd, hsz]
          omega
        · rw [if_neg h3] at hsz
          simp [b157_1, h5, h0e, h1e, hlt, hs.lenV, ha, hrd, hsz, h3, e4]
          exact ⟨by omega, by omega, upto_succ hj (by omega)⟩
      · rintro e h5 ⟨h0e, v, h1e, hv0, hv1, hj⟩
        simp [b157_1, h5, h0e, h1e, hs.lenV]
        exact ⟨hv1, fun _ => ⟨by omega, fun s hs' => by
          obtain ⟨i, hi, rfl⟩ := List.getElem_of_mem hs'
          have := hj i hi
          rwa [show at0 l i = l[i] from Option.some.inj ((at0_get hi).symm.trans (List.getElem?_eq_getElem hi))] at this⟩⟩
  obtain ⟨r, hc, v, rfl, h⟩ := key
  exact ⟨v, hc, h⟩
def rw' (s : Sted) (j : Nat) : Int × Int := at0 s.rows j
def in1 (n lo hi : Int) : Bool := decide (lo ≤ n ∧ n ≤ hi)
def rowB (s : Sted) (j : Nat) : Bool := in1 (rw' s j).1 0 11 && in1 (rw' s j).2 1 4095 && (decide (j = 0) || decide ((rw' s (j - 1)).1 < (rw' s j).1))
def rowsB (s : Sted) : Bool := allN (rowB s) s.rows.length
def stillB (s : Sted) : Bool := (s.c == 0) && (s.d == 0)
def kindB (s : Sted) (i : Nat) : Bool :=
  if (s.a == 0) = true then (s.b == 0) && stillB s else if (s.a == 1) = true then in1 s.b 0 ((i : Int) - 1) && stillB s
  else if (s.a == 2) = true then in1 s.b 0 ((i : Int) - 1) && !stillB s && in1 s.c (-12) 12 && in1 s.d (-12) 12 else false
def okSt (s : Sted) (i : Nat) : Bool := rowsB s && kindB s i
def okSts (l : List Sted) : Bool := allN (fun i => okSt (at0 l i) i) l.length && decide (l.length ≤ 40)
theorem in295 {pu : Bool} {H : Heap} {n lo hi : Int} : Call tab pu 295 [.int .i64 n, .int .i64 lo, .int .i64 hi] H = some (.bool (in1 n lo hi), H) := call295
theorem in304 {pu : Bool} {H : Heap} {n lo hi : Int} : Call tab pu 304 [.int .i64 n, .int .i64 lo, .int .i64 hi] H = some (.bool (in1 n lo hi), H) := call304
theorem Rw.at {H : Heap} {y : Value} {s : Sted} (h : Rw H y s) {j : Nat} (hj : j < s.rows.length) : ∃ q off ver, idxAV 2 y (.int .i64 (j : Int)) = some (adr q off ver) ∧ rd H q off ver 2 = some [.int .i8 (rw' s j).1, .int .u16 (rw' s j).2] ∧
    rd H q off ver 1 = some [.int .i8 (rw' s j).1] ∧ rd H q (off + 1) ver 1 = some [.int .u16 (rw' s j).2] := by
  obtain ⟨q, off, ver, h1, h2⟩ := SlR.get1 h hj
  rw [chsC_elem hj] at h2
  have h3 := rd_part h2 (o := 0) (m := 1) (by omega)
  have h4 := rd_part h2 (o := 1) (m := 1) (by omega)
  exact ⟨q, off, ver, h1, h2, h3, h4⟩
theorem StW.row {s : Sted} (h : StW s) {j : Nat} (hj : j < s.rows.length) : i8 (rw' s j).1 ∧ u16' (rw' s j).2 := h.rows _ (at0_mem hj)
theorem call573 {pu : Bool} {H : Heap} {y : Value} {s : Sted} (h : Rw H y s) (hw : StW s) (hn : s.rows.length ≤ 1000000) : Call tab pu 573 [y] H = some (.bool (rowsB s), H) := by
  refine Call_wp t573 (.inr rfl) rfl ?_
  simp [c573, k573]
  refine WP_forH 3 s.rows.length _ rfl (by omega) (fun j e => e 0 = y ∧ ∀ i, i < j → rowB s i = true) ?_ ?_ (by simp) (by simp)
  · rintro j e hj hjj e4 h3 ⟨h0, hp⟩
    obtain ⟨q, off, ver, ha, hr, hr1, hr2⟩ := Rw.at h hj
    obtain ⟨w1, w2⟩ := hw.row hj
    have e1 : IntKind.wrap .i64 (rw' s j).1 = (rw' s j).1 := wrap64 (by omega)
    have e2 : IntKind.wrap .i64 (rw' s j).2 = (rw' s j).2 := wrap64 (by omega)
    cases b1 : in1 (rw' s j).1 0 11 with
    | false =>
      have hb : rowB s j = false := by simp [rowB, b1]
      simp [b573_1, h3, h0, hjj, SlR.lenV h, ha, hr1, e1, in304, b1, skip, rowsB, allN_false hj hb]
    | true =>
      cases b2 : in1 (rw' s j).2 1 4095 with
      | false =>
        have hb : rowB s j = false := by simp [rowB, b2]
        simp [b573_1, h3, h0, hjj, SlR.lenV h, ha, hr1, hr2, e1, e2, in304, b1, b2, skip, rowsB, allN_false hj hb]
      | true =>
        rcases Nat.eq_zero_or_pos j with h0j | h0j
        · subst h0j
          have hb : rowB s 0 = true := by simp [rowB, b1, b2]
          have ha' : idxAV 2 y (.int .i64 0) = some (adr q off ver) := ha
          have h3' : e 3 = .int .i64 0 := h3
          have hj' : (0 : Int) < s.rows.length := by omega
          have e4' : IntKind.wrap .i64 (0 + 1) = 1 := by decide
          simp [b573_1, h3', h0, hj, SlR.lenV h, ha', hr1, hr2, e1, e2, in304, b1, b2, skip, e4']
          exact hb
        · obtain ⟨q', off', ver', ha', hr', hr1', hr2'⟩ := Rw.at h (j := j - 1) (by omega)
          have c1 : IntKind.wrap .i64 ((j : Int) - 1) = ((j - 1 : Nat) : Int) := by rw [wrap64 (by omega)]; omega
          have hj0 : (0 : Int) < (j : Int) := by omega
          by_cases hlt : (rw' s (j - 1)).1 < (rw' s j).1
          · have hb : rowB s j = true := by simp [rowB, b1, b2, hlt]
            have hnle : ¬ ((rw' s j).1 ≤ (rw' s (j - 1)).1) := by omega
            simp [b573_1, h3, h0, hjj, SlR.lenV h, ha, hr1, hr2, e1, e2, in304, b1, b2, h0j, c1, ha', hr1', hnle, skip, e4]
            exact upto_succ hp hb
          · have hb : rowB s j = false := by simp [rowB, hlt]; intro _ _; omega
            have hle : (rw' s j).1 ≤ (rw' s (j - 1)).1 := by omega
            simp [b573_1, h3, h0, hjj, SlR.lenV h, ha, hr1, hr2, e1, e2, in304, b1, b2, h0j, c1, ha', hr1', hle, skip, rowsB, allN_false hj hb]
  · rintro e h3 ⟨h0, hp⟩
    simp [b573_1, h3, h0, SlR.lenV h, rowsB, allN_true hp]
theorem call572 {pu : Bool} {H : Heap} {n : Int} : Call tab pu 572 [.int .i64 n] H = some (.bool (in1 n (-12) 12), H) := by
  refine Call_wp t572 (.inr rfl) rfl ?_
  simp [c572, k572, in304]
theorem call524 {pu : Bool} {H : Heap} {q off ver : Nat} {y : Value} {s : Sted} {i : Nat} (hrd : rd H q off ver 5 = some (stC s y)) (h : Rw H y s) (hw : StW s) (hn : s.rows.length ≤ 1000000) (hi : i ≤ 1000000) : Call tab pu 524 [adr q off ver, .int .i64 i] H = some (.bool (okSt s i), H) := by
  refine Call_wp t524 (.inr rfl) rfl ?_
  have hrows := call573 (pu := true) h hw hn
  obtain ⟨wa, wb, wc, wd, _⟩ := hw
  have d0 := rd_part hrd (o := 0) (m := 1) (by omega)
  have d1 := rd_part hrd (o := 1) (m := 1) (by omega)
  have d2 := rd_part hrd (o := 2) (m := 1) (by omega)
  have d3 := rd_part hrd (o := 3) (m := 1) (by omega)
  have d4 := rd_part hrd (o := 4) (m := 1) (by omega)
  simp [stC] at d0 d1 d2 d3 d4
  have ea : IntKind.wrap .i64 s.a = s.a := wrap64 (by omega)
  have eb : IntKind.wrap .i64 s.b = s.b := wrap64 (by omega)
  have ec : IntKind.wrap .i64 s.c = s.c := wrap64 (by omega)
  have ed : IntKind.wrap .i64 s.d = s.d := wrap64 (by omega)
  have ei : IntKind.wrap .i64 ((i : Int) - 1) = (i : Int) - 1 := wrap64 (by omega)
  have h309 : ∀ (pu : Bool) (G : Heap) (n : Int), Call tab pu 309 [.int .i64 n] G = some (.bool (in1 n 0 2), G) := fun pu G n => call309
  cases hr : rowsB s with
  | false =>
    have hok : okSt s i = false := by simp [okSt, hr]
    cases b1 : in1 s.a 0 2 <;> cases b2 : in1 s.c (-12) 12 <;> cases b3 : in1 s.d (-12) 12 <;>
      simp [c524, k524, d0, d1, d2, d3, d4, ea, ec, ed, h309, b1, call572, b2, b3, hrows, hr, hok, skip]
  | true =>
    have hok : okSt s i = kindB s i := by simp [okSt, hr]
    cases b1 : in1 s.a 0 2 with
    | false =>
      have a0 : (s.a == 0) = false := by simp [in1] at b1; simp; omega
      have a1 : (s.a == 1) = false := by simp [in1] at b1; simp; omega
      have a2 : (s.a == 2) = false := by simp [in1] at b1; simp; omega
      have hk : kindB s i = false := by simp [kindB, a0, a1, a2]
      simp [c524, k524, d0, d1, d2, d3, d4, ea, ec, ed, h309, b1, hok, hk, skip]
    | true =>
      cases b2 : in1 s.c (-12) 12 with
      | false =>
        have c0 : (s.c == 0) = false := by simp [in1] at b2; simp; omega
        have hk : kindB s i = false := by
          cases a0 : (s.a == 0) <;> cases a1 : (s.a == 1) <;> cases a2 : (s.a == 2) <;> simp [kindB, stillB, a0, a1, a2, c0, b2]
        simp [c524, k524, d0, d1, d2, d3, d4, ea, ec, ed, h309, b1, call572, b2, hok, hk, skip]
      | true =>
        cases b3 : in1 s.d (-12) 12 with
        | false =>
          have c0 : (s.d == 0) = false := by simp [in1] at b3; simp; omega
          have hk : kindB s i = false := by
            cases a0 : (s.a == 0) <;> cases a1 : (s.a == 1) <;> cases a2 : (s.a == 2) <;> simp [kindB, stillB, a0, a1, a2, c0, b3]
          simp [c524, k524, d0, d1, d2, d3, d4, ea, ec, ed, h309, b1, call572, b2, b3, hok, hk, skip]
        | true =>
          have a012 : (s.a == 0) = false → (s.a == 1) = false → (s.a == 2) = true := fun h1 h2 => by simp [in1] at b1 h1 h2 ⊢; omega
          cases a0 : (s.a == 0)
          · cases a1 : (s.a == 1)
            · have a2 := a012 a0 a1
              cases c0 : (s.c == 0) <;> cases e0 : (s.d == 0) <;> cases b5 : in1 s.b 0 ((i : Int) - 1) <;>
                simp [c524, k524, d0, d1, d2, d3, d4, ea, eb, ec, ed, ei, h309, b1, call572, b2, b3, hrows, hr, hok, skip, a0, a1, a2, c0, e0, in304, b5, kindB, stillB]
            · cases c0 : (s.c == 0) <;> cases e0 : (s.d == 0) <;> cases b5 : in1 s.b 0 ((i : Int) - 1) <;>
                simp [c524, k524, d0, d1, d2, d3, d4, ea, eb, ec, ed, ei, h309, b1, call572, b2, b3, hrows, hr, hok, skip, a0, a1, c0, e0, in304, b5, kindB, stillB]
          · cases c0 : (s.c == 0) <;> cases e0 : (s.d == 0) <;> cases b0 : (s.b == 0) <;>
              simp [c524, k524, d0, d1, d2, d3, d4, ea, eb, ec, ed, ei, h309, b1, call572, b2, b3, hrows, hr, hok, skip, a0, c0, e0, b0, kindB, stillB]
structure StsW (l : List Sted) : Prop where
  w : ∀ s ∈ l, StW s
  n : l.length ≤ 1000000
  r : ∀ s ∈ l, s.rows.length ≤ 1000000
theorem call386 {pu : Bool} {H : Heap} {x : Value} {l : List Sted} (h : StS H x l) (hw : StsW l) : Call tab pu 386 [x] H = some (.bool (okSts l), H) := by
  refine Call_wp t386 (.inr rfl) rfl ?_
  have hn := hw.n
  simp [c386, k386]
  refine WP_forH 3 l.length _ rfl (by omega) (fun i e => e 0 = x ∧ ∀ j, j < i → okSt (at0 l j) j = true) ?_ ?_ (by simp) (by simp)
  · rintro i e hi hii e4 h3 ⟨h0, hp⟩
    obtain ⟨q, off, ver, y, ha, hrd, hrw⟩ := h.get hi
    have hc := call524 (pu := true) (i := i) hrd hrw (hw.w _ (at0_mem hi)) (hw.r _ (at0_mem hi)) (by omega)
    cases hk : okSt (at0 l i) i with
    | true =>
      rw [hk] at hc
      simp [b386_1, h3, h0, hii, h.lenV, ha, hc, e4]
      exact upto_succ hp hk
    | false =>
      rw [hk] at hc
      simp [b386_1, h3, h0, hii, h.lenV, ha, hc, okSts, allN_false (p := fun i => okSt (at0 l i) i) hi hk]
  · rintro e h3 ⟨h0, hp⟩
    have e1 : decide ((l.length : Int) ≤ 40) = decide (l.length ≤ 40) := by apply decide_eq_decide.2; omega
    simp [b386_1, h3, h0, h.lenV, okSts, allN_true (p := fun i => okSt (at0 l i) i) hp, e1]
theorem call387 {pu : Bool} {H : Heap} {y : Value} {s : Sted} {i : Nat} (h : Rw H y s) (hw : StW s) (hn : s.rows.length ≤ 1000000) (hi : i ≤ 1000000) : Call tab pu 387 [agg (stC s y), .int .i64 i] H = some (.bool (okSt s i), H) := by
  refine Call_wp t387 (.inr rfl) rfl ?_
  have hst : stC s y = [.int .i8 s.a, .int .i8 s.b, .int .i8 s.c, .int .i8 s.d, y] := rfl
  simp [c387, k387, hst, ldc5e, SlR.lenV h]
  refine WP_forH 12 s.rows.length _ rfl (by omega) (fun j e => e 1 = .int .i64 i ∧ e 2 = agg [.int .i8 s.a, .int .i8 s.b, .int .i8 s.c, .int .i8 s.d, y] ∧ e 10 = y ∧ e 11 = .int .i64 s.rows.length ∧ ∀ i, i < j → rowB s i = true) ?_ ?_ (by simp) (by simp)
  · rintro j e hj hjj e4 h12 ⟨h1, h2, h10, h11, hp⟩
    obtain ⟨q, off, ver, ha, hr, hr1, hr2⟩ := Rw.at h hj
    obtain ⟨w1, w2⟩ := hw.row hj
    have e1 : IntKind.wrap .i64 (rw' s j).1 = (rw' s j).1 := wrap64 (by omega)
    have e2 : IntKind.wrap .i64 (rw' s j).2 = (rw' s j).2 := wrap64 (by omega)
    cases b1 : in1 (rw' s j).1 0 11 with
    | false =>
      have hb : rowB s j = false := by simp [rowB, b1]
      simp [b387_1, h12, h1, h2, h10, h11, hjj, ha, hr, stc2c, ldc2, ldc2b, e1, in295, b1, skip, okSt, rowsB, allN_false hj hb]
    | true =>
      cases b2 : in1 (rw' s j).2 1 4095 with
      | false =>
        have hb : rowB s j = false := by simp [rowB, b2]
        simp [b387_1, h12, h1, h2, h10, h11, hjj, ha, hr, stc2c, ldc2, ldc2b, e1, e2, in295, b1, b2, skip, okSt, rowsB, allN_false hj hb]
      | true =>
        rcases Nat.eq_zero_or_pos j with h0j | h0j
        · subst h0j
          have hb : rowB s 0 = true := by simp [rowB, b1, b2]
          have ha' : idxAV 2 y (.int .i64 0) = some (adr q off ver) := ha
          have h3' : e 12 = .int .i64 0 := h12
          have e4' : IntKind.wrap .i64 (0 + 1) = 1 := by decide
          simp [b387_1, h3', h1, h2, h10, h11, hj, ha', hr, stc2c, ldc2, ldc2b, e1, e2, in295, b1, b2, skip, e4']
          exact hb
        · obtain ⟨q', off', ver', ha', hr', hr1', hr2'⟩ := Rw.at h (j := j - 1) (by omega)
          have c1 : IntKind.wrap .i64 ((j : Int) - 1) = ((j - 1 : Nat) : Int) := by rw [wrap64 (by omega)]; omega
          by_cases hlt : (rw' s (j - 1)).1 < (rw' s j).1
          · have hb : rowB s j = true := by simp [rowB, b1, b2, hlt]
            have hnle : ¬ ((rw' s j).1 ≤ (rw' s (j - 1)).1) := by omega
            simp [b387_1, h12, h1, h2, h10, h11, hjj, ha, hr, stc2c, ldc2, ldc2b, ldc5e, e1, e2, in295, b1, b2, h0j, c1, ha', hr1', hnle, skip, e4]
            exact upto_succ hp hb
          · have hb : rowB s j = false := by simp [rowB, hlt]; intro _ _; omega
            have hle : (rw' s j).1 ≤ (rw' s (j - 1)).1 := by omega
            simp [b387_1, h12, h1, h2, h10, h11, hjj, ha, hr, stc2c, ldc2, ldc2b, ldc5e, e1, e2, in295, b1, b2, h0j, c1, ha', hr1', hle, skip, okSt, rowsB, allN_false hj hb]
  · rintro e h12 ⟨h1, h2, h10, h11, hp⟩
    have hr : rowsB s = true := allN_true hp
    have hok : okSt s i = kindB s i := by simp [okSt, hr]
    obtain ⟨wa, wb, wc, wd, _⟩ := hw
    have eb : IntKind.wrap .i64 s.b = s.b := wrap64 (by omega)
    have ec : IntKind.wrap .i64 s.c = s.c := wrap64 (by omega)
    have ed : IntKind.wrap .i64 s.d = s.d := wrap64 (by omega)
    have ei : IntKind.wrap .i64 ((i : Int) - 1) = (i : Int) - 1 := wrap64 (by omega)
    have e11 : e 12 = .int .i64 s.rows.length := h12
    simp only [b387_1]
    cases a0 : (s.a == 0)
    · cases a1 : (s.a == 1)
      · cases a2 : (s.a == 2)
        · cases c0 : (s.c == 0) <;> cases e0 : (s.d == 0) <;>
            simp [e11, h1, h2, h11, ldc5a, ldc5b, ldc5c, ldc5d, eb, ec, ed, ei, hok, skip, a0, a1, a2, c0, e0, in295, kindB, stillB]
        · cases c0 : (s.c == 0) <;> cases e0 : (s.d == 0) <;> cases b5 : in1 s.b 0 ((i : Int) - 1) <;> cases b2 : in1 s.c (-12) 12 <;> cases b3 : in1 s.d (-12) 12 <;>
            simp [e11, h1, h2, h11, ldc5a, ldc5b, ldc5c, ldc5d, eb, ec, ed, ei, hok, skip, a0, a1, a2, c0, e0, b5, b2, b3, in295, kindB, stillB]
      · cases c0 : (s.c == 0) <;> cases e0 : (s.d == 0) <;> cases b5 : in1 s.b 0 ((i : Int) - 1) <;>
          simp [e11, h1, h2, h11, ldc5a, ldc5b, ldc5c, ldc5d, eb, ec, ed, ei, hok, skip, a0, a1, c0, e0, b5, in295, kindB, stillB]
    · cases c0 : (s.c == 0) <;> cases e0 : (s.d == 0) <;> cases b0 : (s.b == 0) <;>
        simp [e11, h1, h2, h11, ldc5a, ldc5b, ldc5c, ldc5d, eb, ec, ed, ei, hok, skip, a0, c0, e0, b0, in295, kindB, stillB]
theorem call163 {pu : Bool} {H : Heap} {x : Value} {l : List Sted} (h : StS H x l) (hw : StsW l) : Call tab pu 163 [x] H = some (.bool (okSts l), H) := by
  refine Call_wp t163 (.inr rfl) rfl ?_
  have hn := hw.n
  simp [c163, k163, h.lenV]
  refine WP_forH 7 l.length _ rfl (by omega) (fun i e => e 0 = x ∧ e 5 = x ∧ e 6 = .int .i64 l.length ∧ ∀ j, j < i → okSt (at0 l j) j = true) ?_ ?_ (by simp) (by simp)
  · rintro i e hi hii e4 h7 ⟨h0, h5, h6, hp⟩
    obtain ⟨q, off, ver, y, ha, hrd, hrw⟩ := h.get hi
    have hc := call387 (pu := true) (i := i) hrw (hw.w _ (at0_mem hi)) (hw.r _ (at0_mem hi)) (by omega)
    have hst : ∀ s y, stC s y = [.int .i8 s.a, .int .i8 s.b, .int .i8 s.c, .int .i8 s.d, y] := fun _ _ => rfl
    rw [hst] at hc hrd
    cases hk : okSt (at0 l i) i with
    | true =>
      rw [hk] at hc
      simp [b163_1, h7, h0, h5, h6, hii, ha, hrd, stc5, ldc5, hc, e4]
      exact upto_succ hp hk
    | false =>
      rw [hk] at hc
      simp [b163_1, h7, h0, h5, h6, hii, ha, hrd, stc5, ldc5, hc, okSts, allN_false (p := fun i => okSt (at0 l i) i) hi hk]
  · rintro e h7 ⟨h0, h5, h6, hp⟩
    have e1 : decide ((l.length : Int) ≤ 40) = decide (l.length ≤ 40) := by apply decide_eq_decide.2; omega
    simp [b163_1, h7, h0, h6, h.lenV, okSts, allN_true (p := fun i => okSt (at0 l i) i) hp, e1]
/-- Steps as an argument: their lengths are not bounded yet. -/
structure StsA (l : List Sted) : Prop where
  w : ∀ s ∈ l, StW s
  n : l.length ≤ 9223372036854775807
  r : ∀ s ∈ l, s.rows.length ≤ 9223372036854775807
theorem okSt_a {s : Sted} {i : Nat} (h : okSt s i = true) : 0 ≤ s.a ∧ s.a ≤ 2 := by
  simp only [okSt, kindB, Bool.and_eq_true] at h
  obtain ⟨_, h⟩ := h
  by_cases h0 : (s.a == 0) = true
  · simp at h0; omega
  · rw [if_neg h0] at h
    by_cases h1 : (s.a == 1) = true
    · simp at h1; omega
    · rw [if_neg h1] at h
      by_cases h2 : (s.a == 2) = true
      · simp at h2; omega
      · rw [if_neg h2] at h; cases h
theorem okSt_b {s : Sted} {i : Nat} (h : okSt s i = true) (ha : s.a ≠ 0) : 0 ≤ s.b ∧ s.b < i := by
  simp only [okSt, kindB, Bool.and_eq_true] at h
  obtain ⟨_, h⟩ := h
  rw [if_neg (by simpa using ha)] at h
  by_cases h1 : (s.a == 1) = true
  · rw [if_pos h1] at h; simp [in1] at h; omega
  · rw [if_neg h1] at h
    by_cases h2 : (s.a == 2) = true
    · rw [if_pos h2] at h; simp [in1] at h; omega
    · rw [if_neg h2] at h; cases h
theorem okSts_get {l : List Sted} (h : okSts l = true) {i : Nat} (hi : i < l.length) : okSt (at0 l i) i = true := by
  simp only [okSts, Bool.and_eq_true] at h
  exact allN_get (p := fun i => okSt (at0 l i) i) h.1 hi
theorem okSts_len {l : List Sted} (h : okSts l = true) : l.length ≤ 40 := by
  simp only [okSts, Bool.and_eq_true, decide_eq_true_eq] at h
  exact h.2
theorem idxAV_k {esz : Nat} {x : Value} {k k' : IntKind} {i : Int} : idxAV esz x (.int k i) = idxAV esz x (.int k' i) := rfl
theorem bne_T {a b : Int} (h : (a == b) = false) : (a != b) = true := by rw [bne, h]; rfl
theorem bne_F {a b : Int} (h : (a == b) = true) : (a != b) = false := by rw [bne, h]; rfl
/-- A copy of steps while marks are being written over it. -/
structure MkI (G G' : Heap) (b ver lo hi n : Nat) (y : Nat → Value) (m : Nat → Nat) : Prop where
  len : G'.length = G.length
  fr : ∀ j, j < lo ∨ hi ≤ j → G'[j]? = G[j]?
  inb : lo ≤ b ∧ b < hi
  out : ∃ vs, G'[b]? = some ⟨vs, 5, ver, false⟩ ∧ n * 5 ≤ vs.length ∧ ∀ i, i < n → vs[i * 5 + 4]? = some (y i)
  row : ∀ i, i < n → ∃ b' ver' cap' ws, y i = slc b' 0 ver' (m i) cap' ∧ lo ≤ b' ∧ b' < hi ∧ b' ≠ b ∧ G'[b']? = some ⟨ws, 2, ver', false⟩ ∧ m i * 2 ≤ ws.length
theorem MkI.rows {G G' : Heap} {b ver lo hi n : Nat} {y : Nat → Value} {m : Nat → Nat} (h : MkI G G' b ver lo hi n y m) {b' ver' : Nat} {ws ws' : List Value} (hb : lo ≤ b' ∧ b' < hi) (hne : b' ≠ b) (hg : G'[b']? = some ⟨ws, 2, ver', false⟩) (hw : ws'.length = ws.length) :
    MkI G (G'.set b' ⟨ws', 2, ver', false⟩) b ver lo hi n y m := by
  refine ⟨by simp [h.len], fun j hj => ?_, h.inb, ?_, fun i hi => ?_⟩
  · rw [List.getElem?_set_ne (by omega)]
    exact h.fr j hj
  · obtain ⟨vs, h1, h2⟩ := h.out
    exact ⟨vs, by rw [List.getElem?_set_ne hne]; exact h1, h2⟩
  · obtain ⟨b2, ver2, cap2, ws2, h1, h2, h3, h4, h5, h6⟩ := h.row i hi
    by_cases hb2 : b' = b2
    · subst hb2
      rw [hg] at h5
      cases h5
      exact ⟨b', ver', cap2, ws', h1, h2, h3, h4, get_set hg, by rw [hw]; exact h6⟩
    · exact ⟨b2, ver2, cap2, ws2, h1, h2, h3, h4, by rw [List.getElem?_set_ne hb2]; exact h5, h6⟩
theorem depB {l : List Sted} (hk : okSts l = true) {i : Nat} (hi : i < l.length) (ha : ((at0 l i).a == 0) = false) : ∃ m : Nat, (at0 l i).b = m ∧ m < i := by
  have hb := okSt_b (okSts_get hk hi) (by simpa using ha)
  exact ⟨(at0 l i).b.toNat, by omega, by omega⟩
/-- A row from its bits. -/
def rowN (q : Nat → Bool) (m : Nat) : Nat := itN (fun i v => v ||| if q i = true then 2 ^ i else 0) 0 m
theorem rowN_succ {q : Nat → Bool} {m : Nat} : rowN q (m + 1) = rowN q m ||| if q m = true then 2 ^ m else 0 := itN_succ
theorem rowN_bit {q : Nat → Bool} {m x : Nat} : (rowN q m).testBit x = (decide (x < m) && q x) := by
  induction m with
  | zero => simp [rowN, itN_zero]
  | succ m ih =>
    rw [rowN_succ, Nat.testBit_or, ih]
    by_cases h : x = m
    · subst h
      cases hq : q x <;> simp
    · have h2 : decide (x < m + 1) = decide (x < m) := by apply decide_eq_decide.2; omega
      rw [h2]
      cases hq : q m
      · simp
      · simp [Nat.testBit_two_pow]; omega
theorem rowN_lt {q : Nat → Bool} {m : Nat} : rowN q m < 2 ^ m := by
  apply Nat.lt_pow_two_of_testBit
  intro i hi
  rw [rowN_bit]
  simp; omega
theorem rowN_eq {q : Nat → Bool} {n m : Nat} (hn : n < 2 ^ m) (h : ∀ x, x < m → n.testBit x = q x) : n = rowN q m := by
  apply Nat.eq_of_testBit_eq
  intro x
  rw [rowN_bit]
  by_cases hx : x < m
  · rw [h x hx]; simp [hx]
  · simp [hx]
    exact Nat.testBit_lt_two_pow (Nat.lt_of_lt_of_le hn (Nat.pow_le_pow_right (by omega) (by omega)))
/-- A frame from its dots. -/
def dotsF (p : Nat → Nat → Bool) : List Int := tabN 12 fun y => ((rowN (fun x => p x y) 12 : Nat) : Int)
theorem dotsF_length {p : Nat → Nat → Bool} : (dotsF p).length = 12 := by simp [dotsF, tabN]
theorem dotsF_nth {p : Nat → Nat → Bool} {y : Nat} (hy : y < 12) : nth (dotsF p) y = ((rowN (fun x => p x y) 12 : Nat) : Int) := nth_tabN hy
theorem dotsF_W {p : Nat → Nat → Bool} : FrW (dotsF p) := ⟨dotsF_length, fun n hn => by
  obtain ⟨i, hi, rfl⟩ := List.getElem_of_mem hn
  rw [dotsF_length] at hi
  have h1 := dotsF_nth (p := p) hi
  have h2 := rowN_lt (q := fun x => p x i) (m := 12)
  rw [nth_of (List.getElem?_eq_getElem (by rw [dotsF_length]; exact hi))] at h1
  rw [h1]; simp only [u16']; omega⟩
theorem dotsF_ok {p : Nat → Nat → Bool} : okF (dotsF p) = true := by
  apply List.all_eq_true.2
  intro n hn
  obtain ⟨i, hi, rfl⟩ := List.getElem_of_mem hn
  rw [dotsF_length] at hi
  have h1 := dotsF_nth (p := p) hi
  have h2 := rowN_lt (q := fun x => p x i) (m := 12)
  rw [nth_of (List.getElem?_eq_getElem (by rw [dotsF_length]; exact hi))] at h1
  rw [h1]; simp only [okRow, decide_eq_true_eq]; omega
theorem list12 {f g : List Int} (hf : f.length = 12) (hg : g.length = 12) (h : ∀ y, y < 12 → nth f y = nth g y) : f = g := by
  apply List.ext_getElem (by omega)
  intro i h1 h2
  have := h i (by omega)
  rw [nth_of (List.getElem?_eq_getElem h1), nth_of (List.getElem?_eq_getElem h2)] at this
  exact this
theorem dotsF_congr {p q : Nat → Nat → Bool} (h : ∀ x y, x < 12 → y < 12 → p x y = q x y) : dotsF p = dotsF q := by
  refine list12 dotsF_length dotsF_length fun y hy => ?_
  rw [dotsF_nth hy, dotsF_nth hy]
  congr 1
  apply rowN_eq rowN_lt
  intro x hx
  rw [rowN_bit]; simp [hx, h x y hx hy]
theorem dotsF_none : dotsF (fun _ _ => false) = zr 12 0 := by
  refine list12 dotsF_length (by simp) fun y hy => ?_
  rw [dotsF_nth hy, nth_zr]
  have : rowN (fun _ => false) 12 = 0 := (rowN_eq (by decide) fun x hx => by simp).symm
  simp [this]
theorem bit_nat {x : Nat} : bit x = ((2 ^ x : Nat) : Int) := by simp [bit]
theorem or_nat {a b : Nat} (ha : a < 65536) (hb : b < 65536) : bitsOf .or .u16 (a : Int) (b : Int) = ((a ||| b : Nat) : Int) := by
  have e0 : IntKind.bits .u16 = 16 := rfl
  unfold bitsOf
  simp only []
  have hl : a ||| b < 2 ^ 16 := Nat.or_lt_two_pow ha hb
  have e1 : (BitVec.ofInt (IntKind.bits .u16) (a : Int) ||| BitVec.ofInt (IntKind.bits .u16) (b : Int)).toNat = a ||| b := by
    rw [BitVec.toNat_or, e0, BitVec.ofInt_natCast, BitVec.ofInt_natCast, BitVec.toNat_ofNat, BitVec.toNat_ofNat, Nat.mod_eq_of_lt (by omega), Nat.mod_eq_of_lt (by omega)]
  rw [e1, wrapu16 (by omega)]
theorem putF_dots {p : Nat → Nat → Bool} {x y : Nat} (hx : x < 12) (hy : y < 12) : putF (dotsF p) x y = dotsF fun x' y' => p x' y' || (decide (x' = x) && decide (y' = y)) := by
  refine list12 (by rw [putF_length, dotsF_length]) dotsF_length fun j hj => ?_
  rw [dotsF_nth hj, putF, nth_set (by rw [dotsF_length]; exact hy)]
  have hlt := rowN_lt (q := fun x => p x y) (m := 12)
  have h2 : 2 ^ x < 2 ^ 12 := Nat.pow_lt_pow_right (by omega) hx
  by_cases h : y = j
  · subst h
    rw [if_pos rfl, dotsF_nth hj, putR, bit_nat, or_nat (by omega) (by omega)]
    congr 1
    apply rowN_eq (Nat.or_lt_two_pow hlt h2)
    intro x' hx'
    rw [Nat.testBit_or, rowN_bit, Nat.testBit_two_pow]
    simp only [hx', decide_true, Bool.true_and, Bool.and_true]
    congr 1
    apply decide_eq_decide.2
    omega
  · rw [if_neg h, dotsF_nth hj]
    congr 1
    apply rowN_eq rowN_lt
    intro x' hx'
    have h3 : ¬ j = y := fun h2 => h h2.symm
    rw [rowN_bit]
    simp [hx', h3]
/-- The dots of a frame that has been moved. -/
def mvP (f : List Int) (dx dy : Int) (x y : Nat) : Bool := decide (0 ≤ (x : Int) - dx ∧ (x : Int) - dx < 12 ∧ 0 ≤ (y : Int) - dy ∧ (y : Int) - dy < 12) && hasF f ((x : Int) - dx).toNat ((y : Int) - dy).toNat
def shF (f : List Int) (dx dy : Int) : List Int := dotsF (mvP f dx dy)
/-- One dot put at its new place, if that is one. -/
def mv1 (dx dy : Int) (k : Nat) (s : List Int) : List Int :=
  if 0 ≤ ((k % 12 : Nat) : Int) + dx ∧ ((k % 12 : Nat) : Int) + dx < 12 ∧ 0 ≤ ((k / 12 : Nat) : Int) + dy ∧ ((k / 12 : Nat) : Int) + dy < 12 then putF s (((k % 12 : Nat) : Int) + dx).toNat (((k / 12 : Nat) : Int) + dy).toNat else s
def mvS (dx dy : Int) (L : List Nat) : List Int := L.foldl (fun s k => mv1 dx dy k s) (zr 12 0)
theorem mvS_snoc {dx dy : Int} {L : List Nat} {k : Nat} : mvS dx dy (L ++ [k]) = mv1 dx dy k (mvS dx dy L) := by simp [mvS]
theorem mvS_dots {dx dy : Int} {L : List Nat} : mvS dx dy L = dotsF fun x y => decide (∃ k ∈ L, ((k % 12 : Nat) : Int) + dx = x ∧ ((k / 12 : Nat) : Int) + dy = y) := by
  suffices h : ∀ n, ∀ L : List Nat, L.length = n → mvS dx dy L = dotsF fun x y => decide (∃ k ∈ L, ((k % 12 : Nat) : Int) + dx = x ∧ ((k / 12 : Nat) : Int) + dy = y) from h _ L rfl
  intro n
  induction n with
  | zero =>
    intro L hL
    obtain rfl := List.length_eq_zero_iff.1 hL
    rw [show mvS dx dy [] = zr 12 0 from rfl, ← dotsF_none]
    apply dotsF_congr
    intro x y _ _
    simp
  | succ n ih =>
    intro L hL
    obtain ⟨L', k, rfl⟩ : ∃ L' k, L = L' ++ [k] := by
      refine ⟨L.dropLast, L.getLast (by intro h; rw [h] at hL; cases hL), (List.dropLast_concat_getLast _).symm⟩
    rw [mvS_snoc, ih L' (by simpa using hL), mv1]
    split
    · rename_i h
      rw [putF_dots (by omega) (by omega)]
      apply dotsF_congr
      intro x y hx hy
      rw [Bool.eq_iff_iff]
      simp only [Bool.or_eq_true, Bool.and_eq_true, decide_eq_true_eq, List.mem_append, List.mem_singleton]
      constructor
      · rintro (⟨j, h1, h2⟩ | ⟨h1, h2⟩)
        · exact ⟨j, .inl h1, h2⟩
        · exact ⟨k, .inr rfl, by omega, by omega⟩
      · rintro ⟨j, h1 | rfl, h2, h3⟩
        · exact .inl ⟨j, h1, h2, h3⟩
        · exact .inr ⟨by omega, by omega⟩
    · rename_i h
      apply dotsF_congr
      intro x y hx hy
      rw [Bool.eq_iff_iff]
      simp only [decide_eq_true_eq, List.mem_append, List.mem_singleton]
      constructor
      · rintro ⟨j, h1, h2⟩
        exact ⟨j, .inl h1, h2⟩
      · rintro ⟨j, h1 | rfl, h2, h3⟩
        · exact ⟨j, h1, h2, h3⟩
        · exact absurd ⟨by omega, by omega, by omega, by omega⟩ h
theorem mvS_all {f : List Int} {dx dy : Int} : mvS dx dy (dotL f 144) = shF f dx dy := by
  rw [mvS_dots]
  apply dotsF_congr
  intro x y hx hy
  rw [Bool.eq_iff_iff]
  simp only [mvP, Bool.and_eq_true, decide_eq_true_eq]
  simp only [dotL, List.mem_filter, List.mem_range]
  constructor
  · rintro ⟨k, ⟨h1, h2⟩, h3, h4⟩
    have e1 : ((x : Int) - dx).toNat = k % 12 := by omega
    have e2 : ((y : Int) - dy).toNat = k / 12 := by omega
    refine ⟨by omega, ?_⟩
    rw [e1, e2]; exact h2
  · rintro ⟨h1, h2⟩
    refine ⟨((y : Int) - dy).toNat * 12 + ((x : Int) - dx).toNat, ⟨by omega, ?_⟩, by omega, by omega⟩
    rw [hasK_yx (by omega)]; exact h2
/- The rows, moved at once. -/
theorem and_4095 {n : Nat} (h : n ≤ 65535) : bitsOf .and .u16 (n : Int) 4095 = ((n % 4096 : Nat) : Int) := by
  have e0 : IntKind.bits .u16 = 16 := rfl
  unfold bitsOf
  simp only []
  have e1 : (BitVec.ofInt (IntKind.bits .u16) (n : Int) &&& BitVec.ofInt (IntKind.bits .u16) 4095).toNat = n % 4096 := by
    have e2 : n % 2 ^ 16 = n := Nat.mod_eq_of_lt (by omega)
    rw [BitVec.toNat_and, e0, BitVec.ofInt_natCast, BitVec.toNat_ofNat, show (BitVec.ofInt 16 4095).toNat = 2 ^ 12 - 1 from rfl, e2, Nat.and_two_pow_sub_one_eq_mod]
  rw [e1, wrapu16 (by omega)]
theorem shl_nat {n d : Nat} (hd : d ≤ 12) : shiftOf .shl .u16 (n : Int) (d : Int) = some (.int .u16 ((n * 2 ^ d % 65536 : Nat) : Int)) := by
  unfold shiftOf
  rw [if_neg (by omega)]
  have e1 : min ((d : Int).toNat) (IntKind.bits .u16) = d := by
    have : IntKind.bits .u16 = 16 := rfl
    omega
  simp only [e1]
  have e2 : (n : Int) * 2 ^ d = ((n * 2 ^ d : Nat) : Int) := by simp
  rw [e2]
  show some (Value.int .u16 (((n * 2 ^ d : Nat) : Int) % 65536)) = _
  congr 2
theorem shr_nat {n d : Nat} (hd : d ≤ 12) : shiftOf .shr .u16 (n : Int) (d : Int) = some (.int .u16 ((n / 2 ^ d : Nat) : Int)) := by
  unfold shiftOf
  rw [if_neg (by omega)]
  have e1 : min ((d : Int).toNat) (IntKind.bits .u16) = d := by
    have : IntKind.bits .u16 = 16 := rfl
    omega
  simp only [e1]
  have e2 : (2 : Int) ^ d = ((2 ^ d : Nat) : Int) := by simp
  rw [e2, Int.fdiv_eq_ediv_of_nonneg _ (Int.natCast_nonneg _), ← Int.natCast_ediv]
/-- One row of a frame that has been moved. -/
def mvR (f : List Int) (dx dy : Int) (y : Nat) : Int := nth (shF f dx dy) y
theorem mvR_shl {f : List Int} {d y n : Nat} {dy : Int} (hy : y < 12) (hsy : 0 ≤ (y : Int) - dy ∧ (y : Int) - dy < 12) (hn : nth f ((y : Int) - dy).toNat = n) : mvR f d dy y = ((n * 2 ^ d % 4096 : Nat) : Int) := by
  rw [mvR, shF, dotsF_nth hy]
  congr 1
  refine (rowN_eq (m := 12) (Nat.mod_lt _ (by decide)) fun x hx => ?_).symm
  rw [Nat.testBit_mod_two_pow, Nat.testBit_mul_two_pow]
  rw [Bool.eq_iff_iff]
  simp only [mvP, hasF, hn, dotB_bit, Bool.and_eq_true, decide_eq_true_eq]
  constructor
  · rintro ⟨_, h1, h2⟩
    refine ⟨by omega, ?_⟩
    rw [show ((x : Int) - d).toNat = x - d by omega]; exact h2
  · rintro ⟨h1, h2⟩
    refine ⟨hx, by omega, ?_⟩
    rw [show ((x : Int) - d).toNat = x - d by omega] at h2; exact h2
theorem mvR_shr {f : List Int} {d y n : Nat} {dy : Int} (hy : y < 12) (hsy : 0 ≤ (y : Int) - dy ∧ (y : Int) - dy < 12) (hn : nth f ((y : Int) - dy).toNat = n) (hlt : n < 4096) : mvR f (-(d : Int)) dy y = ((n / 2 ^ d : Nat) : Int) := by
  rw [mvR, shF, dotsF_nth hy]
  congr 1
  refine (rowN_eq (m := 12) (Nat.lt_of_le_of_lt (Nat.div_le_self _ _) hlt) fun x hx => ?_).symm
  rw [Nat.testBit_div_two_pow]
  rw [Bool.eq_iff_iff]
  simp only [mvP, hasF, hn, dotB_bit, Bool.and_eq_true, decide_eq_true_eq]
  have e1 : ((x : Int) - -(d : Int)).toNat = x + d := by omega
  rw [e1]
  constructor
  · intro h2
    refine ⟨?_, h2⟩
    have : ¬ (12 ≤ x + d) := fun h => by
      have := Nat.testBit_lt_two_pow (x := n) (i := x + d) (Nat.lt_of_lt_of_le hlt (Nat.pow_le_pow_right (n := 2) (by omega) h))
      rw [this] at h2; cases h2
    omega
  · rintro ⟨_, h2⟩
    exact h2
theorem mvR_off {f : List Int} {dx dy : Int} {y : Nat} (hy : y < 12) (h : ¬ (0 ≤ (y : Int) - dy ∧ (y : Int) - dy < 12)) : mvR f dx dy y = 0 := by
  rw [mvR, shF, dotsF_nth hy]
  have : rowN (fun x => mvP f dx dy x y) 12 = 0 := (rowN_eq (by decide) fun x hx => by
    simp only [mvP]
    rw [decide_eq_false (by omega)]; simp).symm
  rw [this]; rfl
theorem shF_far {f : List Int} {dx dy : Int} (h : ¬ (-12 ≤ dx ∧ dx ≤ 12)) : shF f dx dy = zr 12 0 := by
  rw [← dotsF_none]
  apply dotsF_congr
  intro x y hx hy
  simp only [mvP]
  rw [decide_eq_false (by omega)]; simp
/-- A moved frame, made so far. -/
def shU (f : List Int) (dx dy : Int) (k : Nat) : List Int := tabN 12 fun y => if y < k then mvR f dx dy y else 0
theorem shU_zero {f : List Int} {dx dy : Int} : shU f dx dy 0 = zr 12 0 :=
  (tabN_of (by simp) fun i _ => by rw [nth_zr]; simp).symm
theorem shU_all {f : List Int} {dx dy : Int} : shU f dx dy 12 = shF f dx dy :=
  (tabN_of (by rw [shF, dotsF_length]) fun i hi => by rw [if_pos hi]; rfl).symm
theorem shU_length {f : List Int} {dx dy : Int} {k : Nat} : (shU f dx dy k).length = 12 := tabN_length
theorem shU_set {f : List Int} {dx dy : Int} {k : Nat} (hk : k < 12) {v : Int} (hv : mvR f dx dy k = v) : (shU f dx dy k).set k v = shU f dx dy (k + 1) :=
  tabN_set hk (by rw [if_pos (by omega), hv]) fun i _ hi => by
    by_cases h : i < k
    · rw [if_pos h, if_pos (by omega)]
    · rw [if_neg h, if_neg (by omega)]
theorem shU_skip {f : List Int} {dx dy : Int} {k : Nat} (hk : k < 12) (h0 : mvR f dx dy k = 0) : shU f dx dy k = shU f dx dy (k + 1) :=
  tabN_ext fun i _ => by
    by_cases h : i < k
    · rw [if_pos h, if_pos (by omega)]
    · by_cases h2 : i = k
      · subst h2; rw [if_neg h, if_pos (by omega), h0]
      · rw [if_neg h, if_neg (by omega)]
theorem shF_length {f : List Int} {dx dy : Int} : (shF f dx dy).length = 12 := dotsF_length
theorem call358 {pu : Bool} {H : Heap} {f : List Int} {dx dy : Int} (hw : FrW f) (hk : okF f = true) (hx : -1000 ≤ dx ∧ dx ≤ 1000) (hy : -1000 ≤ dy ∧ dy ≤ 1000) : Call tab pu 358 [iv .u16 f, .int .i64 dx, .int .i64 dy] H = some (iv .u16 (shF f dx dy), H) := by
  refine Call_wp t358 (.inr rfl) rfl ?_
  have hl := hw.len
  have hz := stc_zr (k := .u16) (n := 12) (l := zr 12 0) (by simp)
  have hz2 := stc_zr (k := .u16) (n := 12) (l := shF f dx dy) shF_length
  cases hb : in1 dx (-12) 12 with
  | false =>
    have hf : shF f dx dy = zr 12 0 := shF_far (by simpa [in1] using hb)
    simp [c358, k358, zs_cs, agg_cs, fill, hz, in295, hb, hf]
  | true =>
    have hb' : -12 ≤ dx ∧ dx ≤ 12 := by simpa [in1] using hb
    simp [c358, k358, zs_cs, agg_cs, fill, hz, in295, hb]
    refine WP_forH 15 12 12 rfl (by omega) (fun i e => e 1 = .int .i64 dx ∧ e 2 = .int .i64 dy ∧ e 3 = iv .u16 f ∧ e 6 = iv .u16 (zr 12 0) ∧ e 7 = iv .u16 (shU f dx dy i)) ?_ ?_ (by simp) (by simp [shU_zero])
    · rintro y e hy12 hyy e4 h15 ⟨h1, h2, h3, h6, h7⟩
      have u1 : IntKind.wrap .i64 ((y : Int) - dy) = (y : Int) - dy := wrap64 (by omega)
      cases hs : in1 ((y : Int) - dy) 0 11 with
      | false =>
        have h0 := mvR_off (f := f) (dx := dx) (dy := dy) hy12 (by simp only [in1, decide_eq_false_iff_not] at hs; omega)
        have hsk := shU_skip hy12 h0
        simp [b358_1, h15, h1, h2, h3, h6, h7, hyy, u1, in295, hs, e4, hsk]
      | true =>
        have hs' : 0 ≤ (y : Int) - dy ∧ (y : Int) - dy < 12 := by simp only [in1, decide_eq_true_eq] at hs; omega
        obtain ⟨m, hm⟩ : ∃ m : Nat, (y : Int) - dy = m := ⟨((y : Int) - dy).toNat, by omega⟩
        have hm12 : m < 12 := by omega
        obtain ⟨n, hn, hn4⟩ := okF_row hk hw hm12
        have hn' : nth f ((y : Int) - dy).toNat = n := by rw [hm]; exact hn
        rw [hm] at hs u1
        have hlu := shU_length (f := f) (dx := dx) (dy := dy) (k := y)
        by_cases hd : 0 ≤ dx
        · obtain ⟨d, rfl⟩ := Int.eq_ofNat_of_zero_le hd
          have hd12 : d ≤ 12 := by omega
          have hv := mvR_shl (f := f) (d := d) (dy := dy) hy12 hs' hn'
          have hst := shU_set hy12 hv
          have q1 := shl_nat (n := n) hd12
          have q2 := and_4095 (n := n * 2 ^ d % 65536) (by omega)
          rw [Nat.mod_mod_of_dvd _ (by decide)] at q2
          have e9 := stc_at (k := .u16) (l := shU f d dy y) (by omega) hst
          simp (disch := omega) [b358_1, h15, h1, h2, h3, h6, h7, hyy, u1, hm, in295, hs, hm12, hl, hn, q1, q2, hy12, hlu, e9, e4, -Int.natCast_emod, -Int.natCast_mul, -Int.natCast_pow]
        · obtain ⟨d, rfl⟩ : ∃ d : Nat, dx = -(d : Int) := ⟨(-dx).toNat, by omega⟩
          have hd12 : d ≤ 12 := by omega
          have hv := mvR_shr (f := f) (d := d) (dy := dy) hy12 hs' hn' hn4
          have hst := shU_set hy12 hv
          have q1 := shr_nat (n := n) hd12
          have e9 := stc_at (k := .u16) (l := shU f (-(d : Int)) dy y) (by omega) hst
          have u2 : IntKind.wrap .i64 (d : Int) = (d : Int) := wrap64 (by omega)
          have hd0 : ¬ d = 0 := by omega
          simp (disch := omega) [b358_1, h15, h1, h2, h3, h6, h7, hyy, u1, hm, in295, hs, hm12, hl, hn, hd0, q1, u2, hy12, hlu, e9, e4, -Int.natCast_ediv, -Int.natCast_pow]
    · rintro e h15 ⟨h1, h2, h3, h6, h7⟩
      rw [shU_all] at h7
      simp [b358_1, h15, h6, h7, hz2, shF_length, agg_cs]
theorem put_off {G : Heap} {b : Nat} {x y : Int} (h : okP x y = false) : Call tab false 305 [adr b 0 0, .int .i64 x, .int .i64 y] G = some (tup [], G) := by
  refine Call_wp t305 (.inl rfl) rfl ?_
  simp [c305, k305, placeS, h]
theorem mv1_in {dx dy : Int} {x y u v : Nat} {s : List Int} (hx : x < 12) (e1 : (x : Int) + dx = u) (e2 : (y : Int) + dy = v) (hu : u < 12) (hv : v < 12) : mv1 dx dy (y * 12 + x) s = putF s u v := by
  have m1 : (y * 12 + x) % 12 = x := by omega
  have m2 : (y * 12 + x) / 12 = y := by omega
  rw [mv1, m1, m2, e1, e2, if_pos (by omega)]; rfl
theorem mv1_out {dx dy : Int} {x y : Nat} {s : List Int} (hx : x < 12) (h : okP ((x : Int) + dx) ((y : Int) + dy) = false) : mv1 dx dy (y * 12 + x) s = s := by
  have m1 : (y * 12 + x) % 12 = x := by omega
  have m2 : (y * 12 + x) / 12 = y := by omega
  rw [mv1, m1, m2, if_neg]
  intro h2
  have : okP ((x : Int) + dx) ((y : Int) + dy) = true := by simp [okP]; omega
  rw [this] at h; cases h
theorem mvS_length {dx dy : Int} {L : List Nat} : (mvS dx dy L).length = 12 := by rw [mvS_dots, dotsF_length]
theorem call355 {pu : Bool} {H : Heap} {q off ver : Nat} {f : List Int} {dx dy : Int} (hw : FrW f) (hr : rd H q off ver 12 = some (cs .u16 f)) (hx : -1000 ≤ dx ∧ dx ≤ 1000) (hy : -1000 ≤ dy ∧ dy ≤ 1000) :
    Call tab pu 355 [adr q off ver, .int .i64 dx, .int .i64 dy] H = some (iv .u16 (shF f dx dy), H) := by
  refine Call_wp t355 (.inr rfl) rfl ?_
  have hl := hw.len
  have hz := stc_zr (k := .u16) (n := 12) (l := shF f dx dy) shF_length
  have hle := dotL_len (f := f) (k := 144)
  obtain ⟨G0, hG0⟩ : ∃ G0, G0 = H ++ [⟨cs .u16 (zr 12 0), 1, 0, false⟩] := ⟨_, rfl⟩
  have hP0 : Pre H G0 := by rw [hG0]; exact Pre.one
  have hlen0 : G0.length = H.length + 1 := by rw [hG0]; simp
  have hc := call440 (pu := true) hw (hP0.rd hr)
  have hwr : wr H.length false (H ++ [⟨cs .u16 (zr 12 0), 1, 0, false⟩]) H.length 0 0 (cs .u16 (zr 12 0)) = some G0 := by
    rw [wr_at get_last rfl rfl (by simp [may]) (by simp), hG0]
    simp [splice]
  simp [c355, k355, zs_cs, agg_cs, fill, rep, hwr, wbOf, hc]
  refine WP_count 9 (dotL f 144).length _ rfl (fun j e G => e 1 = .int .i64 dx ∧ e 2 = .int .i64 dy ∧ e 6 = iv .u16 (zr 12 0) ∧ e 7 = adr H.length 0 0 ∧ e 8 = slc G0.length 0 0 (dotL f 144).length (dotL f 144).length ∧
    G = H ++ [⟨cs .u16 (mvS dx dy ((dotL f 144).take j)), 1, 0, false⟩, ⟨dotC f 144, 2, 0, false⟩]) (by omega) ?_ ?_ (by simp) ⟨by simp, by simp, by simp, by simp, by simp, by rw [hG0]; simp; rfl⟩
  · rintro j e _ _ hj hjj e4 h9 ⟨h1, h2, h6, h7, h8, rfl⟩
    obtain ⟨y, x, hp, hy12, hx12, hni, htk⟩ := dotL_at hj
    obtain ⟨F, hF⟩ : ∃ F, F = mvS dx dy ((dotL f 144).take j) := ⟨_, rfl⟩
    have hFl : F.length = 12 := by rw [hF, mvS_length]
    have hF1 : mvS dx dy ((dotL f 144).take (j + 1)) = mv1 dx dy (y * 12 + x) F := by rw [htk, mvS_snoc, hF]
    rw [hF1, ← hF]
    obtain ⟨G, hG⟩ : ∃ G, G = H ++ [⟨cs .u16 F, 1, 0, false⟩, ⟨dotC f 144, 2, 0, false⟩] := ⟨_, rfl⟩
    have hGG : G = H ++ [⟨cs .u16 F, 1, 0, false⟩] ++ [⟨dotC f 144, 2, 0, false⟩] := by rw [hG]; simp
    have pG : G[G0.length]? = some ⟨dotC f 144, 2, 0, false⟩ := by
      rw [hGG, hlen0]
      have := get_last (H := H ++ [⟨cs .u16 F, 1, 0, false⟩]) (b := ⟨dotC f 144, 2, 0, false⟩)
      rw [List.length_append] at this
      exact this
    have pF : G[H.length]? = some ⟨cs .u16 F, 1, 0, false⟩ := by
      rw [hGG, List.getElem?_append_left (by simp)]; exact get_last
    have hcl : (dotC f 144).length = (dotL f 144).length * 2 := by rw [dotC, mvsC_length]; simp
    have hs0 : SlR G (slc G0.length 0 0 (dotL f 144).length (dotL f 144).length) 2 (dotL f 144).length (dotC f 144) := ⟨hcl, .inr ⟨_, 0, 0, _, rfl, Nat.le_refl _, by rw [rd_at pG rfl (by simp [hcl])]; simp [take_all (Nat.le_of_eq hcl)], _, pG, rfl, rfl⟩⟩
    obtain ⟨b, o, v, ha, hr2⟩ := hs0.get1 hj
    have hel : elem (dotC f 144) 2 j = mvC ((x : Int), (y : Int)) := by
      rw [dotC, mvsC_elem (by simpa using hj), mv_map hj, hp, dotM_yx hx12]
    rw [hel] at hr2
    have d0 := rd_part hr2 (o := 0) (m := 1) (by omega)
    have d1 := rd_part hr2 (o := 1) (m := 1) (by omega)
    simp [mvC] at d0 d1
    have w1 : IntKind.wrap .i64 (x : Int) = x := wrap64 (by omega)
    have w2 : IntKind.wrap .i64 (y : Int) = y := wrap64 (by omega)
    have c1 : IntKind.wrap .i64 ((x : Int) + dx) = (x : Int) + dx := wrap64 (by omega)
    have c2 : IntKind.wrap .i64 ((y : Int) + dy) = (y : Int) + dy := wrap64 (by omega)
    rw [← hG]
    cases ho : okP ((x : Int) + dx) ((y : Int) + dy) with
    | false =>
      have hpo := put_off (G := G) (b := H.length) ho
      rw [mv1_out hx12 ho]
      simp [b355_1, h9, h1, h2, h6, h7, h8, hjj, ha, d0, d1, w1, w2, c1, c2, hpo, wbOf, e4, ← hG]
    | true =>
      obtain ⟨u, v, eu, ev, hu, hv⟩ := okP_get ho
      have hput := call305 (x := u) (y := v) pF hFl hu hv
      rw [mv1_in hx12 eu ev hu hv]
      have hset : G.set H.length ⟨cs .u16 (putF F u v), 1, 0, false⟩ = H ++ [⟨cs .u16 (putF F u v), 1, 0, false⟩, ⟨dotC f 144, 2, 0, false⟩] := by
        rw [hGG, List.set_append_left _ _ (by simp), set_last]; simp
      rw [hset] at hput
      rw [eu] at c1
      rw [ev] at c2
      have hel2 : elder H.length false G (tup [], H ++ [⟨cs .u16 (putF F u v), 1, 0, false⟩, ⟨dotC f 144, 2, 0, false⟩]) = some (tup [], H ++ [⟨cs .u16 (putF F u v), 1, 0, false⟩, ⟨dotC f 144, 2, 0, false⟩]) := elder_same (by rw [hG]; simp)
      simp [b355_1, h9, h1, h2, h6, h7, h8, hjj, ha, d0, d1, w1, w2, eu, ev, c1, c2, hput, hel2, wbOf, e4]
  · rintro e _ _ h9 ⟨h1, h2, h6, h7, h8, rfl⟩
    have hrd : rd (H ++ [⟨cs .u16 (mvS dx dy ((dotL f 144).take (dotL f 144).length)), 1, 0, false⟩, ⟨dotC f 144, 2, 0, false⟩]) H.length 0 0 12 = some (cs .u16 (shF f dx dy)) := by
      rw [List.take_length, mvS_all]
      have := rd_app (L := [⟨dotC f 144, 2, 0, false⟩]) (rd_last (H := H) (b := ⟨cs .u16 (shF f dx dy), 1, 0, false⟩) (n := 12) rfl (by simp [shF_length]))
      simpa using this
    rw [List.take_length] at hrd
    simp [b355_1, h9, h6, h7, h8, hrd, hz, shF_length, agg_cs]
def rowX (f : List Int) (m : Int × Int) : List Int := f.set m.1.toNat (xorI (nth f m.1.toNat) m.2)
def rowsX (f : List Int) (s : Sted) (k : Nat) : List Int := itN (fun k f => rowX f (rw' s k)) f k
theorem rowsX_zero {f : List Int} {s : Sted} : rowsX f s 0 = f := itN_zero
theorem rowsX_succ {f : List Int} {s : Sted} {k : Nat} : rowsX f s (k + 1) = rowX (rowsX f s k) (rw' s k) := itN_succ
theorem rowX_length {f : List Int} {m : Int × Int} : (rowX f m).length = f.length := by simp [rowX]
theorem rowsX_length {f : List Int} {s : Sted} {k : Nat} (h : f.length = 12) : (rowsX f s k).length = 12 := by
  induction k with
  | zero => rw [rowsX_zero, h]
  | succ k ih => rw [rowsX_succ, rowX_length, ih]
theorem set_W {f : List Int} {i : Nat} {v : Int} (hw : FrW f) (hk : okF f = true) (hv : u16' v) (hv2 : okRow v = true) : FrW (f.set i v) ∧ okF (f.set i v) = true := by
  refine ⟨⟨by rw [List.length_set, hw.len], fun n hn => ?_⟩, List.all_eq_true.2 fun n hn => ?_⟩
  · rcases List.mem_or_eq_of_mem_set hn with h | rfl
    · exact hw.2 n h
    · exact hv
  · rcases List.mem_or_eq_of_mem_set hn with h | rfl
    · exact List.all_eq_true.1 (show f.all okRow = true from hk) n h
    · exact hv2
theorem okF_nth {f : List Int} (hw : FrW f) (hk : okF f = true) {y : Nat} (hy : y < 12) : u16' (nth f y) ∧ okRow (nth f y) = true :=
  ⟨hw.nth hy, List.all_eq_true.1 (show f.all okRow = true from hk) _ (nth_mem (by rw [hw.len]; exact hy))⟩
theorem rowB_get {s : Sted} {j : Nat} (h : rowB s j = true) : ∃ y : Nat, (rw' s j).1 = y ∧ y < 12 ∧ u16' (rw' s j).2 ∧ okRow (rw' s j).2 = true := by
  simp only [rowB, Bool.and_eq_true, in1, decide_eq_true_eq] at h
  refine ⟨(rw' s j).1.toNat, by omega, by omega, ?_, ?_⟩
  · simp only [u16']; omega
  · simp only [okRow, decide_eq_true_eq]; omega
theorem rowsX_ok {f : List Int} {s : Sted} (hw : FrW f) (hk : okF f = true) (hs : rowsB s = true) {k : Nat} (h : k ≤ s.rows.length) : FrW (rowsX f s k) ∧ okF (rowsX f s k) = true := by
  induction k with
  | zero => rw [rowsX_zero]; exact ⟨hw, hk⟩
  | succ k ih =>
    obtain ⟨h1, h2⟩ := ih (by omega)
    obtain ⟨y, e, hy, u, o⟩ := rowB_get (allN_get (p := rowB s) hs (i := k) (by omega))
    obtain ⟨g1, g2⟩ := okF_nth h1 h2 hy
    rw [rowsX_succ, rowX, e]
    exact set_W h1 h2 xorI_ok (xorI_row g1 u g2 o)
theorem zr_ok : FrW (zr 12 0) ∧ okF (zr 12 0) = true := by rw [← dotsF_none]; exact ⟨dotsF_W, dotsF_ok⟩
theorem shF_still {f : List Int} (hw : FrW f) (hk : okF f = true) : shF f 0 0 = f := by
  refine list12 shF_length hw.len fun y hy => ?_
  obtain ⟨n, hn, hlt⟩ := okF_row hk hw hy
  have := mvR_shl (f := f) (d := 0) (y := y) (n := n) (dy := 0) hy (by omega) (by rw [show ((y : Int) - 0).toNat = y by omega]; exact hn)
  rw [hn]
  have e : n * 2 ^ 0 % 4096 = n := by rw [Nat.pow_zero, Nat.mul_one, Nat.mod_eq_of_lt hlt]
  rw [e] at this
  exact this
def baseF (s : Sted) (v : List (List Int)) : List Int := if s.a == 0 then zr 12 0 else shF (fr v s.b.toNat) s.c s.d
def decF (s : Sted) (v : List (List Int)) : List Int := rowsX (baseF s v) s s.rows.length
def decL (l : List Sted) (k : Nat) : List (List Int) := itN (fun k v => v ++ [decF (at0 l k) v]) [] k
theorem decL_zero {l : List Sted} : decL l 0 = [] := itN_zero
theorem decL_succ {l : List Sted} {k : Nat} : decL l (k + 1) = decL l k ++ [decF (at0 l k) (decL l k)] := itN_succ
theorem decL_len {l : List Sted} {k : Nat} : (decL l k).length = k := by
  induction k with
  | zero => simp [decL_zero]
  | succ k ih => rw [decL_succ]; simp [ih]
theorem baseF_ok {s : Sted} {v : List (List Int)} : FrW (baseF s v) ∧ okF (baseF s v) = true := by
  unfold baseF; split
  · exact zr_ok
  · exact ⟨dotsF_W, dotsF_ok⟩
theorem okSt_rows {s : Sted} {i : Nat} (h : okSt s i = true) : rowsB s = true := by
  simp only [okSt, Bool.and_eq_true] at h; exact h.1
theorem decF_ok {s : Sted} {v : List (List Int)} (h : rowsB s = true) : FrW (decF s v) ∧ okF (decF s v) = true := rowsX_ok baseF_ok.1 baseF_ok.2 h (Nat.le_refl _)
theorem decL_ok {l : List Sted} (hk : okSts l = true) {k : Nat} (h : k ≤ l.length) : ∀ f ∈ decL l k, FrW f ∧ okF f = true := by
  induction k with
  | zero => intro f hf; rw [decL_zero] at hf; cases hf
  | succ k ih =>
    intro f hf
    rw [decL_succ] at hf
    rcases List.mem_append.1 hf with h1 | h1
    · exact ih (by omega) f h1
    · rw [List.mem_singleton] at h1
      subst h1
      exact decF_ok (okSt_rows (okSts_get hk (by omega)))
theorem okSt_still {s : Sted} {i : Nat} (h : okSt s i = true) (ha : (s.a == 1) = true) : s.c = 0 ∧ s.d = 0 := by
  simp only [okSt, kindB, Bool.and_eq_true] at h
  obtain ⟨_, h⟩ := h
  have h0 : (s.a == 0) = false := by
    have := eq_of_beq ha
    simp [this]
  rw [if_neg (by rw [h0]; decide), if_pos ha] at h
  simp only [Bool.and_eq_true, stillB] at h
  exact ⟨eq_of_beq h.2.1, eq_of_beq h.2.2⟩
/-- The rows of a step, put over a frame: the spec. -/
theorem inner418 {n0 : Nat} {G : Heap} {s : Sted} {y x g : Value} {i : Int} {B : List Int} (hB : B.length = 12) (hrw : Rw G y s) (hs : rowsB s = true) (hn : s.rows.length ≤ 1000000) {fs : List Fr} {Q : Ex → Env → Heap → Prop} {e : Env}
    (h0 : e 0 = x) (h3 : e 3 = g) (h4 : e 4 = .int .i64 i) (h5 : e 5 = agg (stC s y)) (h6 : e 6 = iv .u16 B) (h7 : e 7 = .int .i64 0)
    (hq : ∀ e', e' 0 = x → e' 3 = g → e' 4 = .int .i64 i → e' 6 = iv .u16 (rowsX B s s.rows.length) → KK tab n0 false (.exit 3) fs e' G Q) : WK tab n0 false (.loop b418_1) fs e G Q := by
  refine WP_forH 7 s.rows.length _ rfl (by omega) (fun k e => e 0 = x ∧ e 3 = g ∧ e 4 = .int .i64 i ∧ e 5 = agg (stC s y) ∧ e 6 = iv .u16 (rowsX B s k)) ?_ ?_ h7 ⟨h0, h3, h4, h5, by rw [rowsX_zero]; exact h6⟩
  · rintro k e hk hkk e4 h7 ⟨h0, h3, h4, h5, h6⟩
    obtain ⟨q, off, ver, ha, hr, hr1, hr2⟩ := Rw.at hrw hk
    obtain ⟨m, hm, hm12, u, o⟩ := rowB_get (allN_get (p := rowB s) hs hk)
    have hl := rowsX_length (s := s) (k := k) hB
    have hst : (rowsX B s k).set m (xorI (nth (rowsX B s k) m) (rw' s k).2) = rowsX B s (k + 1) := by rw [rowsX_succ, rowX, hm]; rfl
    have e9 := stc_at (k := .u16) (l := rowsX B s k) (by omega) hst
    rw [hm] at hr1
    simp only [stC] at h5
    simp (disch := omega) [b418_1, h0, h3, h4, h5, h6, h7, ldc5e, SlR.lenV hrw, hkk, ha, hr1, hr2, hm12, hl, xorI_eq, e9, e4, stC]
  · rintro e h7 ⟨h0, h3, h4, h5, h6⟩
    simp only [stC] at h5
    simp [b418_1, h5, h7, ldc5e, SlR.lenV hrw]
    exact hq _ (by simp [h0]) (by simp [h3]) (by simp [h4]) (by simp [h6])
theorem call418 {pu : Bool} {H : Heap} {x : Value} {l : List Sted} (h : StS H x l) (hw : StsW l) (hk : okSts l = true) : Call tab pu 418 [x] H = some (slc H.length 0 0 l.length l.length, H ++ [⟨bkC (decL l l.length), 12, 0, false⟩]) := by
  refine Call_wp t418 (.inr rfl) rfl ?_
  have hn := hw.n
  have hn40 := okSts_len hk
  have hz := stc_zr (k := .u16) (n := 12) (l := zr 12 0) (by simp)
  simp [c418, k418, fill, rep, zs_cs]
  refine WP_count 4 l.length l.length rfl (fun i e G => e 0 = x ∧ ∃ g, e 3 = g ∧ Gr H G g 12 i (bkC (decL l i))) (by omega) ?_ ?_ (by simp) (by simp [decL_zero, bkC, rowsC]; exact Gr.new .refl)
  · rintro i e G _ hi hii e4 h4 ⟨h0, g, h3, hg⟩
    obtain ⟨q, off, ver, y, ha, hrd, hrw⟩ := (h.pre hg.pre).get hi
    simp only [stC] at hrd
    have hok := okSts_get hk hi
    have hrb := okSt_rows hok
    have hBW : BkW (decL l i) := fun f hf => (decL_ok hk (by omega) f hf).1
    have hsl : Bk G g (decL l i) := by
      have := hg.sl
      unfold Bk
      rw [decL_len]
      exact this
    have hwst := hw.w _ (at0_mem hi)
    have hr6 := hw.r _ (at0_mem hi)
    have hdec : decF (at0 l i) (decL l i) = rowsX (baseF (at0 l i) (decL l i)) (at0 l i) (at0 l i).rows.length := rfl
    have hdl : (decF (at0 l i) (decL l i)).length = 12 := by rw [hdec]; exact rowsX_length baseF_ok.1.len
    obtain ⟨g', G', hpush, hg'⟩ := hg.push (c := cs .u16 (decF (at0 l i) (decL l i))) (bytes := 24) (by simp [hdl]) (room24 (by omega)) (wb := false)
    have hbk : bkC (decL l i) ++ cs .u16 (decF (at0 l i) (decL l i)) = bkC (decL l (i + 1)) := by rw [decL_succ, bkC, bkC, rowsC_app]; simp [rowsC, frC]
    rw [hbk] at hg'
    have hBl := (baseF_ok (s := at0 l i) (v := decL l i)).1.len
    have ha2 := okSt_a hok
    have hc : IntKind.wrap .i64 (at0 l i).c = (at0 l i).c := wrap64 (by have := hwst.c; omega)
    have hd : IntKind.wrap .i64 (at0 l i).d = (at0 l i).d := wrap64 (by have := hwst.d; omega)
    cases hz0 : (at0 l i).a == 0 with
    | true =>
      have hb : baseF (at0 l i) (decL l i) = zr 12 0 := by rw [baseF, if_pos hz0]
      have hz1 : ((at0 l i).a == 1) = false := by have := eq_of_beq hz0; simp [this]
      have hz2 : ((at0 l i).a == 2) = false := by have := eq_of_beq hz0; simp [this]
      simp [b418_2, h0, h4, hii, h.lenV, ha, hrd, stc5, ldc5a, hz1, hz2, zs_cs, agg_cs, fill, hz, wbOf]
      refine inner418 (B := zr 12 0) (by simp) hrw hrb hr6 (by simp; exact h0) (by simp; exact h3) (by simp; exact h4) (by simp [stC]) (by simp) (by simp) fun e' q0 q3 q4 q6 => ?_
      rw [← hb, ← hdec] at q6
      simp [q0, q3, q4, q6, zs_cs, hdl, fillF hdl, hpush, e4]
      exact hg'
    | false =>
      obtain ⟨m, hm, hmi⟩ := depB hk hi hz0
      obtain ⟨q2, off2, ver2, ha2', hr2⟩ := Bk.get hsl hBW (i := m) (by rw [decL_len]; exact hmi)
      rw [idxAV_k (k' := .i8)] at ha2'
      obtain ⟨fw, fo⟩ := decL_ok hk (k := i) (by omega) (fr (decL l i) m) (at0_mem (by rw [decL_len]; exact hmi))
      have hb : baseF (at0 l i) (decL l i) = shF (fr (decL l i) m) (at0 l i).c (at0 l i).d := by rw [baseF, if_neg (by rw [hz0]; decide), hm]; rfl
      have hzl := stc_zr (k := .u16) (n := 12) (l := shF (fr (decL l i) m) (at0 l i).c (at0 l i).d) shF_length
      cases hz1 : (at0 l i).a == 1 with
      | true =>
        obtain ⟨ec, ed⟩ := okSt_still hok hz1
        rw [ec, ed, shF_still fw fo] at hb
        have hzl := stc_zr (k := .u16) (n := 12) (l := fr (decL l i) m) fw.len
        simp [b418_2, h0, h3, h4, hii, h.lenV, ha, hrd, stc5, ldc5a, ldc5b, hz1, hm, ha2', hr2, zs_cs, agg_cs, fill, hz, hzl, fw.len, wbOf]
        refine inner418 (B := fr (decL l i) m) fw.len hrw hrb hr6 (by simp; exact h0) (by simp; exact h3) (by simp; exact h4) (by simp [stC, hm]) (by simp) (by simp) fun e' q0 q3 q4 q6 => ?_
        rw [← hb, ← hdec] at q6
        simp [q0, q3, q4, q6, zs_cs, hdl, fillF hdl, hpush, e4]
        exact hg'
      | false =>
        have hz2 : ((at0 l i).a == 2) = true := by
          simp at hz0 hz1 ⊢; omega
        have hcl := call355 (pu := true) (dx := (at0 l i).c) (dy := (at0 l i).d) fw hr2 (by have := hwst.c; omega) (by have := hwst.d; omega)
        simp [b418_2, h0, h3, h4, hii, h.lenV, ha, hrd, stc5, ldc5a, ldc5b, ldc5c, ldc5d, hz1, hz2, hm, ha2', hc, hd, hcl, zs_cs, agg_cs, fill, hz, hzl, shF_length, wbOf]
        refine inner418 (B := shF (fr (decL l i) m) (at0 l i).c (at0 l i).d) shF_length hrw hrb hr6 (by simp; exact h0) (by simp; exact h3) (by simp; exact h4) (by simp [stC, hm]) (by simp) (by simp) fun e' q0 q3 q4 q6 => ?_
        rw [← hb, ← hdec] at q6
        simp [q0, q3, q4, q6, zs_cs, hdl, fillF hdl, hpush, e4]
        exact hg'
  · rintro e G _ h4 ⟨h0, g, h3, hg⟩
    have hfin := hg.fin bkC_flat
    simp [b418_2, h4, h0, h.lenV, h3, hfin]
/-- The rows of a step, put over a frame: the impl. -/
theorem inner419 {n0 : Nat} {G : Heap} {s : Sted} {y x g : Value} {i n : Int} {B : List Int} (hB : B.length = 12) (hrw : Rw G y s) (hs : rowsB s = true) (hn : s.rows.length ≤ 1000000) {fs : List Fr} {Q : Ex → Env → Heap → Prop} {e : Env}
    (h0 : e 10 = x) (h3 : e 3 = g) (h4 : e 12 = .int .i64 i) (h5 : e 11 = .int .i64 n) (h33 : e 33 = y) (h34 : e 34 = .int .i64 s.rows.length) (h6 : e 6 = iv .u16 B) (h7 : e 35 = .int .i64 0)
    (hq : ∀ e', e' 10 = x → e' 3 = g → e' 12 = .int .i64 i → e' 11 = .int .i64 n → e' 6 = iv .u16 (rowsX B s s.rows.length) → KK tab n0 false (.exit 2) fs e' G Q) : WK tab n0 false (.loop b419_1) fs e G Q := by
  refine WP_forH 35 s.rows.length _ rfl (by omega) (fun k e => e 10 = x ∧ e 3 = g ∧ e 12 = .int .i64 i ∧ e 11 = .int .i64 n ∧ e 33 = y ∧ e 34 = .int .i64 s.rows.length ∧ e 6 = iv .u16 (rowsX B s k)) ?_ ?_ h7 ⟨h0, h3, h4, h5, h33, h34, by rw [rowsX_zero]; exact h6⟩
  · rintro k e hk hkk e4 h7 ⟨h0, h3, h4, h5, h33, h34, h6⟩
    obtain ⟨q, off, ver, ha, hr, hr1, hr2⟩ := Rw.at hrw hk
    obtain ⟨m, hm, hm12, u, o⟩ := rowB_get (allN_get (p := rowB s) hs hk)
    have hl := rowsX_length (s := s) (k := k) hB
    have hst : (rowsX B s k).set m (xorI (nth (rowsX B s k) m) (rw' s k).2) = rowsX B s (k + 1) := by rw [rowsX_succ, rowX, hm]; rfl
    have e9 := stc_at (k := .u16) (l := rowsX B s k) (by omega) hst
    rw [hm] at hr
    simp (disch := omega) [b419_1, h0, h3, h4, h5, h33, h34, h6, h7, hkk, ha, hr, stc2c, ldc2, ldc2b, hm12, hl, xorI_eq, e9, e4]
  · rintro e h7 ⟨h0, h3, h4, h5, h33, h34, h6⟩
    simp [b419_1, h34, h7]
    exact hq _ (by simp [h0]) (by simp [h3]) (by simp [h4]) (by simp [h5]) (by simp [h6])
theorem call419 {pu : Bool} {H : Heap} {x : Value} {l : List Sted} (h : StS H x l) (hw : StsW l) (hk : okSts l = true) : Call tab pu 419 [x] H = some (slc H.length 0 0 l.length l.length, H ++ [⟨bkC (decL l l.length), 12, 0, false⟩]) := by
  refine Call_wp t419 (.inr rfl) rfl ?_
  have hn := hw.n
  have hn40 := okSts_len hk
  have hz := stc_zr (k := .u16) (n := 12) (l := zr 12 0) (by simp)
  simp [c419, k419, fill, rep, zs_cs, h.lenV]
  refine WP_count 12 l.length l.length rfl (fun i e G => e 10 = x ∧ e 11 = .int .i64 l.length ∧ ∃ g, e 3 = g ∧ Gr H G g 12 i (bkC (decL l i))) (by omega) ?_ ?_ (by simp) (by simp [decL_zero, bkC, rowsC]; exact Gr.new .refl)
  · rintro i e G _ hi hii e4 h4 ⟨h0, h11, g, h3, hg⟩
    obtain ⟨q, off, ver, y, ha, hrd, hrw⟩ := (h.pre hg.pre).get hi
    simp only [stC] at hrd
    have hok := okSts_get hk hi
    have hrb := okSt_rows hok
    have hBW : BkW (decL l i) := fun f hf => (decL_ok hk (by omega) f hf).1
    have hsl : Bk G g (decL l i) := by
      have := hg.sl
      unfold Bk
      rw [decL_len]
      exact this
    have hwst := hw.w _ (at0_mem hi)
    have hr6 := hw.r _ (at0_mem hi)
    have hdec : decF (at0 l i) (decL l i) = rowsX (baseF (at0 l i) (decL l i)) (at0 l i) (at0 l i).rows.length := rfl
    have hdl : (decF (at0 l i) (decL l i)).length = 12 := by rw [hdec]; exact rowsX_length baseF_ok.1.len
    obtain ⟨g', G', hpush, hg'⟩ := hg.push (c := cs .u16 (decF (at0 l i) (decL l i))) (bytes := 24) (by simp [hdl]) (room24 (by omega)) (wb := false)
    have hbk : bkC (decL l i) ++ cs .u16 (decF (at0 l i) (decL l i)) = bkC (decL l (i + 1)) := by rw [decL_succ, bkC, bkC, rowsC_app]; simp [rowsC, frC]
    rw [hbk] at hg'
    have hc : IntKind.wrap .i64 (at0 l i).c = (at0 l i).c := wrap64 (by have := hwst.c; omega)
    have hd : IntKind.wrap .i64 (at0 l i).d = (at0 l i).d := wrap64 (by have := hwst.d; omega)
    cases hz0 : (at0 l i).a == 0 with
    | true =>
      have hb : baseF (at0 l i) (decL l i) = zr 12 0 := by rw [baseF, if_pos hz0]
      have hz1 := bne_F hz0
      simp [b419_2, h0, h11, h4, hii, ha, hrd, stc5, ldc5a, ldc5e, SlR.lenV hrw, hz1, zs_cs, agg_cs, fill, hz, wbOf]
      refine inner419 (B := zr 12 0) (by simp) hrw hrb hr6 (by simp; exact h0) (by simp; exact h3) (by simp; exact h4) (by simp; exact h11) (by simp) (by simp) (by simp) (by simp) fun e' q0 q3 q4 q11 q6 => ?_
      rw [← hb, ← hdec] at q6
      simp [q0, q3, q4, q11, q6, zs_cs, hdl, fillF hdl, hpush, e4]
      exact hg'
    | false =>
      have hz1 := bne_T hz0
      obtain ⟨m, hm, hmi⟩ := depB hk hi hz0
      obtain ⟨q2, off2, ver2, ha2', hr2⟩ := Bk.get hsl hBW (i := m) (by rw [decL_len]; exact hmi)
      rw [idxAV_k (k' := .i8)] at ha2'
      obtain ⟨fw, fo⟩ := decL_ok hk (k := i) (by omega) (fr (decL l i) m) (at0_mem (by rw [decL_len]; exact hmi))
      have hb : baseF (at0 l i) (decL l i) = shF (fr (decL l i) m) (at0 l i).c (at0 l i).d := by rw [baseF, if_neg (by rw [hz0]; decide), hm]; rfl
      have hzl := stc_zr (k := .u16) (n := 12) (l := shF (fr (decL l i) m) (at0 l i).c (at0 l i).d) shF_length
      have hcl := call358 (pu := true) (H := G) (dx := (at0 l i).c) (dy := (at0 l i).d) fw fo (by have := hwst.c; omega) (by have := hwst.d; omega)
      simp [b419_2, h0, h11, h3, h4, hii, ha, hrd, stc5, ldc5a, ldc5b, ldc5c, ldc5d, ldc5e, SlR.lenV hrw, hz1, hm, ha2', hr2, hc, hd, hcl, zs_cs, agg_cs, fill, hz, hzl, shF_length, wbOf]
      refine inner419 (B := shF (fr (decL l i) m) (at0 l i).c (at0 l i).d) shF_length hrw hrb hr6 (by simp; exact h0) (by simp; exact h3) (by simp; exact h4) (by simp; exact h11) (by simp) (by simp) (by simp) (by simp) fun e' q0 q3 q4 q11 q6 => ?_
      rw [← hb, ← hdec] at q6
      simp [q0, q3, q4, q11, q6, zs_cs, hdl, fillF hdl, hpush, e4]
      exact hg'
  · rintro e G _ h4 ⟨h0, h11, g, h3, hg⟩
    have hfin := hg.fin bkC_flat
    simp [b419_2, h4, h11, h3, hfin]
def sameBk (D b : List (List Int)) : Bool := ((D.length : Int) == b.length) && allN (fun i => decide (fr D i = fr b i)) D.length
theorem Bk.frs {H : Heap} {x : Value} {b : List (List Int)} (h : Bk H x b) (hw : BkW b) : FrS H x b.length (fr b) := SlR.frs h fun i hi => ⟨bkC_elem hw hi, (hw.fr hi).len⟩
theorem same341 {pu : Bool} {H : Heap} {x y : Value} {D b : List (List Int)} (hx : Bk H x D) (hy : Bk H y b) (hw : BkW D) (hw' : BkW b) (hn : D.length ≤ 1000000) : Call tab pu 341 [x, y] H = some (.bool (sameBk D b), H) := by
  by_cases hl : D.length = b.length
  · have hy' := hy.frs hw'
    rw [← hl] at hy'
    rw [call341 (hx.frs hw) hy' hn]
    simp [sameBk, hl]
  · have hle : (((D.length : Int)) == b.length) = false := beq_false_of_ne fun h => hl (by omega)
    refine Call_wp t341 (.inr rfl) rfl ?_
    simp [c341, k341, SlR.lenV hx, SlR.lenV hy, bne_T hle, hle, sameBk]
theorem same323 {pu : Bool} {H : Heap} {x y : Value} {D b : List (List Int)} (hx : Bk H x D) (hy : Bk H y b) (hw : BkW D) (hw' : BkW b) (hn : D.length ≤ 1000000) : Call tab pu 323 [x, y] H = some (.bool (sameBk D b), H) := by
  refine Call_wp t323 (.inr rfl) rfl ?_
  by_cases hl : D.length = b.length
  rotate_left
  · have hle : (((D.length : Int)) == b.length) = false := beq_false_of_ne fun h => hl (by omega)
    simp [c323, k323, SlR.lenV hx, SlR.lenV hy, bne_T hle, hle, sameBk]
  have hle : (((D.length : Int)) == b.length) = true := by simp [hl]
  have hst : sameBk D b = allN (fun i => decide (fr D i = fr b i)) D.length := by simp [sameBk, hle]
  simp [c323, k323, SlR.lenV hx, SlR.lenV hy, bne_F hle]
  refine WP_forH 5 D.length _ rfl (by omega) (fun i e => e 0 = x ∧ e 1 = y ∧ ∀ j, j < i → decide (fr D j = fr b j) = true) ?_ ?_ (by simp) ⟨by simp, by simp, fun j hj => by omega⟩
  · rintro i e hi hlt e4 h5 ⟨h0, h1, hp⟩
    obtain ⟨q, off, ver, ha, hr⟩ := Bk.get hx hw hi
    obtain ⟨q', off', ver', ha', hr'⟩ := Bk.get hy hw' (i := i) (by omega)
    have l1 := (hw.fr hi).len
    have l2 := (hw'.fr (i := i) (by omega)).len
    cases hd : decide (fr D i = fr b i) with
    | true =>
      simp [b323_1, h5, h0, h1, hlt, SlR.lenV hx, ha, hr, ha', hr', agg_cs, eqV_iv l1 l2, hd, e4, -decide_eq_true_eq, -decide_eq_false_iff_not]
      exact upto_succ hp hd
    | false =>
      have : allN (fun i => decide (fr D i = fr b i)) D.length = false := allN_false hi hd
      simp [b323_1, h5, h0, h1, hlt, SlR.lenV hx, ha, hr, ha', hr', agg_cs, eqV_iv l1 l2, hd, hst, this, -decide_eq_true_eq, -decide_eq_false_iff_not]
  · rintro e h5 ⟨h0, h1, hp⟩
    have : allN (fun i => decide (fr D i = fr b i)) D.length = true := allN_true hp
    simp [b323_1, h5, h0, SlR.lenV hx, hst, this]
def bothB (b : List (List Int)) (l : List Sted) : Bool := okB b && okSts l
def chkR (b : List (List Int)) (l : List Sted) : Value := if bothB b l = true then tup [.bool (sameBk (decL l l.length) b), .int .i64 0] else tup [.bool false, .int .i64 1]
theorem decW {l : List Sted} (hk : okSts l = true) : BkW (decL l l.length) := fun f hf => (decL_ok hk (Nat.le_refl _) f hf).1
theorem dec_bk {H : Heap} {l : List Sted} (hk : okSts l = true) : Bk (H ++ [⟨bkC (decL l l.length), 12, 0, false⟩]) (slc H.length 0 0 l.length l.length) (decL l l.length) := by
  have := (own_new (H := H) (esz := 12) (n := l.length) (vs := bkC (decL l l.length)) (by rw [bkC_length (decW hk), decL_len])).sl
  unfold Bk
  rw [decL_len]
  exact this
theorem call224 {pu : Bool} {H : Heap} {x y : Value} {b : List (List Int)} {l : List Sted} (hb : Bk H x b) (hw : BkW b) (hn : b.length ≤ 1000000) (h : StS H y l) (hl : StsW l) : Call tab pu 224 [x, y] H = some (chkR b l, H) := by
  refine Call_wp t224 (.inr rfl) rfl ?_
  have h1 := call318 (pu := true) hb hw (by omega)
  have h2 := call386 (pu := true) h hl
  cases k1 : okB b with
  | false => simp [c224, k224, h1, k1, skip, chkR, bothB]
  | true =>
    cases k2 : okSts l with
    | false => simp [c224, k224, h1, k1, h2, k2, chkR, bothB]
    | true =>
      have hc := same323 (pu := true) (dec_bk (H := H) k2) (hb.pre Pre.one) (decW k2) hw (by rw [decL_len]; exact hl.n)
      simp [c224, k224, h1, k1, h2, k2, call418 h hl k2, hc, chkR, bothB]
theorem call225 {pu : Bool} {H : Heap} {x y : Value} {b : List (List Int)} {l : List Sted} (hb : Bk H x b) (hw : BkW b) (hn : b.length ≤ 1000000) (h : StS H y l) (hl : StsW l) : Call tab pu 225 [x, y] H = some (chkR b l, H) := by
  refine Call_wp t225 (.inr rfl) rfl ?_
  have h1 := call316 (pu := true) hb hw (by omega)
  have h2 := call163 (pu := true) h hl
  cases k1 : okB b with
  | false => simp [c225, k225, h1, k1, skip, chkR, bothB]
  | true =>
    cases k2 : okSts l with
    | false => simp [c225, k225, h1, k1, h2, k2, chkR, bothB]
    | true =>
      have hc := same341 (pu := true) (dec_bk (H := H) k2) (hb.pre Pre.one) (decW k2) hw (by rw [decL_len]; exact hl.n)
      simp [c225, k225, h1, k1, h2, k2, call419 h hl k2, hc, chkR, bothB]
/-- The copies that a law of a book and of steps makes. -/
theorem bs_steps {sp im : Nat} {H : Heap} {x y : Value} {b : List (List Int)} {l : List Sted} {R : Value} (hb : Bk H x b) (hw : BkW b) (hbig : b.length ≤ 1000000) (hs : StS H y l) (hn : l.length ≤ 1000000) (hr : ∀ s ∈ l, s.rows.length ≤ 1000000)
    (hsp : ∀ G x y, Bk G x b → StS G y l → Call tab true sp [x, y] G = some (R, G)) (him : ∀ G x y, Bk G x b → StS G y l → Call tab true im [x, y] G = some (R, G)) :
    ∃ x1 G1 y1 G2 x2 G3 y2 G4 x3 G5 y3 G6 x4 G7 y4 G8, Call tab true 105 [x, .bool false] H = some (x1, G1) ∧ Call tab true 159 [y, .bool false] G1 = some (y1, G2) ∧ Call tab true sp [x1, y1] G2 = some (R, G2) ∧
      Call tab true 105 [x, .bool false] G2 = some (x2, G3) ∧ Call tab true 159 [y, .bool false] G3 = some (y2, G4) ∧ Call tab true im [x2, y2] G4 = some (R, G4) ∧
      Call tab true 105 [x, .bool false] G4 = some (x3, G5) ∧ Call tab true 107 [x2, x3] G5 = some (.bool true, G5) ∧ Call tab true 159 [y, .bool false] G5 = some (y3, G6) ∧ Call tab true 161 [y2, y3] G6 = some (.bool true, G6) ∧
      Call tab true 105 [x, .bool true] G6 = some (x4, G7) ∧ Call tab true 159 [y, .bool true] G7 = some (y4, G8) ∧ Call tab true im [x4, y4] G8 = some (R, G8) ∧ Pre H G8 := by
  have hbl := bkC_length hw
  obtain ⟨x1, G1, q1, k1, r1, p1⟩ := cp_false (pu := true) hbl rfl (call105 hb hw hbig)
  obtain ⟨y1, G2, q2, s2, p2, _⟩ := cp159 (pu := true) (flag := false) (hs.pre p1) hn hr
  have w1 := hsp G2 x1 y1 (SlR.pre p2 r1) s2
  have P2 := p1.trans p2
  obtain ⟨x2, G3, q3, k3, r3, p3⟩ := cp_false (pu := true) hbl rfl (call105 (SlR.pre P2 hb) hw hbig)
  have P3 := P2.trans p3
  obtain ⟨y2, G4, q4, s4, p4, k4⟩ := cp159 (pu := true) (flag := false) (hs.pre P3) hn hr
  have P4 := P3.trans p4
  have w2 := him G4 x2 y2 (SlR.pre p4 r3) s4
  obtain ⟨x3, G5, q5, k5, r5, p5⟩ := cp_false (pu := true) hbl rfl (call105 (SlR.pre P4 hb) hw hbig)
  have i1 := call107 (pu := true) ((k3.pre p4).pre p5) k5 hw hbig
  have P5 := P4.trans p5
  obtain ⟨y3, G6, q6, s6, p6, k6⟩ := cp159 (pu := true) (flag := false) (hs.pre P5) hn hr
  have P6 := P5.trans p6
  have i2 := in161 (pu := true) ((k4 rfl).pre (p5.trans p6)) (k6 rfl) hn hr
  obtain ⟨x4, G7, q7, r7, p7⟩ := cp_true (pu := true) hbl rfl (call105 (SlR.pre P6 hb) hw hbig)
  have P7 := P6.trans p7
  obtain ⟨y4, G8, q8, s8, p8, _⟩ := cp159 (pu := true) (flag := true) (hs.pre P7) hn hr
  exact ⟨x1, G1, y1, G2, x2, G3, y2, G4, x3, G5, y3, G6, x4, G7, y4, G8, q1, q2, w1, q3, q4, w2, q5, i1, q6, i2, q7, q8, him G8 x4 y4 (SlR.pre p8 r7) s8, P7.trans p8⟩
theorem call46 {H : Heap} {x y : Value} {b : List (List Int)} {l : List Sted} (hb : Bk H x b) (hw : BkW b) (hnb : b.length ≤ 9223372036854775807) (hs : StS H y l) (ha : StsA l) : Call tab false 46 [x, y] H = some (.bool true, H) := by
  refine Call_wp t46 (.inl rfl) rfl ?_
  have hsz := sz_call s103 (pu := true) hb (left := 1000000) (by omega) (by omega) hnb
  by_cases hbig : b.length ≤ 1000000
  rotate_left
  · have hsz' : 1000000 - (b.length : Int) < 0 := by omega
    rw [if_pos hsz'] at hsz
    simp [c46, k46, hsz]
  have hsz' : ¬ (1000000 - (b.length : Int) < 0) := by omega
  rw [if_neg hsz'] at hsz
  obtain ⟨v, hsz2, _, hv⟩ := sz157 hs ha.n ha.r (left := 1000000 - (b.length : Int)) (by omega) (by omega)
  by_cases hneg : v < 0
  · simp [c46, k46, hsz, hsz', hsz2, hneg]
  obtain ⟨hn, hr⟩ := hv (by omega)
  have hl : StsW l := ⟨ha.w, hn, hr⟩
  obtain ⟨u, c, e⟩ : ∃ u c, chkR b l = tup [.bool u, .int .i64 c] := by unfold chkR; split <;> exact ⟨_, _, rfl⟩
  obtain ⟨x1, G1, y1, G2, x2, G3, y2, G4, x3, G5, y3, G6, x4, G7, y4, G8, q1, q2, w1, q3, q4, w2, q5, i1, q6, i2, q7, q8, w3, P⟩ := bs_steps hb hw hbig hs hn hr (fun G x y h1 h2 => call224 h1 hw hbig h2 hl) (fun G x y h1 h2 => call225 h1 hw hbig h2 hl)
  rw [e] at w1 w2 w3
  simp [c46, k46, hsz, hsz', hsz2, hneg, q1, q2, w1, q3, q4, w2, q5, i1, q6, i2, q7, q8, w3, skip, P.take]
end Fb
