/- What each function computes. -/
import Derived.Test.YtmdnahopljfakaaUse3
set_option linter.unusedVariables false
set_option linter.unusedSimpArgs false
namespace Fb
open Go
theorem inner469 {n0 P : Nat} {G0 G : Heap} {k κ b ver : Nat} {l : List Sted} {a0 b0 c0 d0 : Int} {x N : Value} (D : Dr n0 P G0 G k κ b ver l [] (.slice none 0 0)) (hk : k ≤ 10000000000) {fs : List Fr} {Q : Ex → Env → Heap → Prop} {e : Env}
    (h0 : e 0 = adr P 0 0) (h3 : e 3 = x) (h4 : e 4 = N) (h5 : e 5 = agg [.int .i8 a0, .int .i8 b0, .int .i8 c0, .int .i8 d0, .slice none 0 0]) (h6 : e 6 = .int .i8 0)
    (hq : ∀ e' G' rs y, e' 0 = adr P 0 0 → e' 3 = x → e' 4 = N → e' 5 = agg [.int .i8 a0, .int .i8 b0, .int .i8 c0, .int .i8 d0, y] → Dr n0 P G0 G' (k + 100) κ b ver l rs y → RwI rs 4 → KK tab n0 true (.exit 2) fs e' G' Q) :
    WK tab n0 true (.loop b469_1) fs e G Q := by
  refine WK_loop (fun i e G' => e 0 = adr P 0 0 ∧ e 3 = x ∧ e 4 = N ∧ e 6 = .int .i8 i ∧ ∃ rs y, e 5 = agg [.int .i8 a0, .int .i8 b0, .int .i8 c0, .int .i8 d0, y] ∧ Dr n0 P G0 G' (k + i * 10) κ b ver l rs y ∧ RwI rs i) 4 ?_ (Nat.zero_le _)
    ⟨h0, h3, h4, h6, [], _, h5, D, ⟨fun m hm => (by cases hm), List.Pairwise.nil, Nat.le_refl _⟩⟩
  rintro i e G' _ hi ⟨h0, h3, h4, h6, rs, y, h5, D, R⟩
  by_cases hi4 : i = 4
  · subst hi4
    simp [b469_1, h6]
    exact hq _ _ rs y (by simp [h0]) (by simp [h3]) (by simp [h4]) (by simp [h5]) (D.le (by omega)) R
  · have hlt : i < 4 := by omega
    have hlt' : (i : Int) < 4 := by omega
    have e7 : IntKind.wrap .i8 ((i : Int) + 1) = ((i + 1 : Nat) : Int) := by rw [wrap8 (by omega)]; omega
    obtain ⟨bb, G1, c1, m1, s1⟩ := call513 (n := 3) D.src (by omega) (by omega)
    have D1 := D.mv m1 s1
    cases bb with
    | false =>
      simp [b469_1, h0, h6, hlt', c1, wbOf, e7]
      exact ⟨hlt, by simp [h3], by simp [h4], rs, y, by simp [h5], D1.le (by omega), R.skip⟩
    | true =>
      obtain ⟨v, G2, c2, hv, D2⟩ := D1.pick (n := 63) (by omega) (by omega)
      have e8 : IntKind.wrap .i64 (1 + v) = 1 + v := wrap64 (by omega)
      have e9 : IntKind.wrap .u16 (1 + v) = 1 + v := wrapu16 (by omega)
      have hl := R.2.2
      obtain ⟨y', G3, c3, D3⟩ := D2.row (m := ((i : Int), 1 + v)) (by have : roomMax = 140737488355328 := rfl; omega)
      simp only [chC] at c3
      have hcy : cellsOf y' = [y'] := by
        rcases D3.rw with ⟨_, _, rfl, _⟩ | ⟨rfl, _⟩ <;> rfl
      have hf1 : fill [.int .i8 0, .int .u16 0] [(0, 1, .int .i8 (i : Int)), (1, 1, .int .u16 (1 + v))] = some [.int .i8 (i : Int), .int .u16 (1 + v)] := rfl
      have hf2 := fill_one (z := [.int .i8 0, .int .u16 0]) (v := agg [.int .i8 (i : Int), .int .u16 (1 + v)]) (esz := 2) rfl rfl
      simp [b469_1, h0, h5, h6, hlt', c1, c2, wbOf, e7, e8, e9, ldc5e, stc5e, hf1, hf2, c3, hcy]
      exact ⟨hlt, by simp [h3], by simp [h4], rs ++ [((i : Int), 1 + v)], y', by simp, D3.le (by omega), R.push (by omega)⟩
theorem okSt_new {s : Sted} {n : Nat} (R : RwI s.rows 4) (h : kindB s n = true) : okSt s n = true := by
  rw [okSt, h, Bool.and_true]
  exact rowsB_of (fun m hm => by have := R.1 m hm; omega) R.2.1
structure DrL (l : List Sted) : Prop where
  ok : okSts l = true
  r : ∀ s ∈ l, s.rows.length ≤ 4
theorem DrL.push {l : List Sted} {s : Sted} (h : DrL l) (hn : l.length ≤ 10) (hs : okSt s l.length = true) (hr : s.rows.length ≤ 4) : DrL (l ++ [s]) := by
  refine ⟨okSts_of (by simp; omega) fun i hi => ?_, fun t ht => ?_⟩
  · have hi : i < l.length + 1 := by simpa using hi
    rw [at0_app]
    by_cases h1 : i < l.length
    · rw [if_pos h1]; exact okSts_get h.ok h1
    · have : i = l.length := by omega
      subst this
      rw [if_neg h1, if_pos rfl]; exact hs
  · rcases List.mem_append.1 ht with h1 | h1
    · exact h.r t h1
    · rw [List.mem_singleton] at h1; subst h1; exact hr
theorem DrL.W {l : List Sted} (h : DrL l) : StsW l := okSts_W h.ok fun s hs => by have := h.r s hs; omega
theorem room32 {n : Nat} (h : n ≤ 1000000) : (n + 1) * 32 ≤ roomMax := by have : roomMax = 140737488355328 := rfl; omega
theorem Dr.fin {n0 P : Nat} {G0 G : Heap} {k κ b ver : Nat} {l : List Sted} {rs : List (Int × Int)} {y : Value} (D : Dr n0 P G0 G k κ b ver l rs y) :
    ∃ b' ver' G'', finish n0 G [slc b 0 ver l.length l.length] = (slc b' 0 ver' l.length l.length, G'') ∧ StD n0 G'' b' ver' l ∧ Src G'' P k ∧ n0 ≤ G''.length ∧ ∀ j, j < n0 → j ≠ P → G''[j]? = G0[j]? := by
  have h0 := D.k0
  have h1 := D.k1
  have hP := D.lt
  have e3 : (G.take n0).length = n0 := by simp; omega
  have hs := D.ls.pre Pre.takes
  obtain ⟨b', ver', G'', f, sd, p⟩ := StD.fin (H := G.take n0) (G := G) (b := b) (ver := ver) (l := l) (rest := []) (by rw [e3]; exact hs) Pre.takes rfl
  rw [e3] at f sd
  have eg : ∀ j, j < n0 → G''[j]? = G[j]? := fun j hj => by
    rw [p.get (by omega), List.getElem?_take, if_pos hj]
  exact ⟨b', ver', G'', f, sd, D.src.mv (eg P hP) fun j hj => eg j (by omega), by have := p.len; omega, fun j hj hp => by rw [eg j hj]; exact D.get j hj hp⟩
theorem call469 {G : Heap} {P k : Nat} (h : Src G P k) (hk : k ≤ 10000000) :
    ∃ r, Call tab false 469 [adr P 0 0] G = some r ∧ ∃ l b ver G1 k', r = (slc b 0 ver l.length l.length, G1) ∧ DrL l ∧ l.length ≤ 5 ∧ StD G.length G1 b ver l ∧ Src G1 P k' ∧ G.length ≤ G1.length ∧ ∀ j, j < G.length → j ≠ P → G1[j]? = G[j]? := by
  refine Call_ex t469 (.inl rfl) rfl ?_
  obtain ⟨G1, hG1⟩ : ∃ G1, G1 = G ++ [(⟨[], 5, 0, false⟩ : Blk)] := ⟨_, rfl⟩
  have D1 : Dr G.length P G G1 k (G.length + 1) G.length 0 [] [] (.slice none 0 0) := by rw [hG1]; exact Dr.new h
  obtain ⟨N, G2, c2, hN, D2⟩ := D1.pick (n := 6) (by omega) (by omega)
  obtain ⟨N, rfl⟩ := Int.eq_ofNat_of_zero_le hN.1
  have hf0 : fill (rep 0 [.int .i8 0, .int .i8 0, .int .i8 0, .int .i8 0, .slice none 0 0]) [] = some [] := rfl
  simp [c469, k469, hf0, ← hG1, c2, wbOf]
  refine WK_loop (fun i e G' => e 0 = adr P 0 0 ∧ e 4 = .int .i64 ((N - i : Nat) : Int) ∧ ∃ l, l.length = i ∧ DrL l ∧ ∃ b ver κ, e 3 = slc b 0 ver l.length l.length ∧ Dr G.length P G G' (k + 2 + i * 200) κ b ver l [] (.slice none 0 0)) N ?_ (Nat.zero_le _)
    ⟨by simp, by simp, [], rfl, ⟨rfl, fun s hs => (by cases hs)⟩, G.length, 0, G.length + 1, by simp, D2.le (by omega)⟩
  rintro i e G' _ hi ⟨h0, h4, l, hl, L, b, ver, κ, h3, D⟩
  subst hl
  by_cases hiN : l.length = N
  · have hz : N - l.length = 0 := by omega
    rw [hz] at h4
    obtain ⟨b', ver', G'', f, sd, sr, hle, hget⟩ := D.fin
    simp [b469_2, h0, h4, h3, f]
    exact ⟨l, b', ver', G'', ⟨rfl, rfl⟩, L, by omega, sd, ⟨_, sr⟩, hle, hget⟩
  · have hpos : 0 < N - l.length := by omega
    have hlt : l.length < N := by omega
    have e7 : IntKind.wrap .i64 (((N - l.length : Nat) : Int) - 1) = ((N - (l.length + 1) : Nat) : Int) := by rw [wrap64 (by omega)]; omega
    have hR0 : ∀ a : Int, fill [.int .i8 0, .int .i8 0, .int .i8 0, .int .i8 0, .slice none 0 0] [(0, 1, .int .i8 a)] = some [.int .i8 a, .int .i8 0, .int .i8 0, .int .i8 0, .slice none 0 0] := fun _ => rfl
    obtain ⟨a, G3, c3, ha, D3⟩ := D.pick (n := 3) (by omega) (by omega)
    have ea : IntKind.wrap .i8 a = a := wrap8 (by omega)
    by_cases hn0 : l.length = 0
    · have hb0 : ((l.length : Int) == 0) = true := by simp [hn0]
      simp [b469_2, h0, h3, h4, hpos, c3, ea, wbOf, hR0, stc5, stc5a, stc5b, stc5c, stc5d, ldc5a, hb0]
      refine inner469 (x := slc b 0 ver l.length l.length) (N := .int .i64 ((N - l.length : Nat) : Int)) (a0 := 0) (b0 := 0) (c0 := 0) (d0 := 0) D3 (by omega) (by simp [h0]) (by simp [h3]) (by simp [h4]) (by simp) (by simp) fun e' G' rs y q0 q3 q4 q5 D6 R => ?_
      obtain ⟨G7, c7, D7⟩ := Dr.step (s := ⟨0, 0, 0, 0, rs⟩) D6 (room32 (by omega))
      simp only [stC] at c7
      have hf := fill_one (z := [.int .i8 0, .int .i8 0, .int .i8 0, .int .i8 0, .slice none 0 0]) (v := agg [.int .i8 (0), .int .i8 (0), .int .i8 (0), .int .i8 (0), y]) (esz := 5) rfl rfl
      have hk : kindB ⟨0, 0, 0, 0, rs⟩ l.length = true := by rfl
      simp [q0, q3, q4, q5, ldc5, hf, c7, e7]
      exact ⟨hlt, l ++ [⟨0, 0, 0, 0, rs⟩], by simp, L.push (by omega) (okSt_new R hk) R.2.2, b, ver + 1, by simp, _, D7.le (by omega)⟩
    · have hb0 : ((l.length : Int) == 0) = false := by simpa using hn0
      have ha' : a = 0 ∨ a = 1 ∨ a = 2 := by omega
      rcases ha' with rfl | rfl | rfl
      · skip
        simp [b469_2, h0, h3, h4, hpos, c3, ea, wbOf, hR0, stc5, stc5a, stc5b, stc5c, stc5d, ldc5a, hb0, hn0]
        refine inner469 (x := slc b 0 ver l.length l.length) (N := .int .i64 ((N - l.length : Nat) : Int)) (a0 := 0) (b0 := 0) (c0 := 0) (d0 := 0) D3 (by omega) (by simp [h0]) (by simp [h3]) (by simp [h4]) (by simp) (by simp) fun e' G' rs y q0 q3 q4 q5 D6 R => ?_
        obtain ⟨G7, c7, D7⟩ := Dr.step (s := ⟨0, 0, 0, 0, rs⟩) D6 (room32 (by omega))
        simp only [stC] at c7
        have hf := fill_one (z := [.int .i8 0, .int .i8 0, .int .i8 0, .int .i8 0, .slice none 0 0]) (v := agg [.int .i8 (0), .int .i8 (0), .int .i8 (0), .int .i8 (0), y]) (esz := 5) rfl rfl
        have hk : kindB ⟨0, 0, 0, 0, rs⟩ l.length = true := by rfl
        simp [q0, q3, q4, q5, ldc5, hf, c7, e7]
        exact ⟨hlt, l ++ [⟨0, 0, 0, 0, rs⟩], by simp, L.push (by omega) (okSt_new R hk) R.2.2, b, ver + 1, by simp, _, D7.le (by omega)⟩
      · obtain ⟨w, G4, c4, hw, D4⟩ := D3.pick (n := l.length) (by omega) (by omega)
        have ew : IntKind.wrap .i8 w = w := wrap8 (by omega)
        simp [b469_2, h0, h3, h4, hpos, c3, ea, wbOf, hR0, stc5, stc5a, stc5b, stc5c, stc5d, ldc5a, hb0, hn0, c4, ew]
        refine inner469 (x := slc b 0 ver l.length l.length) (N := .int .i64 ((N - l.length : Nat) : Int)) (a0 := 1) (b0 := w) (c0 := 0) (d0 := 0) D4 (by omega) (by simp [h0]) (by simp [h3]) (by simp [h4]) (by simp) (by simp) fun e' G' rs y q0 q3 q4 q5 D6 R => ?_
        obtain ⟨G7, c7, D7⟩ := Dr.step (s := ⟨1, w, 0, 0, rs⟩) D6 (room32 (by omega))
        simp only [stC] at c7
        have hf := fill_one (z := [.int .i8 0, .int .i8 0, .int .i8 0, .int .i8 0, .slice none 0 0]) (v := agg [.int .i8 (1), .int .i8 (w), .int .i8 (0), .int .i8 (0), y]) (esz := 5) rfl rfl
        have hk : kindB ⟨1, w, 0, 0, rs⟩ l.length = true := by simp [kindB, in1, stillB]; omega
        simp [q0, q3, q4, q5, ldc5, hf, c7, e7]
        exact ⟨hlt, l ++ [⟨1, w, 0, 0, rs⟩], by simp, L.push (by omega) (okSt_new R hk) R.2.2, b, ver + 1, by simp, _, D7.le (by omega)⟩
      · obtain ⟨w, G4, c4, hw, D4⟩ := D3.pick (n := l.length) (by omega) (by omega)
        have ew : IntKind.wrap .i8 w = w := wrap8 (by omega)
        obtain ⟨u, G5, c5, hu, D5⟩ := D4.pick (n := 7) (by omega) (by omega)
        have eu : IntKind.wrap .i64 (u - 3) = u - 3 := wrap64 (by omega)
        have eu' : IntKind.wrap .i8 (u - 3) = u - 3 := wrap8 (by omega)
        obtain ⟨v, G6, c6, hv, D6⟩ := D5.pick (n := 3) (by omega) (by omega)
        have ev : IntKind.wrap .i64 (1 + v) = 1 + v := wrap64 (by omega)
        have ev' : IntKind.wrap .i8 (1 + v) = 1 + v := wrap8 (by omega)
        simp [b469_2, h0, h3, h4, hpos, c3, ea, wbOf, hR0, stc5, stc5a, stc5b, stc5c, stc5d, ldc5a, hb0, hn0, c4, ew, c5, eu, eu', c6, ev, ev']
        refine inner469 (x := slc b 0 ver l.length l.length) (N := .int .i64 ((N - l.length : Nat) : Int)) (a0 := 2) (b0 := w) (c0 := u - 3) (d0 := 1 + v) D6 (by omega) (by simp [h0]) (by simp [h3]) (by simp [h4]) (by simp) (by simp) fun e' G' rs y q0 q3 q4 q5 D6 R => ?_
        obtain ⟨G7, c7, D7⟩ := Dr.step (s := ⟨2, w, u - 3, 1 + v, rs⟩) D6 (room32 (by omega))
        simp only [stC] at c7
        have hf := fill_one (z := [.int .i8 0, .int .i8 0, .int .i8 0, .int .i8 0, .slice none 0 0]) (v := agg [.int .i8 (2), .int .i8 (w), .int .i8 (u - 3), .int .i8 (1 + v), y]) (esz := 5) rfl rfl
        have hk : kindB ⟨2, w, u - 3, 1 + v, rs⟩ l.length = true := by simp [kindB, in1, stillB]; omega
        simp [q0, q3, q4, q5, ldc5, hf, c7, e7]
        exact ⟨hlt, l ++ [⟨2, w, u - 3, 1 + v, rs⟩], by simp, L.push (by omega) (okSt_new R hk) R.2.2, b, ver + 1, by simp, _, D7.le (by omega)⟩
theorem StD.low {n0 n1 b ver : Nat} {G : Heap} {l : List Sted} (h : StD n0 G b ver l) (hn : n1 ≤ n0) : StD n1 G b ver l := by
  obtain ⟨ys, β, h⟩ := h; exact ⟨ys, β, h.low hn⟩
theorem call274 {pu : Bool} {H : Heap} {x : Value} {bs : List Int} (hx : By H x bs) (hn : bs.length ≤ 1000000) :
    ∃ l y G, Call tab pu 274 [x] H = some (y, G) ∧ Pre H G ∧ StS G y l ∧ DrL l ∧ l.length ≤ 5 := by
  obtain ⟨c1, s1⟩ := call315 (pu := true) hx.s hx.b hn
  obtain ⟨H1, hH1⟩ : ∃ H1, H1 = H ++ [srB x 0 0] := ⟨_, rfl⟩
  rw [← hH1] at c1 s1
  obtain ⟨_, c2, l, b, ver, G2, k', rfl, L, hl, sd, s2, hle, hget⟩ := call469 s1 (by omega)
  have lH1 : H1.length = H.length + 1 := by rw [hH1]; simp
  have p1 : Pre H H1 := by rw [hH1]; exact Pre.one
  have t2' : G2.take H.length = H1.take H.length := by
    apply List.ext_getElem?
    intro i
    rw [List.getElem?_take, List.getElem?_take]
    by_cases hi : i < H.length
    · rw [if_pos hi, if_pos hi, hget i (by omega) (by omega)]
    · rw [if_neg hi, if_neg hi]
  have t2 : G2.take H.length = H := by rw [t2', p1.take]
  have p2 : Pre H G2 := ⟨G2.drop H.length, by conv => lhs; rw [← List.take_append_drop H.length G2, t2]⟩
  have x2 : elder H.length false H1 (slc b 0 ver l.length l.length, G2) = some (slc b 0 ver l.length l.length, G2) := elder_same (by rw [t2, p1.take])
  obtain ⟨b', ver', G3, f, sd', p3⟩ := (sd.low (n1 := H.length) (by omega)).fin p2 (rest := []) rfl
  refine ⟨l, slc b' 0 ver' l.length l.length, G3, Call_wp t274 (.inr rfl) rfl ?_, p3, sd'.sts, L, hl⟩
  have f' : finish H.length G2 [slc b 0 ver l.length l.length] = (slc b' 0 ver' l.length l.length, G3) := f
  simp [c274, k274, c1, c2, x2, wbOf, f']
theorem call275 {pu : Bool} {H : Heap} {x y : Value} {s : Sted} (hx : Rw H x s) (hy : Rw H y s) (hn : s.rows.length ≤ 1000000) : Call tab pu 275 [agg (stC s x), agg (stC s y)] H = some (.bool true, H) := by
  refine Call_wp t275 (.inr rfl) rfl ?_
  obtain ⟨H1, hH1⟩ : ∃ H1, H1 = H ++ [(⟨stC s x, 1, 0, false⟩ : Blk)] := ⟨_, rfl⟩
  obtain ⟨H2, hH2⟩ : ∃ H2, H2 = H1 ++ [(⟨stC s y, 1, 0, false⟩ : Blk)] := ⟨_, rfl⟩
  have p1 : Pre H H1 := by rw [hH1]; exact Pre.one
  have p2 : Pre H1 H2 := by rw [hH2]; exact Pre.one
  have r1 : rd H2 H.length 0 0 5 = some (stC s x) := p2.rd (by rw [hH1]; exact rd_last rfl rfl)
  have r2 : rd H2 H1.length 0 0 5 = some (stC s y) := by rw [hH2]; exact rd_last rfl rfl
  have c := call381 (pu := true) r1 r2 (hx.pre (p1.trans p2)) (hy.pre (p1.trans p2)) hn
  rw [sameSt_self] at c
  simp only [stC] at hH1 hH2 ⊢
  simp [c275, k275, ← hH1, ← hH2, c, (p1.trans p2).take]
theorem two_sts {G : Heap} {s t : Sted} {y z : Value} (hy : Rw G y s) (hz : Rw G z t) : StS (G ++ [⟨stC s y ++ stC t z, 5, 0, false⟩]) (slc G.length 0 0 2 2) [s, t] := by
  refine ⟨stC s y ++ stC t z, slr_new rfl, fun i hi => ?_⟩
  have : i = 0 ∨ i = 1 := by simp at hi; omega
  rcases this with rfl | rfl
  · exact ⟨y, rfl, hy.pre Pre.one⟩
  · exact ⟨z, rfl, hz.pre Pre.one⟩
theorem c56_21 {H G : Heap} {e : Env} {x8 x28 y2 : Value} {D : List (List Int)} {v T : Int} {bs : List Int} (p : Pre H G) (hb : By G y2 bs) (hbs : bs.length ≤ 5000) (hD : Bk G x8 D) (hw : BkW D) (hk : okB D = true) (vs28 : StS G x28 (encB D v))
    (h1 : e 1 = y2) (h8 : e 8 = x8) (h28 : e 28 = x28) (h29 : e 29 = .int .i64 T) (h37 : e 37 = .int .i64 T) : WK tab H.length false (tailC 21 k56) [] e G (QL H.length H) := by
  obtain ⟨hk1, hk2⟩ := okB_fs2 hk
  by_cases hlt : D.length < 2
  · have hlt' : (D.length : Int) < 2 := by omega
    simp [tailC, k56, h29, h37, h8, hD.lenV, hlt', QL, p.take]
  · have hlt' : ¬ (D.length : Int) < 2 := by omega
    obtain ⟨k0, c259, hk0, hkn⟩ := call259 (pu := true) (n := D.length) hb (by omega) (by omega)
    obtain ⟨k, rfl⟩ := Int.eq_ofNat_of_zero_le hk0
    have hkl : k < D.length := by omega
    obtain ⟨q, off, ver, ha, hr⟩ := Bk.get hD hw (i := 0) (by omega)
    obtain ⟨q', off', ver', ha', hr'⟩ := Bk.get hD hw hkl
    have w0 := hw.fr (i := 0) (by omega)
    have wk := hw.fr hkl
    obtain ⟨_, c165, y, G1, rfl, g1⟩ := call165 (pu := true) (H := G) (base := 0) w0 wk
    have p1 := g1.pre
    obtain ⟨_, c164, z, G2, rfl, g2⟩ := call164 (pu := true) (H := G1) (base := 0) w0 wk
    have p2 := g2.pre
    have hin : in1 0 0 39 = true := rfl
    have e1 : betS (fr D 0) (fr D k) 0 = outB (fr D 0) (fr D k) 0 25 := by rw [betS, if_pos (okFs_get hk1 (by omega)), if_pos (okFs_get hk1 hkl), if_pos hin]
    have e2 : betC (fr D 0) (fr D k) 0 = 0 := by rw [betC, if_pos (okFs_get hk1 (by omega)), if_pos (okFs_get hk1 hkl), if_pos hin]
    have hB : BetW (fr D 0) (fr D k) ((0 : Nat) : Int) (outB (fr D 0) (fr D k) 0 25) := outB_in (Nat.le_refl _)
    have hok := outB_ok (f := fr D 0) (g := fr D k) (base := 0) (k := 25)
    rw [e1, e2] at c165 c164
    rw [e1] at g1 g2
    generalize outB (fr D 0) (fr D k) 0 25 = t at *
    have s28b := vs28.pre (p1.trans p2)
    obtain ⟨q3, off3, ver3, y0, ha3, hr3, hw3⟩ := s28b.get (i := 0) (by rw [encB_len]; omega)
    have e0 : at0 (encB D v) 0 = encS D v 0 := encB_at (by omega)
    rw [e0] at hr3 hw3
    obtain ⟨t1, t2⟩ := two_dec (s := encS D v 0) (t := t) hw hk1 (by omega) hkl (.inr ⟨_, rfl⟩) hB
    have hokE := encS_ok (b := D) (lim := v) (i := 0)
    generalize encS D v 0 = s at *
    have S := two_sts (G := G2) hw3 (g2.sl)
    obtain ⟨G3, hG3⟩ : ∃ G3, G3 = G2 ++ [(⟨stC s y0 ++ stC t z, 5, 0, false⟩ : Blk)] := ⟨_, rfl⟩
    rw [← hG3] at S
    have p3 : Pre G2 G3 := by rw [hG3]; exact Pre.one
    have hW : StsW [s, t] := okSts_W t1 fun u hu => by
      have h1 := hokE.2.2
      have h2 := hok.2.2
      simp at hu
      rcases hu with rfl | rfl <;> omega
    obtain ⟨r, G4, β, c204, p4, ow⟩ := rs204 hW G3 _ S
    have eD : decR [s, t] = decL [s, t] 2 := by rw [decR, if_pos t1]; rfl
    have eC : depC [s, t] = 0 := by rw [depC, if_pos t1]
    rw [eC] at c204
    rw [eD, decL_len] at ow
    have hB4 : Bk G4 r (decL [s, t] 2) := by unfold Bk; rw [decL_len]; exact ow.sl
    have hDW : BkW (decL [s, t] 2) := decW t1
    obtain ⟨q5, off5, ver5, ha5, hr5⟩ := Bk.get hB4 hDW (i := 1) (by rw [decL_len]; omega)
    rw [t2] at hr5
    have p14 : Pre G G4 := ((p1.trans p2).trans p3).trans p4
    have hr1' := p1.rd hr
    have hr1'' := p1.rd hr'
    have hr4 := p14.rd hr'
    have c275 := call275 (pu := true) (H := G4) (s := t) (x := y) (y := z) (g1.sl.pre ((p2.trans p3).trans p4)) (g2.sl.pre (p3.trans p4)) (by have := hok.2.2; omega)
    have q1 := eqV_iv (k := .u16) (n := 12) wk.len wk.len
    have hf : fill (rep 2 [.int .i8 0, .int .i8 0, .int .i8 0, .int .i8 0, .slice none 0 0]) [(0, 5, agg (stC s y0)), (5, 5, agg (stC t z))] = some (stC s y0 ++ stC t z) := rfl
    have hlenr : lenV r = some (.int .i64 2) := by
      have := hB4.lenV
      rw [decL_len] at this
      exact this
    have hQ := (p.trans p14).take
    have ha : idxAV 12 x8 (.int .i64 0) = some (adr q off ver) := ha
    have ha3 : idxAV 5 x28 (.int .i64 0) = some (adr q3 off3 ver3) := ha3
    have ha5 : idxAV 12 r (.int .i64 1) = some (adr q5 off5 ver5) := ha5
    simp only [stC, List.cons_append, List.nil_append] at c165 c164 hr3 hf c275 hG3
    simp [tailC, k56, h1, h29, h37, h8, h28, hD.lenV, hlt', c259, ha, hr, ha', hr', agg_cs, c165, stc5, hr1', hr1'', c164, ha3, hr3, ldc5, hf, ← hG3, c204, c275, hlenr, ha5, hr5, hr4, q1, QL, hQ, skip]
theorem cost82 {pu : Bool} {H : Heap} {s : Sted} {y : Value} (h : Rw H y s) (ho : okS s) : Call tab pu 82 [agg (stC s y)] H = some (tup [.int .i64 (stCost s), .int .i64 0], H) := by
  obtain ⟨h1, h2, h3⟩ := ho
  have c := call82 (pu := pu) (H := H) (a := s.a) (b := s.b) (c := s.c) (d := s.d) h.lenV (by simp only [i8]; omega)
  rw [costR, if_pos ⟨⟨h1, h2⟩, h3⟩] at c
  exact c
theorem encB_okS {D : List (List Int)} {v : Int} {i : Nat} (hi : i < D.length) : okS (at0 (encB D v) i) := by rw [encB_at hi]; exact encS_ok
def U21 : Cd := tailC 21 k56
structure L56 (G : Heap) (x8 x15 x28 x33 : Value) (D : List (List Int)) (v : Int) : Prop where
  bk : Bk G x8 D
  vs15 : StS G x15 (encB D 40)
  vs28 : StS G x28 (encB D v)
  vs33 : SlR G x33 1 D.length (cs .i64 (encP D v D.length).2)
theorem L56.pre {G G' : Heap} {x8 x15 x28 x33 : Value} {D : List (List Int)} {v : Int} (p : Pre G G') (h : L56 G x8 x15 x28 x33 D v) : L56 G' x8 x15 x28 x33 D v :=
  ⟨SlR.pre p h.bk, h.vs15.pre p, h.vs28.pre p, h.vs33.pre p⟩
theorem c56_19 {H G : Heap} {e : Env} {x8 x15 x28 x33 y2 : Value} {D : List (List Int)} {v : Int} {bs : List Int} (p : Pre H G) (hb : By G y2 bs) (hbs : bs.length ≤ 5000) (hw : BkW D) (hk : okB D = true) (hv : 0 ≤ v ∧ v ≤ 40) (L : L56 G x8 x15 x28 x33 D v)
    (h1 : e 1 = y2) (h8 : e 8 = x8) (h15 : e 15 = x15) (h24 : e 24 = .int .i64 v) (h28 : e 28 = x28) (h29 : e 29 = .int .i64 (sumC (encB D v) D.length)) (h33 : e 33 = x33) : WK tab H.length false (tailC 19 k56) [] e G (QL H.length H) := by
  obtain ⟨hk1, hk2⟩ := okB_fs2 hk
  have hT : tailC 19 k56 = headC 2 (tailC 19 k56) U21 := rfl
  rw [hT]
  simp [headC, tailC, k56]
  refine WP_count 38 D.length D.length rfl (fun i e G' => e 1 = y2 ∧ e 8 = x8 ∧ e 15 = x15 ∧ e 24 = .int .i64 v ∧ e 28 = x28 ∧ e 29 = .int .i64 (sumC (encB D v) D.length) ∧ e 33 = x33 ∧ e 37 = .int .i64 (sumC (encB D v) i) ∧ Pre G G') (by omega) ?_ ?_ (by simp)
    ⟨by simp [h1], by simp [h8], by simp [h15], by simp [h24], by simp [h28], by simp [h29], by simp [h33], by simp [sumC, itN_zero], .refl⟩
  · rintro i e G' _ hi hii e4 h38 ⟨h1, h8, h15, h24, h28, h29, h33, h37, p'⟩
    have L' := L.pre p'
    obtain ⟨q, off, ver, y0, ha, hr, hy0⟩ := L'.vs28.get (i := i) (by rw [encB_len]; exact hi)
    obtain ⟨q2, off2, ver2, y2', ha2, hr2, hy2⟩ := L'.vs15.get (i := i) (by rw [encB_len]; exact hi)
    obtain ⟨q3, off3, ver3, ha3, hr3⟩ := L'.vs33.get1 hi
    rw [elem_i (by rw [encP_len.2]; exact hi)] at hr3
    have c1 := cost82 (pu := true) hy0 (encB_okS hi)
    obtain ⟨_, c187, z, G2, rfl, g2⟩ := call187 (pu := true) (p := (i : Int)) L'.bk hw (by omega)
    have p2 := g2.pre
    have hbc : bsC D (i : Int) = 0 := by rw [bsC, if_pos hk, if_pos (by omega)]
    have hbs2 : bsS D (i : Int) = at0 (encB D 40) i := by
      rw [bsS, if_pos hbc, encB_at hi, encS_all (by omega), Int.toNat_natCast]
    rw [hbc, hbs2] at c187
    rw [hbs2] at g2
    have c2 := cost82 (pu := true) (hy2.pre p2) (encB_okS hi)
    have c275 := call275 (pu := true) (H := G2) (s := at0 (encB D 40) i) g2.sl (hy2.pre p2) (by have := (encB_okS (D := D) (v := 40) hi).2.2; omega)
    have hle : ¬ stCost (at0 (encB D v) i) < stCost (at0 (encB D 40) i) := by
      rw [encB_at hi, encB_at hi]
      have := encS_le (b := D) (lim := v) (i := i) (by omega)
      omega
    have hr2' := p2.rd hr2
    have hr3' := p2.rd hr3
    have hd0 := (encP_ok (b := D) (lim := v) (i := D.length) i hi).1
    have hd1 := enc_lim (b := D) (lim := v) hv.1 (k := D.length) i hi
    have hd0' : ¬ nth (encP D v D.length).2 i < 0 := by omega
    have hd1' : ¬ v < nth (encP D v D.length).2 i := by omega
    have hSC : StsC (encB D v) := encP_C (by omega)
    have hs1 := sumC_ok hSC (k := i) (by rw [encB_len]; omega)
    have hs2 := sumC_ok hSC (k := i + 1) (by rw [encB_len]; omega)
    rw [sumC_succ] at hs2
    have ew : IntKind.wrap .i64 (sumC (encB D v) i + stCost (at0 (encB D v) i)) = sumC (encB D v) (i + 1) := by rw [sumC_succ, wrap64 (by omega)]
    have hii' : (i : Int) < D.length := by omega
    simp only [stC] at hr hr2' c1 c2 c187 c275
    simp [b56_2, h38, h33, L'.vs33.lenV, hii', h28, ha, hr, c1, h8, c187, stc5, ldc5, h15, ha2, hr2', c2, ha3, hr3', hd0', h24, hd1', c275, hle, skip, h37, ew, e4]
    exact ⟨by simp [h1], by simp [h29], p'.trans p2⟩
  · rintro e G' _ h38 ⟨h1, h8, h15, h24, h28, h29, h33, h37, p'⟩
    have L' := L.pre p'
    simp [b56_2, h38, h33, L'.vs33.lenV]
    exact c56_21 (T := sumC (encB D v) D.length) (p.trans p') (hb.pre p') hbs L'.bk hw hk L'.vs28 (by simp [h1]) (by simp [h8]) (by simp [h28]) (by simp [h29]) (by simp [h37])
def U19 : Cd := tailC 19 k56
theorem encB_rows {D : List (List Int)} {v : Int} : ∀ s ∈ encB D v, s.rows.length ≤ 1000000 := fun s hs => by
  have := encP_rows (b := D) (lim := v) (n := D.length) s hs
  omega
theorem encB_W {D : List (List Int)} {v : Int} (hw : BkW D) (hk : okB D = true) : StsW (encB D v) := okSts_W (encB_ok hw hk) encB_rows
theorem c56_12 {H G : Heap} {e : Env} {x8 x15 y2 : Value} {D : List (List Int)} {bs : List Int} (p : Pre H G) (hb : By G y2 bs) (hbs : bs.length ≤ 5000) (hw : BkW D) (hk : okB D = true) (hD : Bk G x8 D) (vs15 : StS G x15 (encB D 40))
    (h1 : e 1 = y2) (h8 : e 8 = x8) (h15 : e 15 = x15) (h16 : e 16 = .int .i64 (sumC (encB D 40) D.length)) : WK tab H.length false (tailC 12 k56) [] e G (QL H.length H) := by
  obtain ⟨hk1, hk2⟩ := okB_fs2 hk
  have hT : tailC 12 k56 = headC 7 (tailC 12 k56) U19 := rfl
  rw [hT]
  obtain ⟨v, c259, hv0, hv4⟩ := call259 (pu := true) (n := 4) hb (by omega) (by omega)
  have hv : 0 ≤ v ∧ v ≤ 40 := by omega
  obtain ⟨l1, l2⟩ := encL_eq (lim := v) hk hv
  have l3 := encC_zero (lim := v) hk hv
  obtain ⟨_, c216, x25, G1, rfl, X1, p1⟩ := call216 (pu := true) (lim := v) hD hw (by omega)
  obtain ⟨_, c215, x28, G2, rfl, X2, p2⟩ := call215 (pu := true) (lim := v) (SlR.pre p1 hD) hw (by omega)
  rw [l1] at X1 X2
  rw [l2, l3] at c216 c215
  have W := encB_W (v := v) hw hk
  have hok := encB_ok (lim := v) hw hk
  have eD : depR (encB D v) = (encP D v D.length).2 := by rw [depR, if_pos hok, encB_len, encB_dep (Nat.le_refl _)]
  have eC : depC (encB D v) = 0 := by rw [depC, if_pos hok]
  have eR : decR (encB D v) = D := by rw [decR, if_pos hok, encB_len, encB_dec hw hk]
  have eL : (encP D v D.length).2.length = D.length := encP_len.2
  obtain ⟨r31, G3, β3, c179, p3, o3⟩ := rs179 W G2 _ X2.sts
  obtain ⟨r33, G4, β4, c178, p4, o4⟩ := rs178 W G3 _ (X2.sts.pre p3)
  obtain ⟨r35, G5, β5, c204, p5, o5⟩ := rs204 W G4 _ ((X2.sts.pre p3).pre p4)
  rw [eC] at c179 c178 c204
  rw [eD, eL] at o3 o4
  rw [eR] at o5
  have vs31 := (o3.sl.pre p4).pre p5
  have vs33 := o4.sl.pre p5
  have p25 := (p3.trans p4).trans p5
  have p15 := p2.trans p25
  have pG := p1.trans p15
  have hD5 := SlR.pre pG hD
  have hB5 : Bk G5 r35 D := o5.sl
  have vs25 := X1.sts.pre p15
  have vs28 := X2.sts.pre p25
  have c158 := call158 (pu := true) vs25 vs28 (by rw [encB_len]; omega) encB_rows
  rw [sameSts_self] at c158
  have c262 := call262 (pu := true) (G := G5) (x := r31) (y := r33) (l := (encP D v D.length).2) (by rw [eL]; exact vs31) (by rw [eL]; exact vs33) (by omega)
  have c91 := call91 (pu := true) hB5 hD5 (by omega) hw
  have hlt : ¬ sumC (encB D v) D.length < sumC (encB D 40) D.length := by
    have := sumC_le (l := encB D 40) (m := encB D v) (k := D.length) fun i hi => by rw [encB_at hi, encB_at hi]; exact encS_le (by omega)
    omega
  simp [headC, tailC, k56, h1, h8, c259, c216, c215, c179, c178, c204, c158, hlt, h16, c262, c91, skip]
  exact c56_19 (D := D) (v := v) (p.trans pG) (hb.pre pG) hbs hw hk hv ⟨hD5, vs15.pre pG, vs28, vs33⟩ (by simp [h1]) (by simp [h8]) (by simp [h15]) (by simp) (by simp) (by simp) (by simp)
def U12 : Cd := tailC 12 k56
theorem DrL.okS {l : List Sted} (h : DrL l) {i : Nat} (hi : i < l.length) : okS (at0 l i) := by
  have h1 := okSt_a (okSts_get h.ok hi)
  have h2 := h.r _ (at0_mem hi)
  exact ⟨h1.1, h1.2, by omega⟩
theorem call56 {H : Heap} {y1 y2 : Value} {b1 b2 : List Int} (h1 : By H y1 b1) (h2 : By H y2 b2) : Call tab false 56 [y1, y2] H = some (.bool true, H) := by
  refine Call_wp t56 (.inr rfl) rfl ?_
  show WK tab H.length false k56 [] (ini [y1, y2]) H (QL H.length H)
  have c1 := call169 (pu := true) h1
  have c2 := call169 (pu := true) h2
  have hT : k56 = headC 12 k56 U12 := rfl
  rw [hT]
  by_cases g1 : 4096 < b1.length
  · simp [headC, k56, c1, g1, QL, skip]
  by_cases g2 : 4096 < b2.length
  · simp [headC, k56, c1, g1, c2, g2, QL, skip]
  obtain ⟨l, x5, G1, c274, p1, s5, L, hl⟩ := call274 (pu := true) h1 (by omega)
  have hk := L.ok
  have W := L.W
  obtain ⟨D, hD⟩ : ∃ D, D = decL l l.length := ⟨_, rfl⟩
  have hn : D.length = l.length := by rw [hD]; exact decL_len
  have hw : BkW D := by rw [hD]; exact decW hk
  have hkB : okB D = true := by rw [hD]; exact dec_okB hk
  have eC : depC l = 0 := by rw [depC, if_pos hk]
  have eR : decR l = D := by rw [decR, if_pos hk, hD]
  obtain ⟨r6, G2, β6, c204, p2, o6⟩ := rs204 W G1 _ s5
  obtain ⟨r8, G3, β8, c203, p3, o8⟩ := rs203 W G2 _ (s5.pre p2)
  rw [eC] at c204 c203
  rw [eR] at o6 o8
  have b6 : Bk G2 r6 D := o6.sl
  have b8 : Bk G3 r8 D := o8.sl
  have c175 := call175 (pu := true) ((s5.pre p2).pre p3) W
  rw [scR, if_pos hk] at c175
  have hv : (0 : Int) ≤ 40 ∧ (40 : Int) ≤ 40 := by omega
  obtain ⟨q1, q2⟩ := encL_eq (lim := 40) hkB hv
  have q3 := encC_zero (lim := 40) hkB hv
  obtain ⟨_, c212, x12, G4, rfl, X4, p4⟩ := call212 (pu := true) b8 hw (by omega)
  obtain ⟨_, c211, x15, G5, rfl, X5, p5⟩ := call211 (pu := true) (SlR.pre p4 b8) hw (by omega)
  rw [q1] at X4 X5
  rw [q2, q3] at c212 c211
  have p45 := p4.trans p5
  have p35 := p3.trans p45
  have p15 := (p2.trans p35)
  have p05 := p1.trans p15
  have b6' : Bk G5 r6 D := SlR.pre p35 b6
  have b8' : Bk G5 r8 D := SlR.pre p45 b8
  have s5' := s5.pre p15
  have vs12 := X4.sts.pre p5
  have vs15 := X5.sts
  have WE := encB_W (v := 40) hw hkB
  have hokE := encB_ok (lim := 40) hw hkB
  have c225 := call225 (pu := true) b8' hw (by omega) vs15 WE
  have hbo : bothB D (encB D 40) = true := by rw [bothB, hkB, hokE]; rfl
  rw [chkR, if_pos hbo, encB_len, encB_dec hw hkB, sameBk_self] at c225
  have c91 := call91 (pu := true) b6' b8' (by omega) hw
  have c158 := call158 (pu := true) vs12 vs15 (by rw [encB_len]; omega) encB_rows
  rw [sameSts_self] at c158
  have c163 := call163 (pu := true) vs15 WE
  rw [hokE] at c163
  have hlt : ¬ sumC l l.length < sumC (encB D 40) D.length := by
    have := enc_least hk
    rw [hn, hD]; omega
  have hl15 := vs15.lenV
  rw [encB_len] at hl15
  have hl8 := b8'.lenV
  simp [headC, k56, c1, g1, c2, g2, c274, c204, c203, c175, c212, c211, c225, skip]
  refine WP_count 21 l.length l.length rfl (fun i e G' => e 1 = y2 ∧ e 5 = x5 ∧ e 6 = r6 ∧ e 7 = .int .i64 0 ∧ e 8 = r8 ∧ e 9 = .int .i64 0 ∧ e 10 = .int .i64 (sumC l l.length) ∧ e 11 = .int .i64 0 ∧ e 12 = x12 ∧ e 13 = .int .i64 (sumC (encB D 40) D.length) ∧ e 14 = .int .i64 0 ∧
    e 15 = x15 ∧ e 16 = .int .i64 (sumC (encB D 40) D.length) ∧ e 17 = .int .i64 0 ∧ e 18 = .bool true ∧ e 19 = .int .i64 0 ∧ e 20 = .int .i64 (sumC l i) ∧ G' = G5) (by omega) ?_ ?_ (by simp) (by simp [sumC, itN_zero])
  · rintro i e G' _ hi hii e4 h21 ⟨e1, e5, e6, e7, e8, e9, e10, e11, e12, e13, e14, e15, e16, e17, e18, e19, e20, rfl⟩
    obtain ⟨q, off, ver, y0, ha, hr, hy0⟩ := s5'.get hi
    have cc := cost82 (pu := true) hy0 (L.okS hi)
    have hSC : StsC l := .of W hk
    have hs1 := sumC_ok hSC (k := i) (by omega)
    have hs2 := sumC_ok hSC (k := i + 1) (by omega)
    rw [sumC_succ] at hs2
    have ew : IntKind.wrap .i64 (sumC l i + stCost (at0 l i)) = sumC l (i + 1) := by rw [sumC_succ, wrap64 (by omega)]
    simp only [stC] at hr cc
    simp [b56_1, h21, e5, s5'.lenV, hii, ha, hr, cc, e20, ew, e4, skip]
    simp [e1, e6, e7, e8, e9, e10, e11, e12, e13, e14, e15, e16, e17, e18, e19]
  · rintro e G' _ h21 ⟨e1, e5, e6, e7, e8, e9, e10, e11, e12, e13, e14, e15, e16, e17, e18, e19, e20, rfl⟩
    simp [b56_1, h21, e5, s5'.lenV, e6, e7, e8, e9, e10, e11, e12, e13, e14, e15, e16, e17, e18, e19, e20, c91, c158, hlt, hl15, hl8, c163, skip]
    exact c56_12 (D := D) p05 (h2.pre p05) (by omega) hw hkB b8' vs15 (by simp [e1]) (by simp [e8]) (by simp [e15]) (by simp [e16])
end Fb
