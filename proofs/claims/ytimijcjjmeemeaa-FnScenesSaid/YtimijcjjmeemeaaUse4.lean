/- What each function computes. -/
import Derived.Test.YtimijcjjmeemeaaUse3
set_option linter.unusedVariables false
set_option linter.unusedSimpArgs false
namespace Fb
open Go
theorem may_flat {n0 b : Nat} {vs : List Value} (h : NoRef vs) : may n0 true b vs = true := by
  unfold may
  rw [h.all]; simp
theorem call476 {G : Heap} {P k : Nat} {l : List Ly} (hw : ScW l) (hn : l.length ≤ 1000) (hk : k < l.length) (hP : G[P]? = some ⟨scC l, 27, 0, false⟩) :
    Call tab false 476 [slc P 0 0 l.length l.length, .int .i64 (k : Int), .int .i64 ((k : Int) + 1)] G = some (slc P 0 0 (l.length - 1) l.length, G.set P ⟨scC (drL l k) ++ zL, 27, 0, false⟩) := by
  refine Call_wp t476 (.inl rfl) rfl ?_
  have hPl : P < G.length := (List.getElem?_eq_some_iff.1 hP).1
  obtain ⟨n, hnn⟩ : ∃ n, n = l.length := ⟨_, rfl⟩
  obtain ⟨k1, hk1⟩ : ∃ k1, k1 = k + 1 := ⟨_, rfl⟩
  have ek : (k : Int) + 1 = (k1 : Int) := by omega
  rw [ek, ← hnn]
  have hsl := scC_length hw
  rw [← hnn] at hsl
  have s3 := slcAV3 (H := G) (b := P) (n := n) (lo := k) (hi := k1) hP rfl rfl (by omega) (by omega)
  have hb : ((k : Int) == k1) = false := beq_false_of_ne (by omega)
  have sA := slcAV_hi (H := G) (b := P) (off := 0) (ver := 0) (len := n) (cap := n) (esz := 27) (hi := k) (kk := .i64) hP rfl rfl (by omega)
  have sB := slcAV_lo27 (H := G) (b := P) (n := n) (cap := n) (lo := k1) hP rfl rfl (by omega)
  have hdr : (scC l).drop (k1 * 27) = scC (l.drop k1) := rowsC_drop (f := lyC) (fun a ha => lyC_len (hw a ha))
  have hdl : (l.drop k1).length = n - k1 := by simp [hnn]
  have hwd : ScW (l.drop k1) := fun s hs => hw s (List.mem_of_mem_drop hs)
  have hdc := scC_length hwd
  rw [hdl] at hdc
  have hsrc : srcOf 27 G (slc P (0 + k1 * 27) 0 (n - k1) (n - k1)) = some (n - k1, scC (l.drop k1)) := by
    show (rd G P (0 + k1 * 27) 0 ((n - k1) * 27)).map _ = _
    rw [rd_at hP rfl (by simp only [hsl]; omega)]
    simp only [Nat.zero_add, hdr]
    rw [List.take_of_length_le (by rw [hdc]; omega)]; rfl
  have hwr1 := wr_at (n0 := G.length) (wb := true) (off := 0 + k * 27) (vs := scC (l.drop k1)) (ver := 0) hP rfl rfl (may_flat scC_flat) (by simp only [hdc, hsl]; omega)
  obtain ⟨C1, hC1⟩ : ∃ C1, C1 = splice (scC l) (0 + k * 27) (scC (l.drop k1)) := ⟨_, rfl⟩
  simp only [← hC1] at hwr1
  have htk : (scC l).take (k * 27) = scC (l.take k) := rowsC_take (f := lyC) (fun a ha => lyC_len (hw a ha))
  have hC1' : C1 = scC (drL l k) ++ (scC l).drop ((n - 1) * 27) := by
    rw [hC1]
    unfold splice
    rw [Nat.zero_add, htk, hdc, show k * 27 + (n - k1) * 27 = (n - 1) * 27 by omega]
    congr 1
    show _ = rowsC lyC (l.take k ++ l.drop (k + 1))
    rw [rowsC_app, ← hk1]; rfl
  have hwdr : ScW (drL l k) := fun s hs => hw s (drL_mem s hs)
  have hdrl := scC_length hwdr
  rw [drL_len hk, ← hnn] at hdrl
  have hC1l : C1.length = n * 27 := by rw [hC1', List.length_append, hdrl, List.length_drop, hsl]; omega
  obtain ⟨G1, hG1⟩ : ∃ G1, G1 = G.set P ⟨C1, 27, 0, false⟩ := ⟨_, rfl⟩
  rw [← hG1] at hwr1
  have g1 : G1[P]? = some ⟨C1, 27, 0, false⟩ := by rw [hG1]; exact get_set hP
  have hap : appendTo G.length true 27 52 G (slc P 0 0 k n) (n - k1) (scC (l.drop k1)) = some (slc P 0 0 (n - 1) n, G1) := by
    unfold appendTo slc
    simp only []
    rw [if_pos (by omega), hwr1, show k + (n - k1) = n - 1 by omega]; rfl
  obtain ⟨m, hm⟩ : ∃ m, m = n - 1 := ⟨_, rfl⟩
  rw [← hm] at hap hC1' hdrl
  have sC := slcAV_lohi (H := G1) (b := P) (off := 0) (ver := 0) (len := m) (cap := n) (esz := 27) (lo := m) (hi := n) (kk := .i64) (kk' := .i64) g1 rfl rfl (Nat.le_refl _) (by omega)
  rw [show n - m = 1 by omega] at sC
  have hrep : rep 1 zL = zL := by simp [rep]
  have hwr2 := wr_at (n0 := G.length) (wb := true) (off := 0 + m * 27) (vs := zL) (ver := 0) g1 rfl rfl (may_flat zL_flat) (by
    have hz : zL.length = 27 := rfl
    simp only [hC1l, hz]; omega)
  have hC2 : splice C1 (0 + m * 27) zL = scC (drL l k) ++ zL := by
    unfold splice
    have hz : zL.length = 27 := rfl
    rw [Nat.zero_add, hz, List.drop_eq_nil_of_le (by rw [hC1l]; omega), List.append_nil, hC1', List.take_left' hdrl]
  simp only [hC2] at hwr2
  obtain ⟨G2, hG2⟩ : ∃ G2, G2 = G1.set P ⟨scC (drL l k) ++ zL, 27, 0, false⟩ := ⟨_, rfl⟩
  rw [← hG2] at hwr2
  have hG2' : G2 = G.set P ⟨scC (drL l k) ++ zL, 27, 0, false⟩ := by rw [hG2, hG1]; simp
  have hfin : finish G.length G2 [slc P 0 0 m n] = (slc P 0 0 m n, G2) := by
    rw [finish_1 (by show (true && decide (P < G.length)) = true; simpa using hPl)]
    rw [List.take_of_length_le (by rw [hG2']; simp)]
  rw [← hm, ← hG2']
  unfold zL at hwr2 hrep
  simp only [Nat.zero_add] at s3 sB sC hsrc hwr2
  simp [c476, k476, s3, hb, sA, sB, hsrc, hap, sC, hrep, hwr2, hfin, wbOf]
theorem call284 {H : Heap} {x : Value} {l : List Ly} {k : Nat} {pu : Bool} (h : ScS H x l) (hw : ScW l) (hok : okSc l = true) (hk : k < l.length) :
    Call tab pu 284 [x, .int .i64 (k : Int)] H = some (tup [slc H.length 0 0 (l.length - 1) l.length, .int .i64 0], H ++ [⟨scC (drL l k) ++ zL, 27, 0, false⟩]) := by
  refine Call_wp t284 (.inr rfl) rfl ?_
  have h8 := okSc_len hok
  have c1 := call281 (pu := true) h.1 hw (by omega)
  have c2 := call334 (pu := true) (i := (k : Int)) h.1 (by omega)
  rw [hok] at c1
  have hi : in1 (k : Int) 0 ((l.length : Int) - 1) = true := by simp [in1]; omega
  rw [hi] at c2
  have c3 := call477 (pu := true) h hw (by omega)
  obtain ⟨G1, hG1⟩ : ∃ G1, G1 = H ++ [(⟨scC l, 27, 0, false⟩ : Blk)] := ⟨_, rfl⟩
  rw [← hG1] at c3
  have c4 := call476 (G := G1) (P := H.length) hw (by omega) hk (by rw [hG1]; exact get_last)
  have hset : G1.set H.length ⟨scC (drL l k) ++ zL, 27, 0, false⟩ = H ++ [⟨scC (drL l k) ++ zL, 27, 0, false⟩] := by rw [hG1]; simp
  rw [hset] at c4
  obtain ⟨G2, hG2⟩ : ∃ G2, G2 = H ++ [(⟨scC (drL l k) ++ zL, 27, 0, false⟩ : Blk)] := ⟨_, rfl⟩
  rw [← hG2] at c4 ⊢
  have hel : ∀ v, elder H.length false G1 (v, G2) = some (v, G2) := fun v => elder_same (by rw [hG1, hG2]; simp)
  have w1 : IntKind.wrap .i64 ((k : Int) + 1) = (k : Int) + 1 := wrap64 (by omega)
  have hfin : finish H.length G2 [slc H.length 0 0 (l.length - 1) l.length, .int .i64 0] = (tup [slc H.length 0 0 (l.length - 1) l.length, .int .i64 0], G2) := by
    have hne : old1 H.length (slc H.length 0 0 (l.length - 1) l.length) = false := by
      show (true && decide (H.length < H.length)) = false
      simp
    have g : G2[H.length]? = some ⟨scC (drL l k) ++ zL, 27, 0, false⟩ := by rw [hG2]; exact get_last
    have : pack H.length G2 [slc H.length 0 0 (l.length - 1) l.length, .int .i64 0] [] [] = some ([slc H.length 0 0 (l.length - 1) l.length, .int .i64 0], [⟨scC (drL l k) ++ zL, 27, 0, false⟩]) := by
      rw [pack, if_neg (by rw [hne]; decide)]
      show (match G2[H.length]? with
        | some k => if ([] : List Nat).contains H.length = false ∧ 0 = k.ver ∧ k.ro = false ∧ k.cells.all (old0 H.length) = true then (pack H.length G2 [.int .i64 0] [H.length] ([] ++ [{ k with ver := 0 }])).map fun (q : List Value × List Blk) => (slc (H.length + ([] : List Blk).length) 0 0 (l.length - 1) l.length :: q.1, q.2) else none
        | none => none) = _
      rw [g]
      simp only []
      rw [if_pos ⟨by simp, trivial, trivial, (scC_flat.app zL_flat).all⟩]
      simp
    rw [finish_some this, hG2]; simp [one]
  simp [c284, k284, c1, c2, c3, w1, c4, hel, wbOf, hfin]
theorem zL_eq : zL = lyZ := rfl
theorem rep_zL_len : ∀ {n : Nat}, (rep n zL).length = n * 27
  | 0 => rfl
  | n + 1 => by
    rw [rep, List.length_append, rep_zL_len, show zL.length = 27 from rfl]; omega
theorem rep_zL_flat : ∀ {n : Nat}, NoRef (rep n zL)
  | 0 => fun v hv => by cases hv
  | n + 1 => zL_flat.app rep_zL_flat
theorem call556 {pu : Bool} {G : Heap} {n : Nat} (h0 : 0 < n) (hn : n ≤ 1000) : Call tab pu 556 [.slice none 0 0, .int .i64 (n : Int)] G = some (slc G.length 0 0 0 n, G ++ [⟨rep n zL, 27, 0, false⟩]) := by
  refine Call_wp t556 (.inr rfl) rfl ?_
  have w1 : IntKind.wrap .i64 (n : Int) = (n : Int) := wrap64 (by omega)
  have hlt : ¬ (n : Int) < 0 := by omega
  have hgt : (0 : Int) < (n : Int) := by omega
  have hap := apmO_nil (H := G) (esz := 27) (bytes := 52) (z := zL) h0 (by have : roomMax = 140737488355328 := rfl; omega)
  obtain ⟨G1, hG1⟩ : ∃ G1, G1 = G ++ [(⟨rep n zL, 27, 0, false⟩ : Blk)] := ⟨_, rfl⟩
  rw [← hG1] at hap
  have g1 : G1[G.length]? = some ⟨rep n zL, 27, 0, false⟩ := by rw [hG1]; exact get_last
  have sN : slcAV G 27 (.slice none 0 0) none (some (.int .i64 0)) none = some (.slice none 0 0) := rfl
  have sA := slcAV_hi (H := G1) (b := G.length) (off := 0) (ver := 0) (len := n) (cap := n) (esz := 27) (hi := 0) (kk := .i64) g1 rfl rfl (by omega)
  have e0 : ((0 : Nat) : Int) = 0 := rfl
  rw [e0] at sA
  have hfin := finish_slc (H := G) (G := G1) (b := G.length) (ver := 0) (len := 0) (cap := n) (by rw [hG1]; exact Pre.one) (Nat.le_refl _) g1 rfl rfl rep_zL_flat.all
  rw [← hG1]
  have hfin : finish G.length G1 [slc G.length 0 0 0 n] = (slc G.length 0 0 0 n, G1) := by rw [hfin, hG1]
  have hlN : lenV (.slice none 0 0) = some (.int .i64 0) := rfl
  simp only [zL] at hap
  simp [c556, k556, hlt, hlN, w1, h0, sN, hap, sA, hfin]
/-- Two scenes joined; the first has one layer. -/
theorem call478 {pu : Bool} {G : Heap} {B : Nat} {v0 v1 : Value} {s : Ly} {l : List Ly} (hB : G[B]? = some ⟨[v0, v1], 1, 0, false⟩) (h0 : Sc G v0 [s]) (h1 : Sc G v1 l) (hs : LyW s) (hw : ScW l) (hn : l.length ≤ 100) :
    Call tab pu 478 [slc B 0 0 2 2] G = some (slc G.length 0 0 (l.length + 1) (l.length + 1), G ++ [⟨scC (s :: l), 27, 0, false⟩]) := by
  refine Call_wp t478 (.inr rfl) rfl ?_
  obtain ⟨m, hm⟩ : ∃ m, m = l.length := ⟨_, rfl⟩
  have hBl := (List.getElem?_eq_some_iff.1 hB).1
  have a0 : idxAV 1 (slc B 0 0 2 2) (.int .i64 0) = some (adr B 0 0) := rfl
  have a1 : idxAV 1 (slc B 0 0 2 2) (.int .i64 1) = some (adr B 1 0) := rfl
  have r0 : ∀ G', Pre G G' → rd G' B 0 0 1 = some [v0] := fun G' p => p.rd (by rw [rd_at hB rfl (by simp)]; rfl)
  have r1 : ∀ G', Pre G G' → rd G' B 1 0 1 = some [v1] := fun G' p => p.rd (by rw [rd_at hB rfl (by simp)]; rfl)
  have hl0 := SlR.lenV h0
  have hl1 := SlR.lenV h1
  rw [← hm] at hl1 ⊢
  have hl0' : lenV v0 = some (.int .i64 1) := hl0
  have w1 : IntKind.wrap .i64 (1 + (m : Int)) = ((m + 1 : Nat) : Int) := by rw [wrap64 (by omega)]; omega
  have hlt : ¬ ((m + 1 : Nat) : Int) < 0 := by omega
  simp [c478, k478]
  refine WP_forH 11 2 2 rfl (by omega) (fun i e => e 0 = slc B 0 0 2 2 ∧ e 2 = .slice none 0 0 ∧ e 9 = slc B 0 0 2 2 ∧ e 10 = .int .i64 2 ∧ e 3 = .int .i64 (if i = 0 then 0 else if i = 1 then 1 else ((m + 1 : Nat) : Int))) ?_ ?_ (by simp) (by simp)
  · rintro i e hi hii e4 h11 ⟨e0, e2, e9, e10, e3⟩
    rcases (show i = 0 ∨ i = 1 by omega) with rfl | rfl
    · have h11 : e 11 = .int .i64 0 := h11
      have e3 : e 3 = .int .i64 0 := e3
      simp [b478_1, h11, e0, e2, e9, e10, e3, a0, r0 G .refl, hl0']
    · have h11 : e 11 = .int .i64 1 := h11
      have e3 : e 3 = .int .i64 1 := e3
      simp [b478_1, h11, e0, e2, e9, e10, e3, a1, r1 G .refl, hl1, w1, hlt, -Int.natCast_add]
  · rintro e h11 ⟨e0, e2, e9, e10, e3⟩
    have e3 : e 3 = .int .i64 ((m + 1 : Nat) : Int) := e3
    have h11 : e 11 = .int .i64 2 := h11
    have c556 := call556 (pu := true) (G := G) (n := m + 1) (by omega) (by omega)
    obtain ⟨G1, hG1⟩ : ∃ G1, G1 = G ++ [(⟨rep (m + 1) zL, 27, 0, false⟩ : Blk)] := ⟨_, rfl⟩
    rw [← hG1] at c556
    simp [b478_1, h11, e10, e0, e3, c556, -Int.natCast_add]
    have hz : (rep (m + 1) zL).length = (m + 1) * 27 := rep_zL_len
    obtain ⟨C1, hC1⟩ : ∃ C1, C1 = splice (rep (m + 1) zL) 0 (scC [s]) := ⟨_, rfl⟩
    have hS1 : scC [s] = lyC s := by show lyC s ++ [] = _; rw [List.append_nil]
    have hL := lyC_len hs
    have hC1' : C1 = lyC s ++ (rep (m + 1) zL).drop 27 := by rw [hC1, hS1]; unfold splice; rw [hL]; simp
    have hC1l : C1.length = (m + 1) * 27 := by rw [hC1', List.length_append, hL, List.length_drop, hz]; omega
    have hC2 : splice C1 (1 * 27) (scC l) = scC (s :: l) := by
      unfold splice
      have hsl := scC_length hw
      rw [hsl, hC1', List.take_left' (by rw [hL]), List.drop_eq_nil_of_le (by rw [List.length_append, hL, List.length_drop, hz, ← hm]; omega), List.append_nil]
      rfl
    refine WP_count 27 2 2 rfl (fun i e G' => e 25 = slc B 0 0 2 2 ∧ e 26 = .int .i64 2 ∧ e 6 = slc G.length 0 0 (if i = 0 then 0 else if i = 1 then 1 else m + 1) (m + 1) ∧ G' = G ++ [⟨if i = 0 then rep (m + 1) zL else if i = 1 then C1 else scC (s :: l), 27, 0, false⟩]) (by omega) ?_ ?_ (by simp) ⟨by simp, by simp, by simp, by rw [hG1]; rfl⟩
    · rintro i e G' _ hi hii e4 h27 ⟨e25, e26, e6, hG'⟩
      rcases (show i = 0 ∨ i = 1 by omega) with rfl | rfl
      · have h27 : e 27 = .int .i64 0 := h27
        have e6 : e 6 = slc G.length 0 0 0 (m + 1) := e6
        have hG' : G' = G ++ [⟨rep (m + 1) zL, 27, 0, false⟩] := hG'
        have p : Pre G G' := by rw [hG']; exact Pre.one
        have g : G'[G.length]? = some ⟨rep (m + 1) zL, 27, 0, false⟩ := by rw [hG']; exact get_last
        have hsrc := srcOf_sc (SlR.pre p h0)
        have hwr := wr_at (n0 := G.length) (wb := false) (off := 0 + 0 * 27) (vs := scC [s]) (ver := 0) g rfl rfl (by simp [may]) (by simp only [hS1, hL, hz]; omega)
        obtain ⟨G2, hG2⟩ : ∃ G2, G2 = G ++ [(⟨C1, 27, 0, false⟩ : Blk)] := ⟨_, rfl⟩
        have hset : G'.set G.length ⟨C1, 27, 0, false⟩ = G2 := by rw [hG', hG2]; simp
        have hC1e : splice (rep (m + 1) zL) (0 + 0 * 27) (scC [s]) = C1 := hC1.symm
        simp only [hC1e, hset] at hwr
        have hap : appendTo G.length false 27 52 G' (slc G.length 0 0 0 (m + 1)) 1 (scC [s]) = some (slc G.length 0 0 1 (m + 1), G2) := by
          unfold appendTo slc
          simp only []
          rw [if_pos (by omega), hwr]; rfl
        have hsrc : srcOf 27 G' v0 = some (1, scC [s]) := hsrc
        simp [b478_2, h27, e25, e26, e6, a0, r0 G' p, hsrc, hap, wbOf]
        exact hG2
      · have h27 : e 27 = .int .i64 1 := h27
        have e6 : e 6 = slc G.length 0 0 1 (m + 1) := e6
        have hG' : G' = G ++ [⟨C1, 27, 0, false⟩] := hG'
        have p : Pre G G' := by rw [hG']; exact Pre.one
        have g : G'[G.length]? = some ⟨C1, 27, 0, false⟩ := by rw [hG']; exact get_last
        have hsrc := srcOf_sc (SlR.pre p h1)
        have hsl := scC_length hw
        have hwr := wr_at (n0 := G.length) (wb := false) (off := 0 + 1 * 27) (vs := scC l) (ver := 0) g rfl rfl (by simp [may]) (by simp only [hsl, hC1l]; omega)
        obtain ⟨G2, hG2⟩ : ∃ G2, G2 = G ++ [(⟨scC (s :: l), 27, 0, false⟩ : Blk)] := ⟨_, rfl⟩
        have hset : G'.set G.length ⟨scC (s :: l), 27, 0, false⟩ = G2 := by rw [hG', hG2]; simp
        have hC2e : splice C1 (0 + 1 * 27) (scC l) = scC (s :: l) := by rw [Nat.zero_add]; exact hC2
        simp only [hC2e, hset] at hwr
        rw [← hm] at hsrc
        have hap : appendTo G.length false 27 52 G' (slc G.length 0 0 1 (m + 1)) m (scC l) = some (slc G.length 0 0 (m + 1) (m + 1), G2) := by
          unfold appendTo slc
          simp only []
          rw [if_pos (by omega), hwr, Nat.add_comm 1 m]; rfl
        simp [b478_2, h27, e25, e26, e6, a1, r1 G' p, hsrc, hap, wbOf]
        exact hG2
    · rintro e G' _ h27 ⟨e25, e26, e6, hG'⟩
      have h27 : e 27 = .int .i64 2 := h27
      have e6 : e 6 = slc G.length 0 0 (m + 1) (m + 1) := e6
      have hG' : G' = G ++ [⟨scC (s :: l), 27, 0, false⟩] := hG'
      have g : G'[G.length]? = some ⟨scC (s :: l), 27, 0, false⟩ := by rw [hG']; exact get_last
      have hfin := finish_slc (H := G) (G := G') (b := G.length) (ver := 0) (len := m + 1) (cap := m + 1) (by rw [hG']; exact Pre.one) (Nat.le_refl _) g rfl rfl scC_flat.all
      simp [b478_2, h27, e26, e6, hfin]
theorem call285 {pu : Bool} {H : Heap} {z : Value} {l : List Ly} {s : Ly} (h : Sc H z l) (hw : ScW l) (hok : okSc l = true) (hs : LyW s) (hso : okLy s = true) (hn : l.length ≤ 7) :
    Call tab pu 285 [z, agg (lyC s)] H = some (tup [slc H.length 0 0 (l.length + 1) (l.length + 1), .int .i64 0], H ++ [⟨scC (s :: l), 27, 0, false⟩]) := by
  refine Call_wp t285 (.inr rfl) rfl ?_
  have c1 := call281 (pu := true) h hw (by omega)
  rw [hok] at c1
  have c2 := call473 (pu := true) (H := H) hs
  rw [hso] at c2
  obtain ⟨G1, hG1⟩ : ∃ G1, G1 = H ++ [(⟨lyC s, 27, 0, false⟩ : Blk)] := ⟨_, rfl⟩
  have l1 : G1.length = H.length + 1 := by rw [hG1]; simp
  obtain ⟨G2, hG2⟩ : ∃ G2, G2 = G1 ++ [(⟨[slc H.length 0 0 1 1, z], 1, 0, false⟩ : Blk)] := ⟨_, rfl⟩
  have p1 : Pre H G1 := by rw [hG1]; exact Pre.one
  have p2 : Pre G1 G2 := by rw [hG2]; exact Pre.one
  have hws : ScW [s] := fun t ht => by rw [List.mem_singleton] at ht; rw [ht]; exact hs
  have hS1 : scC [s] = lyC s := by show lyC s ++ [] = _; rw [List.append_nil]
  have s0 : Sc G1 (slc H.length 0 0 1 1) [s] := sc_of (l := [s]) (by rw [hS1, hG1]; exact get_last) hws
  have c3 := call478 (pu := true) (G := G2) (B := G1.length) (v0 := slc H.length 0 0 1 1) (v1 := z) (s := s) (l := l) (by rw [hG2]; exact get_last) (SlR.pre p2 s0) (SlR.pre (p1.trans p2) h) hs hw (by omega)
  obtain ⟨G3, hG3⟩ : ∃ G3, G3 = G2 ++ [(⟨scC (s :: l), 27, 0, false⟩ : Blk)] := ⟨_, rfl⟩
  rw [← hG3] at c3
  rw [l1] at c3
  have hg3 : Gr H G3 (slc G2.length 0 0 (l.length + 1) (l.length + 1)) 27 (l.length + 1) (scC (s :: l)) := ⟨_, _, rfl, by rw [hG3]; exact get_last, (p1.trans p2).len, by
    rw [scC_length (l := s :: l) (fun t ht => by rcases List.mem_cons.1 ht with rfl | h'; exact hs; exact hw t h'), List.length_cons], by rw [hG3]; exact (p1.trans p2).app⟩
  have hf := hg3.fin2 (c := 0) scC_flat
  have hlz := SlR.lenV h
  have hb : ((l.length : Int) == 8) = false := beq_false_of_ne (by omega)
  have hl := hs.len
  have hf1 := fill27 hs
  have hrep : rep 1 lyZ = lyZ := by simp [rep]
  rw [hrep] at hf1
  have hf2 : fill [.slice none 0 0, .slice none 0 0] [(0, 1, slc H.length 0 0 1 1), (1, 1, z)] = some [slc H.length 0 0 1 1, z] := by
    have hcz : cellsOf z = [z] := by
      rcases h.is with ⟨rfl, _⟩ | ⟨b, off, ver, cap, rfl, _⟩ <;> rfl
    simp [fill, hcz, splice]
  have hrep2 : rep 2 [Value.slice none 0 0] = [.slice none 0 0, .slice none 0 0] := rfl
  have hrep1 : rep 1 zL = zL := by simp [rep]
  rw [← zL_eq] at hf1
  unfold zL at hf1 hrep1
  simp only [lyC] at c2 hf1 hG1 hf hS1
  have hst : stc (agg (lyT (zr 24 0) (.int .i8 0) (.int .i8 0) (.int .i8 0))) 0 (lyT s.f (.int .i8 s.x) (.int .i8 s.y) (.int .i8 s.d)) = some (agg (lyT s.f (.int .i8 s.x) (.int .i8 s.y) (.int .i8 s.d))) := stLall (by rfl) hl
  simp [c285, k285, lyC, c1, c2, hlz, hb, hf1, hrep1, ← hG1, hrep2, hf2, ← hG2, l1, c3, hf, ldLall hl, lyT_len hl, hst, skip]
/-- A scene at hand, and where it is looked at from. -/
structure K57 (H G : Heap) (z : Value) (l : List Ly) (x y : Int) : Prop where
  P : Pre H G
  sc : ScS G z l
  W : ScW l
  c : cmC l x y = 0
  nb : l.length ≤ 4
  hx : -6 ≤ x ∧ x ≤ 6
  hy : -6 ≤ y ∧ y ≤ 6
theorem K57.pre {H G G' : Heap} {z : Value} {l : List Ly} {x y : Int} (h : K57 H G z l x y) (p : Pre G G') : K57 H G' z l x y := ⟨h.P.trans p, h.sc.pre p, h.W, h.c, h.nb, h.hx, h.hy⟩
theorem K57.ok {H G : Heap} {z : Value} {l : List Ly} {x y : Int} (h : K57 H G z l x y) : okSc l = true := (cmC_ok h.c).1
theorem cmC_of {l : List Ly} {x y : Int} (h : okSc l = true) (hx : -100 ≤ x ∧ x ≤ 100) (hy : -100 ≤ y ∧ y ≤ 100) : cmC l x y = 0 := by
  rw [cmC, if_pos h, if_pos (by simp [in1]; omega)]
theorem c57_31 {H G : Heap} {z r52 : Value} {l : List Ly} {x y : Int} {k : Nat} {e : Env} (h : K57 H G z l x y) (hk : k < l.length) (h5 : e 5 = z) (h6 : e 6 = .int .i64 x) (h7 : e 7 = .int .i64 y)
    (h10 : e 10 = iv .u16 (flI l x y l.length)) (h46 : e 46 = .int .i64 (k : Int)) (h52 : e 52 = r52) (h53 : e 53 = .int .i64 (crC k)) (h54 : 0 < k → e 54 = .bool (decide (flI l x y l.length = flI (swL l k) x y l.length)))
    (hr : 0 < k → ScS G r52 (swL l k)) : WK tab H.length false (tailC 31 k57) [] e G (QL H.length H) := by
  by_cases hk0 : k = 0
  · have e53 : e 53 = .int .i64 4 := by rw [h53, crC, if_pos hk0]
    have hfin : finish H.length G [.bool true] = (.bool true, H) := by rw [finish_bool, h.P.take]
    simp [tailC, k57, e53, QL, hfin]
  have hkp : 0 < k := by omega
  have e53 : e 53 = .int .i64 0 := by rw [h53, crC, if_neg hk0]
  have hr := hr hkp
  have h54 := h54 hkp
  have hok := h.ok
  have hnb := h.nb
  have hw2 := swL_W h.W hkp hk
  have hok2 := swL_ok hok hkp hk
  have hx := h.hx
  have hy := h.hy
  have hc2 : cmC (swL l k) x y = 0 := cmC_of hok2 (by omega) (by omega)
  have hlz := SlR.lenV h.sc.1
  have hl52 := SlR.lenV hr.1
  rw [swL_len] at hl52
  have hT : tailC 31 k57 = headC 3 (tailC 31 k57) (tailC 34 k57) := rfl
  rw [hT]
  obtain ⟨T, hTT⟩ : ∃ T, T = tailC 34 k57 := ⟨_, rfl⟩
  rw [← hTT]
  obtain ⟨k', hkk⟩ : ∃ k' : Nat, k' = k - 1 := ⟨_, rfl⟩
  have w1 : IntKind.wrap .i64 ((k : Int) - 1) = (k' : Int) := by rw [wrap64 (by omega)]; omega
  simp [headC, tailC, k57, e53, h52, hl52, h5, hlz]
  refine WP_forH 56 l.length _ rfl (by omega) (fun i e' => e' 5 = z ∧ e' 6 = .int .i64 x ∧ e' 7 = .int .i64 y ∧ e' 10 = iv .u16 (flI l x y l.length) ∧ e' 46 = .int .i64 (k : Int) ∧ e' 52 = r52 ∧ e' 54 = .bool (decide (flI l x y l.length = flI (swL l k) x y l.length))) ?_ ?_ (by simp)
    ⟨by simp [h5], by simp [h6], by simp [h7], by simp [h10], by simp [h46], by simp [h52], by simp [h54]⟩
  · rintro i e' hi hii e4 h56 ⟨g5, g6, g7, g10, g46, g52, g54⟩
    obtain ⟨q, o, v, ha, hr1, _⟩ := Sc.get hr.1 hw2 (i := i) (by rw [swL_len]; exact hi)
    rw [swL_at hkp hk] at hr1
    by_cases hik : i = k
    · have hb : ((i : Int) == k) = true := by simp [hik]
      rw [if_pos hik, ← hkk] at hr1
      obtain ⟨q2, o2, v2, ha2, hr2, _⟩ := Sc.get h.sc.1 h.W (i := k') (by omega)
      have he := eqLy (h.W _ (at0_mem (show k' < l.length by omega))).len
      simp [b57_6, h56, g5, g6, g7, g10, g46, g52, g54, hlz, hii, hb, w1, ha, hr1, ha2, hr2, he, e4]
    · have hb : ((i : Int) == k) = false := beq_false_of_ne (by omega)
      rw [if_neg hik] at hr1
      by_cases hik2 : i = k'
      · have hb2 : ((i : Int) == k') = true := by simp [hik2]
        rw [if_pos (by omega)] at hr1
        obtain ⟨q2, o2, v2, ha2, hr2, _⟩ := Sc.get h.sc.1 h.W (i := k) hk
        have he := eqLy (h.W _ (at0_mem hk)).len
        simp [b57_6, h56, g5, g6, g7, g10, g46, g52, g54, hlz, hii, hb, hb2, w1, ha, hr1, ha2, hr2, he, e4]
      · have hb2 : ((i : Int) == k') = false := beq_false_of_ne (by omega)
        rw [if_neg (by omega)] at hr1
        obtain ⟨q2, o2, v2, ha2, hr2, _⟩ := Sc.get h.sc.1 h.W (i := i) hi
        have he := eqLy (h.W _ (at0_mem hi)).len
        simp [b57_6, h56, g5, g6, g7, g10, g46, g52, g54, hlz, hii, hb, hb2, w1, ha, hr1, ha2, hr2, he, e4]
  · rintro e' h56 ⟨g5, g6, g7, g10, g46, g52, g54⟩
    have c98 := call98 (pu := true) (x := x) (y := y) hw2 (by rw [swL_len]; omega) hr.1
    rw [hc2, shwF, if_pos hc2, swL_len] at c98
    have c286 := call286 (pu := true) hr hw2 hok2 (k := k) (by rw [swL_len]; exact hk)
    rw [if_neg hk0, swL_len, swL_swL hkp hk] at c286
    obtain ⟨G1, hG1⟩ : ∃ G1, G1 = G ++ [(⟨scC l, 27, 0, false⟩ : Blk)] := ⟨_, rfl⟩
    rw [← hG1] at c286
    have p1 : Pre G G1 := by rw [hG1]; exact Pre.one
    have sl60 : Sc G1 (slc G.length 0 0 l.length l.length) l := sc_of (by rw [hG1]; exact get_last) h.W
    have c280 := call280 (pu := true) sl60 (SlR.pre p1 h.sc.1) h.W (by omega)
    have hfin : finish H.length G1 [.bool true] = (.bool true, H) := by rw [finish_bool, (h.P.trans p1).take]
    have hst := stc_zr (k := .u16) (n := 12) (l := flI (swL l k) x y l.length) flI_len
    have heq := eqV_iv (k := .u16) (n := 12) (f := flI (swL l k) x y l.length) (g := flI l x y l.length) flI_len flI_len
    have hd : decide (flI (swL l k) x y l.length = flI l x y l.length) = decide (flI l x y l.length = flI (swL l k) x y l.length) := decide_eq_decide.2 ⟨Eq.symm, Eq.symm⟩
    rw [hd] at heq
    generalize decide (flI l x y l.length = flI (swL l k) x y l.length) = D at *
    have hDD := eqB (b := D)
    simp [b57_6, h56, g5, hlz]
    rw [hTT]
    simp [tailC, k57, g5, g6, g7, g10, g46, g52, g54, c98, c286, c280, zs_cs, agg_cs, flI_len, hst, heq, hDD, QL, hfin, skip]
theorem sc_part {G : Heap} {F o ver : Nat} {cap : Nat} {l : List Ly} {vs : List Value} (hg : G[F]? = some ⟨vs, 27, ver, false⟩) (hw : ScW l) (hc : l.length ≤ cap) (hv : (vs.drop o).take (l.length * 27) = scC l) (hl : o + l.length * 27 ≤ vs.length) : Sc G (slc F o ver l.length cap) l :=
  ⟨scC_length hw, .inr ⟨F, o, ver, _, rfl, hc, by rw [rd_at hg rfl (by simpa using hl)]; rw [hv], _, hg, rfl, rfl⟩⟩
theorem drL_W {l : List Ly} (hw : ScW l) {k : Nat} : ScW (drL l k) := fun s hs => hw s (drL_mem s hs)
theorem okSc_mem {l : List Ly} (h : okSc l = true) : ∀ s ∈ l, okLy s = true := fun s hs => by
  obtain ⟨i, hi, e⟩ := List.getElem_of_mem hs
  have : at0 l i = s := by unfold at0; rw [List.getD_eq_getElem?_getD, List.getElem?_eq_getElem hi]; exact e
  rw [← this]; exact okSc_get h hi
def V57 : Cd := tailC 31 k57
theorem c57_27 {H G1 G2 G3 : Heap} {z r47 r52 : Value} {l TL : List Ly} {x y : Int} {k m : Nat} {e' : Env} (h : K57 H G1 z l x y) (h0 : 0 < l.length) (hk : k < l.length) (hm : m = l.length - 1)
    (sl47 : Sc G1 r47 (drL l k)) (g5 : e' 5 = z) (g6 : e' 6 = .int .i64 x) (g7 : e' 7 = .int .i64 y) (g10 : e' 10 = iv .u16 (flI l x y l.length)) (g46 : e' 46 = .int .i64 (k : Int)) (g47 : e' 47 = r47)
    (hTL : TL = at0 l k :: drL l k) (hG2 : G2 = G1 ++ [(⟨scC TL, 27, 0, false⟩ : Blk)]) (c285 : Call tab true 285 [r47, agg (lyC (at0 l k))] G1 = some (tup [slc G1.length 0 0 l.length l.length, .int .i64 0], G2))
    (p3 : Pre G2 G3) (hs52 : 0 < k → ScS G3 r52 (swL l k)) (c286 : Call tab true 286 [z, .int .i64 (k : Int)] G2 = some (tup [r52, .int .i64 (crC k)], G3)) : WK tab H.length false (tailC 27 k57) [] e' G1 (QL H.length H) := by
  have hnb := h.nb
  have hdl := drL_len hk
  rw [← hm] at hdl
  have hwd := drL_W h.W (k := k)
  have hdc := scC_length hwd
  have hsW := h.W _ (at0_mem hk)
  obtain ⟨q5, o5, v5, ha5, hr5, _⟩ := Sc.get h.sc.1 h.W hk
  have hTLl : TL.length = l.length := by rw [hTL, List.length_cons, hdl]; omega
  have hTLW : ScW TL := fun t ht => by
    rw [hTL] at ht
    rcases List.mem_cons.1 ht with rfl | h'
    · exact hsW
    · exact hwd t h'
  have p2 : Pre G1 G2 := by rw [hG2]; exact Pre.one
  have g2 : G2[G1.length]? = some ⟨scC TL, 27, 0, false⟩ := by rw [hG2]; exact get_last
  have p23 := p2.trans p3
  have h3 := h.pre p23
  have g3 : G3[G1.length]? = some ⟨scC TL, 27, 0, false⟩ := by rw [p3.get (List.getElem?_eq_some_iff.1 g2).1]; exact g2
  have sl50 : Sc G3 (slc G1.length 0 0 l.length l.length) TL := by
    have := sc_of g3 hTLW
    rw [hTLl] at this; exact this
  have hl50 := SlR.lenV sl50
  rw [hTLl] at hl50
  have a50 : idxAV 27 (slc G1.length 0 0 l.length l.length) (.int .i64 0) = some (adr G1.length 0 0) := by
    rw [idxAV_slc]
    have : at' l.length (.int .i64 0) = some 0 := at_nat h0
    rw [this]; rfl
  obtain ⟨q, o, v, ha50, hr50, _⟩ := Sc.get sl50 hTLW (i := 0) (by omega)
  have e0 : ((0 : Nat) : Int) = 0 := rfl
  rw [e0, a50] at ha50
  have ea : adr G1.length 0 0 = adr q o v := Option.some.inj ha50
  cases ea
  have hat : at0 TL 0 = at0 l k := by rw [hTL]; rfl
  rw [hat] at hr50
  have hsl := slcAV_lo27 (H := G3) (b := G1.length) (n := l.length) (cap := l.length) (lo := 1) g3 rfl rfl (by omega)
  have e1 : ((1 : Nat) : Int) = 1 := rfl
  rw [e1, ← hm] at hsl
  have hscT : scC TL = lyC (at0 l k) ++ scC (drL l k) := by rw [hTL]; rfl
  have hL := lyC_len hsW
  have sT : Sc G3 (slc G1.length (0 + 1 * 27) 0 m m) (drL l k) := by
    have := sc_part (G := G3) (F := G1.length) (o := 0 + 1 * 27) (ver := 0) (cap := m) (l := drL l k) (vs := scC TL) g3 hwd (by omega)
      (by rw [hscT, List.drop_left' (by rw [hL]), List.take_of_length_le (by rw [hdc]; omega)]) (by rw [hscT, List.length_append, hL, hdc]; omega)
    rw [hdl] at this; exact this
  obtain ⟨x50, hx50⟩ : ∃ x50, x50 = slc G1.length 0 0 l.length l.length := ⟨_, rfl⟩
  obtain ⟨xT, hxT⟩ : ∃ xT, xT = slc G1.length (0 + 1 * 27) 0 m m := ⟨_, rfl⟩
  rw [← hxT] at hsl sT
  rw [← hx50] at hsl c285 hl50 a50
  have c280 := call280 (pu := true) sT (SlR.pre p23 sl47) hwd (by omega)
  have c287 := call287 (pu := true) h3.sc h.W h.c hk
  obtain ⟨q6, o6, v6, ha6, hr6, _⟩ := Sc.get h3.sc.1 h.W hk
  have ea2 : adr q5 o5 v5 = adr q6 o6 v6 := Option.some.inj (ha5.symm.trans ha6)
  cases ea2
  have he := eqLy hsW.len
  have hlz3 := SlR.lenV h3.sc.1
  have hT2 : tailC 27 k57 = headC 4 (tailC 27 k57) V57 := rfl
  rw [hT2]
  by_cases hk0 : k = 0
  · have ec : crC k = 4 := by rw [crC, if_pos hk0]
    rw [if_pos hk0] at c287
    rw [ec] at c286
    have hkk : ¬ (0 < (k : Int)) := by omega
    have hkn : ¬ 0 < k := by omega
    have hb : eqV .b (.bool false) (.bool false) = some true := rfl
    simp [headC, tailC, k57, g5, g6, g7, g46, g47, ha5, hr5, c285, c286, c287, hl50, hlz3, a50, hr50, hr6, he, hsl, c280, hkn, hb, skip]
    refine c57_31 (k := k) (r52 := r52) h3 hk ?_ ?_ ?_ ?_ ?_ ?_ ?_ (fun h => absurd h hkn) hs52
    all_goals simp [g5, g6, g7, g10, g46, ec]
  · have ec : crC k = 0 := by rw [crC, if_neg hk0]
    rw [if_neg hk0] at c287
    rw [ec] at c286
    have hkk : (0 < (k : Int)) := by omega
    have hkn : 0 < k := by omega
    have hb : eqV .b (.bool true) (.bool true) = some true := rfl
    simp [headC, tailC, k57, g5, g6, g7, g46, g47, ha5, hr5, c285, c286, c287, hl50, hlz3, a50, hr50, hr6, he, hsl, c280, hkn, hb, skip]
    refine c57_31 (k := k) (r52 := r52) h3 hk ?_ ?_ ?_ ?_ ?_ ?_ ?_ (fun _ => ?_) hs52
    all_goals simp [g5, g6, g7, g10, g46, ec]
theorem c57_23 {H G : Heap} {z y2 : Value} {bs : List Int} {l : List Ly} {x y : Int} {e : Env} (h : K57 H G z l x y) (h0 : 0 < l.length) (hb2 : By G y2 bs) (h1 : e 1 = y2) (h5 : e 5 = z) (h6 : e 6 = .int .i64 x) (h7 : e 7 = .int .i64 y)
    (h10 : e 10 = iv .u16 (flI l x y l.length)) : WK tab H.length false (tailC 23 k57) [] e G (QL H.length H) := by
  have hnb := h.nb
  have hok := h.ok
  have hlz := SlR.lenV h.sc.1
  obtain ⟨v, c124, v0, v1⟩ := call124 (pu := true) (i := 2) (n := (l.length : Int)) hb2 (by omega) (by omega)
  obtain ⟨k, rfl⟩ := Int.eq_ofNat_of_zero_le v0
  have hk : k < l.length := by omega
  have e2 : ((2 : Nat) : Int) = 2 := rfl
  rw [e2] at c124
  have c284 := call284 (pu := true) h.sc h.W hok hk
  obtain ⟨m, hm⟩ : ∃ m, m = l.length - 1 := ⟨_, rfl⟩
  rw [← hm] at c284
  have hdl := drL_len hk
  rw [← hm] at hdl
  have hwd := drL_W h.W (k := k)
  obtain ⟨G1, hG1⟩ : ∃ G1, G1 = G ++ [(⟨scC (drL l k) ++ zL, 27, 0, false⟩ : Blk)] := ⟨_, rfl⟩
  rw [← hG1] at c284
  have p1 : Pre G G1 := by rw [hG1]; exact Pre.one
  have h' := h.pre p1
  have hdc := scC_length hwd
  have sl47 : Sc G1 (slc G.length 0 0 m l.length) (drL l k) := by
    have := sc_part (G := G1) (F := G.length) (o := 0) (ver := 0) (cap := l.length) (l := drL l k) (vs := scC (drL l k) ++ zL) (by rw [hG1]; exact get_last) hwd (by omega) (by rw [List.drop_zero, List.take_left' hdc]) (by rw [List.length_append, hdc]; omega)
    rw [hdl] at this; exact this
  obtain ⟨r47, hr47⟩ : ∃ r, r = slc G.length 0 0 m l.length := ⟨_, rfl⟩
  rw [← hr47] at c284 sl47
  have hl47 := SlR.lenV sl47
  rw [hdl] at hl47
  have w1 : IntKind.wrap .i64 ((l.length : Int) - 1) = (m : Int) := by rw [wrap64 (by omega)]; omega
  have hT : tailC 23 k57 = headC 4 (tailC 23 k57) (tailC 27 k57) := rfl
  rw [hT]
  obtain ⟨T, hTT⟩ : ∃ T, T = tailC 27 k57 := ⟨_, rfl⟩
  rw [← hTT]
  simp [headC, tailC, k57, h1, h5, hlz, c124, c284, hl47, w1, skip]
  refine WP_forH 49 m _ rfl (by omega) (fun i e' => e' 5 = z ∧ e' 6 = .int .i64 x ∧ e' 7 = .int .i64 y ∧ e' 10 = iv .u16 (flI l x y l.length) ∧ e' 46 = .int .i64 (k : Int) ∧ e' 47 = r47) ?_ ?_ (by simp)
    ⟨by simp [h5], by simp [h6], by simp [h7], by simp [h10], by simp, by simp⟩
  · rintro i e' hi hii e4 h49 ⟨g5, g6, g7, g10, g46, g47⟩
    obtain ⟨q, o, v, ha, hr1, _⟩ := Sc.get sl47 hwd (i := i) (by omega)
    rw [drL_at hk] at hr1
    by_cases hik : i < k
    · have hb1 : ¬ (k : Int) ≤ i := by omega
      rw [if_pos hik] at hr1
      obtain ⟨q2, o2, v2, ha2, hr2, _⟩ := Sc.get h'.sc.1 h.W (i := i) (by omega)
      have he := eqLy (h.W _ (at0_mem (show i < l.length by omega))).len
      simp [b57_5, h49, g5, g6, g7, g10, g46, g47, hl47, hii, hik, hb1, ha, hr1, ha2, hr2, he, e4, skip]
    · have hb1 : (k : Int) ≤ i := by omega
      rw [if_neg hik] at hr1
      obtain ⟨q2, o2, v2, ha2, hr2, _⟩ := Sc.get h'.sc.1 h.W (i := i + 1) (by omega)
      have he := eqLy (h.W _ (at0_mem (show i + 1 < l.length by omega))).len
      have e1 : ((i + 1 : Nat) : Int) = (i : Int) + 1 := by omega
      rw [e1] at ha2
      simp [b57_5, h49, g5, g6, g7, g10, g46, g47, hl47, hii, hik, hb1, ha, hr1, ha2, hr2, he, e4, skip]
  · rintro e' h49 ⟨g5, g6, g7, g10, g46, g47⟩
    simp [b57_5, h49, g47, hl47]
    rw [hTT]
    have hsW := h.W _ (at0_mem hk)
    obtain ⟨q5, o5, v5, ha5, hr5, _⟩ := Sc.get h'.sc.1 h.W hk
    have c285 := call285 (pu := true) (s := at0 l k) sl47 hwd (okSc_of (fun s hs => okSc_mem hok s (drL_mem s hs)) (by omega)) hsW (okSc_get hok hk) (by omega)
    rw [hdl, show m + 1 = l.length by omega] at c285
    obtain ⟨TL, hTL⟩ : ∃ TL, TL = at0 l k :: drL l k := ⟨_, rfl⟩
    rw [← hTL] at c285
    have hTLl : TL.length = l.length := by rw [hTL, List.length_cons, hdl]; omega
    have hTLW : ScW TL := fun t ht => by
      rw [hTL] at ht
      rcases List.mem_cons.1 ht with rfl | h'
      · exact hsW
      · exact hwd t h'
    obtain ⟨G2, hG2⟩ : ∃ G2, G2 = G1 ++ [(⟨scC TL, 27, 0, false⟩ : Blk)] := ⟨_, rfl⟩
    rw [← hG2] at c285
    have p2 : Pre G1 G2 := by rw [hG2]; exact Pre.one
    have g2 : G2[G1.length]? = some ⟨scC TL, 27, 0, false⟩ := by rw [hG2]; exact get_last
    have c286 := call286 (pu := true) (h'.sc.pre p2) h.W hok hk
    have main := fun (r52 : Value) (G3 : Heap) (p3 : Pre G2 G3) (hs52 : 0 < k → ScS G3 r52 (swL l k)) (c : Call tab true 286 [z, .int .i64 (k : Int)] G2 = some (tup [r52, .int .i64 (crC k)], G3)) =>
      c57_27 (H := H) (TL := TL) (e' := upd e' 484 (.bool false)) h' h0 hk hm sl47 (by simp [g5]) (by simp [g6]) (by simp [g7]) (by simp [g10]) (by simp [g46]) (by simp [g47]) hTL hG2 c285 p3 hs52 c
    show WK tab H.length false (tailC 27 k57) [] (upd e' 484 (.bool false)) G1 (QL H.length H)
    · by_cases hk0 : k = 0
      · rw [if_pos hk0] at c286
        have ec : crC k = 4 := by rw [crC, if_pos hk0]
        exact main _ _ .refl (fun h => by omega) (by rw [ec]; exact c286)
      · rw [if_neg hk0] at c286
        have ec : crC k = 0 := by rw [crC, if_neg hk0]
        obtain ⟨G3, hG3⟩ : ∃ G3, G3 = G2 ++ [(⟨scC (swL l k), 27, 0, false⟩ : Blk)] := ⟨_, rfl⟩
        rw [← hG3] at c286
        have hs : Sc G3 (slc G2.length 0 0 l.length l.length) (swL l k) := by
          have := sc_of (G := G3) (F := G2.length) (ver := 0) (l := swL l k) (by rw [hG3]; exact get_last) (swL_W h.W (by omega) hk)
          rw [swL_len] at this; exact this
        exact main _ G3 (by rw [hG3]; exact Pre.one) (fun _ => ⟨hs, _, _, _, _, by rw [swL_len]⟩) (by rw [ec]; exact c286)
theorem cntL_nth {l : List Ly} {x y : Int} {n i : Nat} (hi : i < n) : nth (cntL l x y n) i = cntF (snF l x y i) := by
  apply nth_of; simp [cntL, hi]
theorem c57_19 {H G : Heap} {z y2 : Value} {bs : List Int} {l : List Ly} {x y : Int} {e : Env} (h : K57 H G z l x y) (hb2 : By G y2 bs) (h1 : e 1 = y2) (h5 : e 5 = z) (h6 : e 6 = .int .i64 x) (h7 : e 7 = .int .i64 y)
    (h10 : e 10 = iv .u16 (flI l x y l.length)) : WK tab H.length false (tailC 19 k57) [] e G (QL H.length H) := by
  have hnb := h.nb
  have hok := h.ok
  have hx := h.hx
  have hy := h.hy
  obtain ⟨r41, G1, β, c199, p1, o1⟩ := call199 (pu := true) (x := x) (y := y) (dx := 2) (dy := -1) (n := 4) h.W (by omega) h.sc.1
  have hq : allN (pnQ x y 2 (-1)) 4 = true := allN_true fun i hi => by simp [pnQ, in1]; omega
  have hc : pnC l x y 2 (-1) 4 = 0 := by
    rw [pnC, if_pos h.c, if_pos (by decide)]
    exact if_pos hq
  have hL : pnL l x y 2 (-1) 4 = pnK l x y 2 (-1) 4 := by rw [pnL, if_pos hc]; rfl
  rw [hc] at c199
  rw [hL, pnK_len] at o1
  have h' := h.pre p1
  have hlz := SlR.lenV h'.sc.1
  have hl41 := o1.sl.lenV
  have b41 : Bk G1 r41 (pnK l x y 2 (-1) 4) := by
    unfold Bk; rw [pnK_len]; exact o1.sl
  have hWp : BkW (pnK l x y 2 (-1) 4) := fun f hf => by
    obtain ⟨i, _, rfl⟩ := List.mem_map.1 hf
    exact flI_V.W
  have hT : tailC 19 k57 = headC 4 (tailC 19 k57) (tailC 23 k57) := rfl
  rw [hT]
  obtain ⟨T, hTT⟩ : ∃ T, T = tailC 23 k57 := ⟨_, rfl⟩
  rw [← hTT]
  have e4 : ((4 : Nat) : Int) = 4 := rfl
  rw [e4] at hl41
  simp [headC, tailC, k57, h5, h6, h7, c199, hl41, skip]
  refine WP_forH 43 4 4 rfl (by omega) (fun i e' => e' 1 = y2 ∧ e' 5 = z ∧ e' 6 = .int .i64 x ∧ e' 7 = .int .i64 y ∧ e' 10 = iv .u16 (flI l x y l.length) ∧ e' 41 = r41) ?_ ?_ (by simp)
    ⟨by simp [h1], by simp [h5], by simp [h6], by simp [h7], by simp [h10], by simp⟩
  · rintro i e' hi hii e4 h43 ⟨g1, g5, g6, g7, g10, g41⟩
    have w1 : IntKind.wrap .i64 (2 * (i : Int)) = 2 * (i : Int) := wrap64 (by omega)
    have w2 : IntKind.wrap .i64 (x + 2 * (i : Int)) = x + 2 * (i : Int) := wrap64 (by omega)
    have w3 : IntKind.wrap .i64 (y - (i : Int)) = y - (i : Int) := wrap64 (by omega)
    have hc2 : cmC l (x + 2 * (i : Int)) (y - (i : Int)) = 0 := cmC_of hok (by omega) (by omega)
    have c98 := call98 (pu := true) (x := x + 2 * (i : Int)) (y := y - (i : Int)) h.W (by omega) h'.sc.1
    rw [hc2, shwF, if_pos hc2] at c98
    have hst := stc_zr (k := .u16) (n := 12) (l := flI l (x + 2 * (i : Int)) (y - (i : Int)) l.length) flI_len
    obtain ⟨q, o, v, ha, hr⟩ := Bk.get b41 hWp (i := i) (by rw [pnK_len]; exact hi)
    have hfr : fr (pnK l x y 2 (-1) 4) i = flI l (x + 2 * (i : Int)) (y - (i : Int)) l.length := by
      have : fr (pnK l x y 2 (-1) 4) i = pnF l x y 2 (-1) i := by
        unfold fr at0 pnK
        rw [List.getD_eq_getElem?_getD, List.getElem?_map, List.getElem?_range hi]; rfl
      rw [this, pnF]
      congr 1 <;> omega
    rw [hfr] at hr
    have heq := eqV_iv (k := .u16) (n := 12) (f := flI l (x + 2 * (i : Int)) (y - (i : Int)) l.length) (g := flI l (x + 2 * (i : Int)) (y - (i : Int)) l.length) flI_len flI_len
    rw [decide_eq_true rfl] at heq
    have hlt : (i : Int) < 4 := by omega
    simp [b57_4, h43, g1, g5, g6, g7, g10, g41, hi, hlt, w1, w2, w3, c98, zs_cs, agg_cs, flI_len, hst, ha, hr, heq, e4, skip]
  · rintro e' h43 ⟨g1, g5, g6, g7, g10, g41⟩
    have h43 : e' 43 = .int .i64 4 := h43
    simp [b57_4, h43, g5, hlz]
    by_cases h0 : l.length = 0
    · have hb : ((l.length : Int) == 0) = true := by simp [h0]
      have hfin : finish H.length G1 [.bool true] = (.bool true, H) := by rw [finish_bool, h'.P.take]
      simp [h0, QL, hfin]
    · have hb : ((l.length : Int) == 0) = false := beq_false_of_ne (by omega)
      simp [hb]
      rw [hTT]
      refine c57_23 (bs := bs) h' (by omega) (hb2.pre p1) ?_ ?_ ?_ ?_ ?_
      all_goals simp [g1, g5, g6, g7, g10]
theorem c57_18 {H G : Heap} {z y2 r24 r26 : Value} {bs : List Int} {l : List Ly} {x y : Int} {e : Env} (h : K57 H G z l x y) (hb2 : By G y2 bs) (sl24 : SlR G r24 1 (hidL l x y l.length).length (cs .i64 (hidL l x y l.length))) (sl26 : SlR G r26 1 l.length (cs .i64 (cntL l x y l.length)))
    (h1 : e 1 = y2) (h5 : e 5 = z) (h6 : e 6 = .int .i64 x) (h7 : e 7 = .int .i64 y) (h10 : e 10 = iv .u16 (flI l x y l.length)) (h24 : e 24 = r24) (h26 : e 26 = r26) : WK tab H.length false (tailC 18 k57) [] e G (QL H.length H) := by
  have hnb := h.nb
  have hlz := SlR.lenV h.sc.1
  have hl24 := sl24.lenV
  have hle := hidL_len (l := l) (x := x) (y := y) (k := l.length)
  have hT : tailC 18 k57 = headC 1 (tailC 18 k57) (tailC 19 k57) := rfl
  rw [hT]
  obtain ⟨T, hTT⟩ : ∃ T, T = tailC 19 k57 := ⟨_, rfl⟩
  rw [← hTT]
  obtain ⟨M, hM⟩ : ∃ M, M = hidL l x y l.length := ⟨_, rfl⟩
  rw [← hM] at sl24 hl24 hle
  simp [headC, tailC, k57]
  refine WP_forH 40 M.length _ rfl (by omega) (fun i e' => e' 1 = y2 ∧ e' 5 = z ∧ e' 6 = .int .i64 x ∧ e' 7 = .int .i64 y ∧ e' 10 = iv .u16 (flI l x y l.length) ∧ e' 24 = r24 ∧ e' 26 = r26) ?_ ?_ (by simp)
    ⟨by simp [h1], by simp [h5], by simp [h6], by simp [h7], by simp [h10], by simp [h24], by simp [h26]⟩
  · rintro i e' hi hii e4 h40 ⟨g1, g5, g6, g7, g10, g24, g26⟩
    obtain ⟨E, hE, hEn, hE0, hEp⟩ := hid_get (l := l) (x := x) (y := y) (k := l.length) (j := i) (by rw [← hM]; exact hi)
    rw [← hM] at hE hEp
    obtain ⟨q, o, v, ha, hr⟩ := sl24.get1 hi
    rw [elem_i hi, hE] at hr
    obtain ⟨q2, o2, v2, ha2, hr2⟩ := sl26.get1 (i := E) hEn
    rw [elem_i (by rw [cntL_len]; exact hEn), cntL_nth hEn, hE0] at hr2
    have n1 : ¬ (E : Int) < 0 := by omega
    have n2 : ¬ l.length ≤ E := by omega
    by_cases hi0 : i = 0
    · have n3 : ¬ 0 < i := by omega
      simp [b57_3, h40, g1, g5, g6, g7, g10, g24, g26, hl24, hlz, hii, hi, ha, hr, ha2, hr2, n1, n2, n3, e4, skip]
    · obtain ⟨j, rfl⟩ : ∃ j, i = j + 1 := ⟨i - 1, by omega⟩
      have n3 : 0 < j + 1 := by omega
      have hp := hEp n3
      rw [Nat.add_sub_cancel] at hp
      obtain ⟨q3, o3, v3, ha3, hr3⟩ := sl24.get1 (i := j) (by omega)
      rw [elem_i (by omega)] at hr3
      have w1 : IntKind.wrap .i64 (((j + 1 : Nat) : Int) - 1) = (j : Int) := by rw [wrap64 (by omega)]; omega
      have n4 : ¬ (E : Int) ≤ nth M j := by omega
      simp [b57_3, h40, g1, g5, g6, g7, g10, g24, g26, hl24, hlz, hii, hi, ha, hr, ha2, hr2, n1, n2, n3, n4, w1, ha3, hr3, e4, skip, -Int.natCast_add]
  · rintro e' h40 ⟨g1, g5, g6, g7, g10, g24, g26⟩
    simp [b57_3, h40, g24, hl24]
    rw [hTT]
    refine c57_19 (bs := bs) h hb2 ?_ ?_ ?_ ?_ ?_
    all_goals simp [g1, g5, g6, g7, g10]
/-- The heap with the counts of the first k dots. -/
def HK (G : Heap) (l : List Ly) (x y : Int) (k : Nat) : Heap := G ++ [⟨cs .i64 (ctsL l x y k), 1, 0, false⟩]
theorem HK_pre {G : Heap} {l : List Ly} {x y : Int} {k : Nat} : Pre G (HK G l x y k) := Pre.one
theorem HK_get {G : Heap} {l : List Ly} {x y : Int} {k : Nat} : (HK G l x y k)[G.length]? = some ⟨cs .i64 (ctsL l x y k), 1, 0, false⟩ := get_last
theorem nth_join {a b : List Int} {i : Nat} (ha : a.length = 12) (hi : i < 12) : nth (a ++ b) (12 + i) = nth b i := by
  unfold nth
  rw [List.getD_eq_getElem?_getD, List.getD_eq_getElem?_getD, List.getElem?_append_right (by omega)]
  congr 2; omega
set_option maxRecDepth 4000 in
theorem inner57 {H G : Heap} {z y2 r22 r24 : Value} {l : List Ly} {x y : Int} {v : Nat} {e : Env} {fs : List Fr} {Q : Ex → Env → Heap → Prop} (h : K57 H G z l x y) (hv : v < 12) (h1 : e 1 = y2) (h5 : e 5 = z) (h6 : e 6 = .int .i64 x) (h7 : e 7 = .int .i64 y)
    (h10 : e 10 = iv .u16 (flI l x y l.length)) (h14 : e 14 = iv .u16 (flI l x y l.length ++ cvr l x y l.length)) (h22 : e 22 = r22) (h24 : e 24 = r24) (h26 : e 26 = slc G.length 0 0 l.length l.length) (h27 : e 27 = .int .i64 (v : Int)) (h28 : e 28 = .int .i64 0)
    (hq : ∀ e', e' 1 = y2 → e' 5 = z → e' 6 = .int .i64 x → e' 7 = .int .i64 y → e' 10 = iv .u16 (flI l x y l.length) → e' 14 = iv .u16 (flI l x y l.length ++ cvr l x y l.length) → e' 22 = r22 → e' 24 = r24 → e' 26 = slc G.length 0 0 l.length l.length → e' 27 = .int .i64 (v : Int) →
      KK tab H.length false (.exit 2) fs e' (HK G l x y (v * 12 + 12)) Q) : WK tab H.length false (.loop b57_1) fs e (HK G l x y (v * 12)) Q := by
  have hnb := h.nb
  have hok := h.ok
  have hHG := h.P.len
  have hFl := flI_len (l := l) (x := x) (y := y) (k := l.length)
  have hCl := cvr_len (l := l) (x := x) (y := y) (k := l.length)
  have hFV := flI_V (l := l) (x := x) (y := y) (k := l.length)
  have hCV := cvr_V (l := l) (x := x) (y := y) (k := l.length)
  refine WP_count 28 12 12 rfl (fun u e' G' => e' 1 = y2 ∧ e' 5 = z ∧ e' 6 = .int .i64 x ∧ e' 7 = .int .i64 y ∧ e' 10 = iv .u16 (flI l x y l.length) ∧ e' 14 = iv .u16 (flI l x y l.length ++ cvr l x y l.length) ∧ e' 22 = r22 ∧ e' 24 = r24 ∧ e' 26 = slc G.length 0 0 l.length l.length ∧ e' 27 = .int .i64 (v : Int) ∧
    G' = HK G l x y (v * 12 + u)) (by omega) ?_ ?_ h28 ⟨h1, h5, h6, h7, h10, h14, h22, h24, h26, h27, rfl⟩
  · rintro u e' G' _ hu huu e4 h28 ⟨g1, g5, g6, g7, g10, g14, g22, g24, g26, g27, rfl⟩
    have hK := h.pre (HK_pre (l := l) (x := x) (y := y) (k := v * 12 + u))
    have c282 := call282 (pu := true) h.W (by omega) hK.sc.1 h.c hu hv
    have c283 := call283 (pu := true) h.W (by omega) hK.sc.1 h.c hu hv
    have hd1 := row_div (hFV.W.nth hv) hu
    have hd2 := row_div (hCV.W.nth hv) hu
    have b1 : ((nth (flI l x y l.length) v / bit u) % 2 == 1) = hasF (flI l x y l.length) u v := rfl
    have b2 : ((nth (cvr l x y l.length) v / bit u) % 2 == 1) = hasF (cvr l x y l.length) u v := rfl
    have hj := nth_join (b := cvr l x y l.length) hFl hv
    have wu : IntKind.wrap .u64 (u : Int) = (u : Int) := by
      have : IntKind.wrap .u64 (u : Int) = (u : Int) % 18446744073709551616 := rfl
      omega
    have hlt : (u : Int) < 12 := by omega
    have sh1 : shiftOf .shr .u16 (nth (flI l x y l.length) v) (u : Int) = some (.int .u16 (nth (flI l x y l.length) v / bit u)) := shr_bit hu
    have sh2 : shiftOf .shr .u16 (nth (cvr l x y l.length) v) (u : Int) = some (.int .u16 (nth (cvr l x y l.length) v / bit u)) := shr_bit hu
    have hvl : (v : Int) < 12 := by omega
    have hld : ldc 1 false (iv .u16 (flI l x y l.length ++ cvr l x y l.length)) (12 + v) = some (.int .u16 (nth (cvr l x y l.length) v)) := by
      rw [← hj]; exact ldc_iv1 (by simp [hFl, hCl]; omega)
    rcases lay_cases (l := l) (x := x) (y := y) hu hv with ⟨hN, hC, _⟩ | ⟨i, hi, hN, hS, hC⟩
    · have hF : hasF (flI l x y l.length) u v = false := by
        cases hf : hasF (flI l x y l.length) u v with
        | false => rfl
        | true => have := flI_cvr h.W hok (Nat.le_refl _) hu hv hf; rw [hC] at this; cases this
      have hR : layR l x y u v = tup [.int .i64 0, .int .i64 6] := by rw [layR, hN]; rfl
      rw [hR] at c282 c283
      rw [hC] at b2
      rw [hF] at b1
      have hcts := ctsL_none (l := l) (x := x) (y := y) hu hv hN
      have hb : eqV .b (.bool false) (.bool false) = some true := rfl
      simp [b57_1, h28, g1, g5, g6, g7, g10, g14, g22, g24, g26, g27, hlt, hvl, c282, c283, hv, hu, hFl, hCl, wu, sh1, sh2, and_one hd1, b1, hld, and_one hd2, b2, hb, e4, skip]
      unfold HK
      rw [show v * 12 + (u + 1) = v * 12 + u + 1 by omega, hcts]
    · have hR : layR l x y u v = tup [.int .i64 (i : Int), .int .i64 0] := by rw [layR, hN, if_pos (by omega)]
      rw [hR] at c282 c283
      rw [hC] at b2
      obtain ⟨B, hBd⟩ : ∃ B, B = hasF (flI l x y l.length) u v := ⟨_, rfl⟩
      rw [← hBd] at b1
      have hcts := ctsL_some (l := l) (x := x) (y := y) hu hv hi hN
      have hle := ctsL_le (l := l) (x := x) (y := y) (k := v * 12 + u) hi
      obtain ⟨c, hcd⟩ : ∃ c, c = nth (ctsL l x y (v * 12 + u)) i := ⟨_, rfl⟩
      rw [← hcd] at hcts hle
      have a26 : idxAV 1 (slc G.length 0 0 l.length l.length) (.int .i64 (i : Int)) = some (adr G.length i 0) := by rw [idxAV_slc, at_nat hi]; simp
      have r26 : rd (HK G l x y (v * 12 + u)) G.length i 0 1 = some [.int .i64 c] := by
        rw [rd_at HK_get rfl (by simp [ctsL_len]; omega)]
        have := elem_i (k := .i64) (l := ctsL l x y (v * 12 + u)) (i := i) (by rw [ctsL_len]; exact hi)
        unfold elem at this
        simp only [Nat.mul_one] at this
        rw [this, hcd]
      have wc : IntKind.wrap .i64 (c + 1) = c + 1 := wrap64 (by omega)
      have hwr := wr_at (n0 := H.length) (wb := false) (off := i) (vs := [.int .i64 (c + 1)]) (ver := 0) (HK_get (G := G) (l := l) (x := x) (y := y) (k := v * 12 + u)) rfl rfl (by simp [may, hHG]) (by simp [ctsL_len]; omega)
      have hsp : splice (cs .i64 (ctsL l x y (v * 12 + u))) i [.int .i64 (c + 1)] = cs .i64 (ctsL l x y (v * 12 + u + 1)) := by rw [splice_one (by simp [ctsL_len]; omega), hcts]; simp [cs, List.map_set]
      simp only [hsp] at hwr
      have hset : (HK G l x y (v * 12 + u)).set G.length ⟨cs .i64 (ctsL l x y (v * 12 + u + 1)), 1, 0, false⟩ = HK G l x y (v * 12 + (u + 1)) := by unfold HK; simp; rfl
      rw [hset] at hwr
      have hK2 := h.pre (HK_pre (l := l) (x := x) (y := y) (k := v * 12 + (u + 1)))
      have c101 := call101g (pu := true) h.W hK2.sc.1 h.c hi
      obtain ⟨p, q, hp, hp12, hq', hq12, hmk, hik⟩ := sn_dot h.W hok hu hv hi hS
      rw [← hBd] at hik
      have wp : IntKind.wrap .i64 ((u : Int) - offX (at0 l i) x) = (p : Int) := by rw [hp]; exact wrap64 (by omega)
      have wq : IntKind.wrap .i64 ((v : Int) - offY (at0 l i) y) = (q : Int) := by rw [hq']; exact wrap64 (by omega)
      have np0 : ¬ (p : Int) < 0 := by omega
      have np1 : ¬ (11 : Int) < (p : Int) := by omega
      have nq0 : ¬ (q : Int) < 0 := by omega
      have nq1 : ¬ (11 : Int) < (q : Int) := by omega
      obtain ⟨q0, o0, v0, ha, hr, hY⟩ := Sc.get hK2.sc.1 h.W hi
      have lw := h.W _ (at0_mem hi)
      have rm := rd_one hY.msk hq12
      have ri := rd_one hY.ink hq12
      have hm1 := row_div (lw.msk.nth hq12) hp12
      have hi1 := row_div (lw.ink.nth hq12) hp12
      have sh3 : shiftOf .shr .u16 (nth (mskL (at0 l i)) q) (p : Int) = some (.int .u16 (nth (mskL (at0 l i)) q / bit p)) := shr_bit hp12
      have sh4 : shiftOf .shr .u16 (nth (inkL (at0 l i)) q) (p : Int) = some (.int .u16 (nth (inkL (at0 l i)) q / bit p)) := shr_bit hp12
      have wpu : IntKind.wrap .u64 (p : Int) = (p : Int) := by
        have : IntKind.wrap .u64 (p : Int) = (p : Int) % 18446744073709551616 := rfl
        omega
      have m0 : ((nth (mskL (at0 l i)) q / bit p) % 2 == 0) = false := by
        have : (nth (mskL (at0 l i)) q / bit p) % 2 = 1 := of_decide_eq_true (show decide _ = true from hmk)
        rw [this]; rfl
      have m1 : ((nth (inkL (at0 l i)) q / bit p) % 2 == 1) = B := hik
      have hb : eqV .b (.bool true) (.bool true) = some true := rfl
      have hbB := eqB (b := B)
      simp [b57_1, h28, g1, g5, g6, g7, g10, g14, g22, g24, g26, g27, hlt, hvl, c282, c283, hv, hu, hFl, hCl, wu, sh1, sh2, and_one hd1, b1, hld, and_one hd2, b2, hb, e4, skip, a26, r26, wc, hwr, wbOf, c101, wp, wq, np0, np1, nq0, nq1, ha, hq12, rm, ri, sh3, sh4, wpu, and_one hm1, and_one hi1, m0, m1, hbB]
  · rintro e' G' _ h28 ⟨g1, g5, g6, g7, g10, g14, g22, g24, g26, g27, rfl⟩
    have h28 : e' 28 = .int .i64 12 := h28
    simp [b57_1, h28]
    exact hq _ (by simp [g1]) (by simp [g5]) (by simp [g6]) (by simp [g7]) (by simp [g10]) (by simp [g14]) (by simp [g22]) (by simp [g24]) (by simp [g26]) (by simp [g27])
theorem rep_zero {n : Nat} : rep n [.int .i64 0] = cs .i64 (zr n 0) := by
  induction n with
  | zero => rfl
  | succ n ih => rw [rep, ih]; rfl
theorem c57_15 {H G : Heap} {z y2 r22 r24 : Value} {bs : List Int} {l : List Ly} {x y : Int} {e : Env} (h : K57 H G z l x y) (hb2 : By G y2 bs) (sl22 : SlR G r22 1 l.length (cs .i64 (cntL l x y l.length))) (sl24 : SlR G r24 1 (hidL l x y l.length).length (cs .i64 (hidL l x y l.length)))
    (h1 : e 1 = y2) (h5 : e 5 = z) (h6 : e 6 = .int .i64 x) (h7 : e 7 = .int .i64 y) (h10 : e 10 = iv .u16 (flI l x y l.length)) (h14 : e 14 = iv .u16 (flI l x y l.length ++ cvr l x y l.length)) (h22 : e 22 = r22) (h24 : e 24 = r24) :
    WK tab H.length false (tailC 15 k57) [] e G (QL H.length H) := by
  have hnb := h.nb
  have hlz := SlR.lenV h.sc.1
  have hT : tailC 15 k57 = headC 2 (tailC 15 k57) (tailC 17 k57) := rfl
  rw [hT]
  obtain ⟨T, hTT⟩ : ∃ T, T = tailC 17 k57 := ⟨_, rfl⟩
  rw [← hTT]
  have hmk : (if 0 ≤ (l.length : Int) ∧ (l.length : Int) ≤ (l.length : Int) ∧ (l.length : Int) * ((8 : Nat) : Int) ≤ ((roomMax : Nat) : Int) then some (slc G.length 0 0 (l.length : Int).toNat (l.length : Int).toNat, G ++ [⟨rep (l.length : Int).toNat [.int .i64 0], 1, 0, false⟩]) else none) = some (slc G.length 0 0 l.length l.length, HK G l x y 0) := by
    rw [if_pos ⟨by omega, by omega, by have : ((roomMax : Nat) : Int) = 140737488355328 := rfl; omega⟩, Int.toNat_natCast, rep_zero, ← ctsL_zero (l := l) (x := x) (y := y)]; rfl
  have hev : ∀ e' : Env, e' 229 = .int .i64 (l.length : Int) → ev1 (Call tab) H.length false e' G (.mkS 1 8 [.int .i64 0] (.t 229) (.t 229)) = some (slc G.length 0 0 l.length l.length, HK G l x y 0) := fun e' he => by
    show (match e' 229, e' 229 with
      | .int .i64 m, .int .i64 c => if 0 ≤ m ∧ m ≤ c ∧ c * ((8 : Nat) : Int) ≤ ((roomMax : Nat) : Int) then some (slc G.length 0 0 m.toNat c.toNat, G ++ [(⟨rep c.toNat [.int .i64 0], 1, 0, false⟩ : Blk)]) else none
      | _, _ => none) = _
    rw [he]; exact hmk
  simp [headC, tailC, k57, h5, hlz, hev]
  refine WP_count 27 12 12 rfl (fun v e' G' => e' 1 = y2 ∧ e' 5 = z ∧ e' 6 = .int .i64 x ∧ e' 7 = .int .i64 y ∧ e' 10 = iv .u16 (flI l x y l.length) ∧ e' 14 = iv .u16 (flI l x y l.length ++ cvr l x y l.length) ∧ e' 22 = r22 ∧ e' 24 = r24 ∧ e' 26 = slc G.length 0 0 l.length l.length ∧
    G' = HK G l x y (v * 12)) (by omega) ?_ ?_ (by simp) (And.intro (by simp [h1]) ⟨by simp [h5], by simp [h6], by simp [h7], by simp [h10], by simp [h14], by simp [h22], by simp [h24], by simp, by simp⟩)
  · rintro v e' G' _ hv hvv e4 h27 ⟨g1, g5, g6, g7, g10, g14, g22, g24, g26, rfl⟩
    have hlt : (v : Int) < 12 := by omega
    simp [b57_2, h27, hlt]
    refine inner57 (y2 := y2) (r22 := r22) (r24 := r24) h hv ?_ ?_ ?_ ?_ ?_ ?_ ?_ ?_ ?_ ?_ ?_ ?_
    case refine_12 =>
      intro e2 q1 q5 q6 q7 q10 q14 q22 q24 q26 q27
      simp [q27, e4]
      exact ⟨q1, q5, q6, q7, q10, q14, q22, q24, q26, by rw [show (v + 1) * 12 = v * 12 + 12 by omega]⟩
    all_goals simp [g1, g5, g6, g7, g10, g14, g22, g24, g26, h27]
  · rintro e' G' _ h27 ⟨g1, g5, g6, g7, g10, g14, g22, g24, g26, rfl⟩
    have h27 : e' 27 = .int .i64 12 := h27
    have e144 : 12 * 12 = 144 := rfl
    rw [e144]
    obtain ⟨G1, hG1⟩ : ∃ G1, G1 = HK G l x y 144 := ⟨_, rfl⟩
    have p1 : Pre G G1 := by rw [hG1]; exact HK_pre
    have sl26 : SlR G1 (slc G.length 0 0 l.length l.length) 1 l.length (cs .i64 (cntL l x y l.length)) := by
      rw [← ctsL_all, hG1]
      exact (own_new (by simp [ctsL_len])).sl
    have hcl := cntL_len (l := l) (x := x) (y := y) (k := l.length)
    have c130 := call130 (pu := true) (l := cntL l x y l.length) (by rw [hcl]; exact sl26) (by rw [hcl]; exact SlR.pre p1 sl22) (by rw [hcl]; omega)
    rw [← hG1]
    have hT3 : tailC 17 k57 = headC 1 (tailC 17 k57) (tailC 18 k57) := rfl
    simp [b57_2, h27]
    rw [hTT, hT3]
    obtain ⟨T2, hTT2⟩ : ∃ T, T = tailC 18 k57 := ⟨_, rfl⟩
    rw [← hTT2]
    simp [headC, tailC, k57, g22, g26, c130]
    rw [hTT2]
    refine c57_18 (bs := bs) (h.pre p1) (hb2.pre p1) (SlR.pre p1 sl24) sl26 ?_ ?_ ?_ ?_ ?_ ?_ ?_
    all_goals simp [g1, g5, g6, g7, g10, g24, g26]
def U57 : Cd := tailC 15 k57
set_option maxRecDepth 4000 in
theorem call57 {H : Heap} {y1 y2 : Value} {b1 b2 : List Int} (h1 : By H y1 b1) (h2 : By H y2 b2) : Call tab false 57 [y1, y2] H = some (.bool true, H) := by
  refine Call_wp t57 (.inr rfl) rfl ?_
  show WK tab H.length false k57 [] (ini [y1, y2]) H (QL H.length H)
  have c84 := call84 (pu := true) h1 h2
  have hT : k57 = headC 15 k57 U57 := rfl
  rw [hT]
  by_cases g1 : 3000 < b1.length
  · rw [decide_eq_true g1] at c84
    simp [headC, k57, c84, QL]
  by_cases g2 : 3000 < b2.length
  · rw [decide_eq_true g2, Bool.or_true] at c84
    simp [headC, k57, c84, QL]
  rw [decide_eq_false g1, decide_eq_false g2] at c84
  have c84 : Call tab true 84 [y1, y2] H = some (.bool false, H) := c84
  obtain ⟨l, c96, hD, hn4⟩ := call96 (pu := true) h1 (by omega)
  have hw : ScW l := fun s hs => (hD s hs).W
  have hok : okSc l = true := okSc_of (fun s hs => (hD s hs).ok) (by omega)
  obtain ⟨z, hz⟩ : ∃ z, z = slc H.length 0 0 l.length l.length := ⟨_, rfl⟩
  obtain ⟨G1, hG1⟩ : ∃ G1, G1 = H ++ [(⟨scC l, 27, 0, false⟩ : Blk)] := ⟨_, rfl⟩
  rw [← hz, ← hG1] at c96
  have p1 : Pre H G1 := by rw [hG1]; exact Pre.one
  have sz : ScS G1 z l := ⟨by rw [hz]; exact sc_of (by rw [hG1]; exact get_last) hw, _, _, _, _, hz⟩
  obtain ⟨a, c1240, a0, a1⟩ := call124 (pu := true) (i := 0) (n := 13) (h2.pre p1) (by omega) (by omega)
  obtain ⟨b, c1241, b0, b1'⟩ := call124 (pu := true) (i := 1) (n := 13) (h2.pre p1) (by omega) (by omega)
  have e0 : ((0 : Nat) : Int) = 0 := rfl
  have e1 : ((1 : Nat) : Int) = 1 := rfl
  rw [e0] at c1240
  rw [e1] at c1241
  obtain ⟨x, hx⟩ : ∃ x, x = a - 6 := ⟨_, rfl⟩
  obtain ⟨y, hy⟩ : ∃ y, y = b - 6 := ⟨_, rfl⟩
  have wx : IntKind.wrap .i64 (a - 6) = x := by rw [hx]; exact wrap64 (by omega)
  have wy : IntKind.wrap .i64 (b - 6) = y := by rw [hy]; exact wrap64 (by omega)
  have hc : cmC l x y = 0 := cmC_of hok (by omega) (by omega)
  have c97 := call97 (pu := true) (x := x) (y := y) hw sz.1
  have c98 := call98 (pu := true) (x := x) (y := y) hw (by omega) sz.1
  have c99 := call99 (pu := true) (x := x) (y := y) hw sz.1
  have c276 := call276 (pu := true) hw (by omega) sz.1 hc
  rw [hc, shwF, if_pos hc] at c97 c98
  rw [hc, flatF, if_pos hc] at c99
  obtain ⟨r16, G2, β2, c192, p2, o2⟩ := call192 (pu := true) (x := x) (y := y) hw (by omega) sz.1
  obtain ⟨r18, G3, β3, c190, p3, o3⟩ := call190 (pu := true) (x := x) (y := y) hw (by omega) (sz.pre p2).1
  have hTm : tmL l x y = trL' l x y l.length := by rw [tmL, if_pos hc]
  obtain ⟨t1, t2, t3, t4⟩ := trim_same (x := x) (y := y) hw hok (Nat.le_refl l.length)
  obtain ⟨T, hTd⟩ : ∃ T, T = trL' l x y l.length := ⟨_, rfl⟩
  rw [← hTd] at t1 t2 t3 t4 hTm
  rw [hTm] at o2 o3
  rw [hc] at c192 c190
  have hwT : ScW T := fun s hs => hw s (t4 s hs)
  have hTn : T.length ≤ 4 := by omega
  have hokT : okSc T = true := okSc_of (fun s hs => (hD s (t4 s hs)).ok) (by omega)
  have hcT : cmC T x y = 0 := cmC_of hokT (by omega) (by omega)
  have sl16 : Sc G3 r16 T := SlR.pre p3 o2.sl
  have sl18 : Sc G3 r18 T := o3.sl
  have c97T := call97 (pu := true) (x := x) (y := y) hwT sl18
  rw [hcT, shwF, if_pos hcT, t2] at c97T
  have p23 := p2.trans p3
  obtain ⟨r22, G4, c277, p4, sl22⟩ := call277 (pu := true) hw (by omega) (sz.pre p23).1 hc
  obtain ⟨r24, G5, c278, p5, sl24⟩ := call278 (pu := true) hw (by omega) (sz.pre (p23.trans p4)).1 hc
  have p45 := p4.trans p5
  have P := p23.trans p45
  have sl16' : Sc G5 r16 T := SlR.pre p45 sl16
  have sl18' : Sc G5 r18 T := SlR.pre p45 sl18
  have c279 := call279 (pu := true) sl16' sl18' hwT (by omega)
  have c280 := call280 (pu := true) sl16' sl18' hwT (by omega)
  have c281 := call281 (pu := true) (sz.pre P).1 hw (by omega)
  rw [hok] at c281
  have l22 := (sl22.pre p5).lenV
  have l24 := sl24.lenV
  have l18 := SlR.lenV sl18'
  have lz := SlR.lenV sz.1
  have hFl := flI_len (l := l) (x := x) (y := y) (k := l.length)
  have hCl := cvr_len (l := l) (x := x) (y := y) (k := l.length)
  have hl24 : (flI l x y l.length ++ cvr l x y l.length).length = 24 := by simp [hFl, hCl]
  have st1 := stc_zr (k := .u16) (n := 12) (l := flI l x y l.length) hFl
  have st2 := stc_zr (k := .u16) (n := 24) (l := flI l x y l.length ++ cvr l x y l.length) hl24
  have q1 := eqV_iv (k := .u16) (n := 12) (f := flI l x y l.length) (g := flI l x y l.length) hFl hFl
  have q2 := eqV_iv (k := .u16) (n := 24) (f := flI l x y l.length ++ cvr l x y l.length) (g := flI l x y l.length ++ cvr l x y l.length) hl24 hl24
  rw [decide_eq_true rfl] at q1 q2
  have hsum : IntKind.wrap .i64 (((hidL l x y l.length).length : Int) + (T.length : Int)) = (l.length : Int) := by rw [wrap64 (by omega)]; omega
  have lda := ldAB_a hFl hCl
  have K : K57 H G5 z l x y := ⟨p1.trans P, sz.pre P, hw, hc, hn4, by omega, by omega⟩
  simp [headC, k57, c84, c96, c1240, c1241, wx, wy, c97, c98, c99, c276, c192, c190, c97T, c277, c278, c279, c280, c281, l22, l24, l18, lz, zs_cs, agg_cs, hFl, hl24, st1, st2, q1, q2, hsum, lda, skip]
  refine c57_15 (y2 := y2) (bs := b2) (r22 := r22) (r24 := r24) K (h2.pre (p1.trans P)) (sl22.pre p5) sl24 ?_ ?_ ?_ ?_ ?_ ?_ ?_ ?_
  all_goals simp
end Fb
