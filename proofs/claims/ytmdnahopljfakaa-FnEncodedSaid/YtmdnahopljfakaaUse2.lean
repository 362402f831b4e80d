/- What each function computes. -/
import Derived.Test.YtmdnahopljfakaaUse1
set_option linter.unusedVariables false
set_option linter.unusedSimpArgs false
namespace Fb
open Go
theorem inner389 {H G : Heap} {f g : List Int} {base dx : Int} {s : Sted} {y : Value} (hw : FrW f) (hk : okF f = true) (hwg : FrW g)
    (hb : 0 ≤ base ∧ base ≤ 39) (hdx : -12 ≤ dx ∧ dx ≤ 12) (hs : okS s) {fs : List Fr} {Q : Ex → Env → Heap → Prop} {e : Env}
    (h3 : e 3 = iv .u16 f) (h4 : e 4 = iv .u16 g) (h2 : e 2 = .int .i64 base) (h7 : e 7 = agg (stC s y)) (h8 : e 8 = .int .i64 dx) (h9 : e 9 = .int .i64 (-12)) (hS : GrN H G y 2 s.rows.length (chsC s.rows))
    (hq : ∀ e' G' y', e' 3 = iv .u16 f → e' 4 = iv .u16 g → e' 2 = .int .i64 base → e' 8 = .int .i64 dx → e' 7 = agg (stC (inB f g base dx s 25) y') → GrN H G' y' 2 (inB f g base dx s 25).rows.length (chsC (inB f g base dx s 25).rows) → KK tab H.length false (.exit 2) fs e' G' Q) : WK tab H.length false (.loop b389_1) fs e G Q := by
  refine WK_loop (fun j e G => e 3 = iv .u16 f ∧ e 4 = iv .u16 g ∧ e 2 = .int .i64 base ∧ e 8 = .int .i64 dx ∧ e 9 = .int .i64 ((j : Int) - 12) ∧ ∃ y, e 7 = agg (stC (inB f g base dx s j) y) ∧ GrN H G y 2 (inB f g base dx s j).rows.length (chsC (inB f g base dx s j).rows)) 25 ?_ (Nat.zero_le _) ⟨h3, h4, h2, h8, by rw [h9]; rfl, y, by rw [inB_zero]; exact h7, by rw [inB_zero]; exact hS⟩
  rintro j e G _ hj ⟨h3, h4, h2, h8, h9, y, h7, hS⟩
  by_cases hj25 : j = 25
  · subst hj25
    simp [b389_1, h9]
    exact hq _ _ y (by simp [h3]) (by simp [h4]) (by simp [h2]) (by simp [h8]) (by simp [h7]) hS
  have hle : (j : Int) - 12 ≤ 12 := by omega
  have e9 : IntKind.wrap .i64 ((j : Int) - 12 + 1) = ((j + 1 : Nat) : Int) - 12 := by rw [wrap64 (by omega)]; omega
  have hsucc := inB_succ (f := f) (g := g) (base := base) (dx := dx) (s := s) (k := j)
  have hok := inB_ok (f := f) (g := g) (base := base) (dx := dx) (k := j) hs
  generalize inB f g base dx s j = t at *
  cases hz : (dx == 0 && (j : Int) - 12 == 0) with
  | true =>
    rw [stepB, if_pos hz] at hsucc
    rw [Bool.and_eq_true] at hz
    have z1 := eq_of_beq hz.1
    have z2 := eq_of_beq hz.2
    obtain rfl : j = 12 := by omega
    subst z1
    have h9' : e 9 = .int .i64 0 := by rw [h9]; rfl
    rw [show 12 + 1 = 13 from rfl] at hsucc
    simp [b389_1, h3, h4, h2, h7, h8, h9']
    rw [hsucc]
    exact ⟨y, rfl, hS⟩
  | false =>
    rw [stepB, if_neg (by rw [hz]; decide)] at hsucc
    obtain ⟨F, hF⟩ : ∃ F, F = shF f dx ((j : Int) - 12) := ⟨_, rfl⟩
    have hFW : FrW F := by rw [hF]; exact dotsF_W
    have h358 := call358 (pu := true) (H := G) (dx := dx) (dy := (j : Int) - 12) hw hk (by omega) (by omega)
    rw [← hF] at h358 hsucc
    have h528 := call528 (pu := true) (H := G) hFW.len hwg.len
    obtain ⟨L, hL⟩ : ∃ L, L = chgL F g 12 := ⟨_, rfl⟩
    have hL12 : L.length ≤ 12 := by rw [hL]; exact chgL_len
    have h312 := cost312 (pu := true) (H := G) (s := t) hS.sl ⟨hok.1, hok.2.1⟩ (by have := hok.2.2; omega)
    obtain ⟨_, h527, y', G', rfl, hY⟩ := call527 (pu := true) (H := G) (a := 2) (b := base) (c := dx) (d := (j : Int) - 12) (y0 := .slice none 0 0) hFW hwg
    rw [← hL] at hsucc h528 hY
    have w3 : IntKind.wrap .i64 (3 * (L.length : Int)) = 3 * (L.length : Int) := wrap64 (by omega)
    have w4 : IntKind.wrap .i64 (3 * (L.length : Int) + 4) = 4 + 3 * (L.length : Int) := by rw [wrap64 (by omega)]; omega
    have c1 : IntKind.wrap .i8 base = base := wrap8 (by omega)
    have c2 : IntKind.wrap .i8 dx = dx := wrap8 (by omega)
    have c3 : IntKind.wrap .i8 ((j : Int) - 12) = (j : Int) - 12 := wrap8 (by omega)
    have hz12 := stc_zr (k := .u16) (n := 12) (l := F) hFW.len
    have hfa : fill [.int .i8 0, .int .i8 0, .int .i8 0, .int .i8 0, .slice none 0 0] [(0, 1, .int .i8 2), (1, 1, .int .i8 base), (2, 1, .int .i8 dx), (3, 1, .int .i8 ((j : Int) - 12))] = some [.int .i8 2, .int .i8 base, .int .i8 dx, .int .i8 ((j : Int) - 12), .slice none 0 0] := rfl
    simp only [stC] at h7 h312
    by_cases hc : 4 + 3 * (L.length : Int) < stCost t
    · rw [if_pos hc] at hsucc
      have hY' := hY.low hS.pre
      cases hx0 : dx == 0 with
      | true =>
        have hj0 : ((j : Int) - 12 == 0) = false := by rw [hx0] at hz; simpa using hz
        simp [b389_1, h3, h4, h2, h7, h8, h9, hle, hx0, hj0, hw.len, hwg.len, h358, zs_cs, agg_cs, hz12, hFW.len, h528, w3, w4, ldc5, h312, hc, c1, c2, c3, hfa, h527, stc5, e9]
        rw [hsucc]
        exact ⟨by omega, y', rfl, hY'⟩
      | false =>
        simp [b389_1, h3, h4, h2, h7, h8, h9, hle, hx0, skip, hw.len, hwg.len, h358, zs_cs, agg_cs, hz12, hFW.len, h528, w3, w4, ldc5, h312, hc, c1, c2, c3, hfa, h527, stc5, e9]
        rw [hsucc]
        exact ⟨by omega, y', rfl, hY'⟩
    · rw [if_neg hc] at hsucc
      cases hx0 : dx == 0 with
      | true =>
        have hj0 : ((j : Int) - 12 == 0) = false := by rw [hx0] at hz; simpa using hz
        simp [b389_1, h3, h4, h2, h7, h8, h9, hle, hx0, hj0, hw.len, hwg.len, h358, zs_cs, agg_cs, hz12, hFW.len, h528, w3, w4, ldc5, h312, hc, e9]
        rw [hsucc]
        exact ⟨by omega, y, rfl, hS⟩
      | false =>
        simp [b389_1, h3, h4, h2, h7, h8, h9, hle, hx0, skip, hw.len, hwg.len, h358, zs_cs, agg_cs, hz12, hFW.len, h528, w3, w4, ldc5, h312, hc, e9]
        rw [hsucc]
        exact ⟨by omega, y, rfl, hS⟩
theorem fin_step {H G : Heap} {s : Sted} {y : Value} {n : Nat} {vs : List Value} (hy : GrN H G y 2 n vs) : ∃ G', finish H.length G [agg (stC s y)] = (agg (stC s y), G') ∧ GrN H G' y 2 n vs := by
  rcases hy with hy | ⟨rfl, e1, e2, p⟩
  · have ho : old0 H.length y = false := by
      obtain ⟨b, ver, rfl, _, h, _⟩ := hy
      rw [old0_slc]; simp; omega
    exact ⟨G, finish_keep (n0 := H.length) (G := G) (l := stC s y) (by simp [stC, ho]), .inl hy⟩
  · have hfin : finish H.length G [agg (stC s (.slice none 0 0))] = (agg (stC s (.slice none 0 0)), G.take H.length) := fin_agg rfl
    rw [p.take] at hfin
    exact ⟨H, hfin, .inr ⟨rfl, e1, e2, .refl⟩⟩
theorem call389 {pu : Bool} {H : Heap} {f g : List Int} {base : Int} (hw : FrW f) (hk : okF f = true) (hwg : FrW g) (hb : 0 ≤ base ∧ base ≤ 39) :
    ∃ r, Call tab pu 389 [iv .u16 f, iv .u16 g, .int .i64 base] H = some r ∧ RsS H r (outB f g base 25) := by
  refine Call_ex t389 (.inr rfl) rfl ?_
  obtain ⟨_, h527, y', G', rfl, hY⟩ := call527 (pu := true) (H := H) (a := 1) (b := base) (c := 0) (d := 0) (y0 := .slice none 0 0) hw hwg
  have c1 : IntKind.wrap .i8 base = base := wrap8 (by omega)
  have hfa : fill [.int .i8 0, .int .i8 0, .int .i8 0, .int .i8 0, .slice none 0 0] [(0, 1, .int .i8 1), (1, 1, .int .i8 base)] = some [.int .i8 1, .int .i8 base, .int .i8 0, .int .i8 0, .slice none 0 0] := rfl
  simp [c389, k389, hw.len, hwg.len, c1, hfa, h527, stc5]
  refine WK_loop (fun i e G => e 3 = iv .u16 f ∧ e 4 = iv .u16 g ∧ e 2 = .int .i64 base ∧ e 8 = .int .i64 ((i : Int) - 12) ∧ ∃ y, e 7 = agg (stC (outB f g base i) y) ∧ GrN H G y 2 (outB f g base i).rows.length (chsC (outB f g base i).rows)) 25 ?_ (Nat.zero_le _) ⟨by simp, by simp, by simp, by simp, y', by simp [outB_zero, stC], by rw [outB_zero]; exact hY⟩
  rintro i e G hfr hi ⟨h3, h4, h2, h8, y, h7, hS⟩
  have h6 := hfr 6 (by decide)
  simp at h6
  have hok := outB_ok (f := f) (g := g) (base := base) (k := i)
  by_cases hi25 : i = 25
  · subst hi25
    obtain ⟨G2, e1, e2⟩ := fin_step (s := outB f g base 25) hS
    simp only [stC] at h7 e1
    simp [b389_2, h7, h8, h6, stc5, ldc5, e1]
    exact ⟨_, _, ⟨rfl, rfl⟩, y, G2, rfl, e2.pre, e2⟩
  · have hi24 : (i : Int) - 12 ≤ 12 := by omega
    have e9 : IntKind.wrap .i64 ((i : Int) - 12 + 1) = ((i + 1 : Nat) : Int) - 12 := by rw [wrap64 (by omega)]; omega
    simp [b389_2, h7, h8, hi24]
    refine inner389 (s := outB f g base i) (dx := (i : Int) - 12) hw hk hwg hb ⟨by omega, by omega⟩ hok (by simp [h3]) (by simp [h4]) (by simp [h2]) (by simp [h7]) (by simp [h8]) (by simp) hS fun e' G' y' q3 q4 q2 q8 q7 hS' => ?_
    rw [← outB_succ] at hS' q7
    simp [q3, q4, q2, q8, q7, e9]
    exact ⟨by omega, y', rfl, hS'⟩
def stZ : Sted := ⟨0, 0, 0, 0, []⟩
theorem fin_step2 {H G : Heap} {s : Sted} {y : Value} {n : Nat} {vs : List Value} {c : Int} (hy : GrN H G y 2 n vs) : ∃ G', finish H.length G [agg (stC s y), .int .i64 c] = (tup [agg (stC s y), .int .i64 c], G') ∧ GrN H G' y 2 n vs := by
  rcases hy with hy | ⟨rfl, e1, e2, p⟩
  · have ho : old0 H.length y = false := by
      obtain ⟨b, ver, rfl, _, h, _⟩ := hy
      rw [old0_slc]; simp; omega
    have h1 : old1 H.length (agg (stC s y)) = false := by
      show (stC s y).toArray.toList.all (old0 H.length) = false
      simp [stC, ho]
    have : pack H.length G [agg (stC s y), .int .i64 c] [] [] = none := by
      rw [pack, if_neg (by rw [h1]; decide)]; rfl
    exact ⟨G, by unfold finish; rw [this]; rfl, .inl hy⟩
  · have hfin : finish H.length G [agg (stC s (.slice none 0 0)), .int .i64 c] = (tup [agg (stC s (.slice none 0 0)), .int .i64 c], G.take H.length) := finish_vs (by
      have h1 : old1 H.length (agg (stC s (.slice none 0 0))) = true := by
        show (stC s (.slice none 0 0)).toArray.toList.all (old0 H.length) = true
        simp [stC]; rfl
      simp [h1])
    rw [p.take] at hfin
    exact ⟨H, hfin, .inr ⟨rfl, e1, e2, .refl⟩⟩
/-- What StepBetween hands back. -/
def RsB (H : Heap) (r : Value × Heap) (s : Sted) (c : Int) : Prop := ∃ y G, r = (tup [agg (stC s y), .int .i64 c], G) ∧ GrN H G y 2 s.rows.length (chsC s.rows)
def betS (f g : List Int) (base : Int) : Sted := if okF f = true then if okF g = true then if in1 base 0 39 = true then outB f g base 25 else stZ else stZ else stZ
def betC (f g : List Int) (base : Int) : Int := if okF f = true then if okF g = true then if in1 base 0 39 = true then 0 else 2 else 1 else 1
theorem stZ_fin {H G : Heap} {c : Int} (p : Pre H G) : ∃ G', finish H.length G [agg [.int .i8 0, .int .i8 0, .int .i8 0, .int .i8 0, .slice none 0 0], .int .i64 c] = (tup [agg [.int .i8 0, .int .i8 0, .int .i8 0, .int .i8 0, .slice none 0 0], .int .i64 c], G') ∧ GrN H G' (.slice none 0 0) 2 stZ.rows.length (chsC stZ.rows) :=
  fin_step2 (s := stZ) (y := .slice none 0 0) (.inr ⟨rfl, rfl, rfl, p⟩)
theorem call165 {pu : Bool} {H : Heap} {f g : List Int} {base : Int} (hw : FrW f) (hwg : FrW g) : ∃ r, Call tab pu 165 [iv .u16 f, iv .u16 g, .int .i64 base] H = some r ∧ RsB H r (betS f g base) (betC f g base) := by
  refine Call_ex t165 (.inr rfl) rfl ?_
  have hfl : fill (rep 2 (cs .u16 (zr 12 0))) [(0, 12, iv .u16 f), (12, 12, iv .u16 g)] = some (bkC [f, g]) := by
    have l1 : (cs .u16 f).length = 12 := by simp [hw.len]
    have l2 : (cs .u16 g).length = 12 := by simp [hwg.len]
    have lz : (cs .u16 (zr 12 0)).length = 12 := by simp
    have e0 : rep 2 (cs .u16 (zr 12 0)) = cs .u16 (zr 12 0) ++ cs .u16 (zr 12 0) := by simp [rep]
    rw [e0]
    generalize cs IntKind.u16 (zr 12 0) = Z at *
    show (if (cs .u16 f).length = 12 ∧ 0 + 12 ≤ (Z ++ Z).length then fill (splice (Z ++ Z) 0 (cs .u16 f)) [(12, 12, iv .u16 g)] else none) = _
    rw [if_pos ⟨l1, by simp [lz]⟩]
    have e1 : splice (Z ++ Z) 0 (cs .u16 f) = cs .u16 f ++ Z := by
      unfold splice
      rw [l1, List.take_zero, List.nil_append, List.drop_append_of_le_length (by omega), List.drop_eq_nil_of_le (by omega), List.nil_append]
    rw [e1]
    show (if (cs .u16 g).length = 12 ∧ 12 + 12 ≤ (cs .u16 f ++ Z).length then fill (splice (cs .u16 f ++ Z) 12 (cs .u16 g)) [] else none) = _
    rw [if_pos ⟨l2, by simp [lz, hw.len]⟩]
    have e2 : splice (cs .u16 f ++ Z) 12 (cs .u16 g) = cs .u16 f ++ cs .u16 g := by
      unfold splice
      rw [l2, List.take_append_of_le_length (by omega), List.take_of_length_le (by omega), List.drop_eq_nil_of_le (by simp [lz, hw.len]), List.append_nil]
    rw [e2]
    simp [fill, bkC, rowsC, frC]
  obtain ⟨G, hG⟩ : ∃ G, G = H ++ [(⟨bkC [f, g], 12, 0, false⟩ : Blk)] := ⟨_, rfl⟩
  have hP : Pre H G := by rw [hG]; exact Pre.one
  have hBW : BkW [f, g] := by
    intro x hx
    rcases List.mem_cons.1 hx with rfl | hx
    · exact hw
    · rcases List.mem_cons.1 hx with rfl | hx
      · exact hwg
      · cases hx
  have hbk : Bk G (slc H.length 0 0 2 2) [f, g] := by
    rw [hG]
    exact (own_new (H := H) (esz := 12) (n := 2) (vs := bkC [f, g]) (by rw [bkC_length hBW]; rfl)).sl
  have hc := call351 (pu := true) hbk hBW (by simp)
  have hok : okFs [f, g] = (okF f && okF g) := by simp [okFs]
  rw [hok] at hc
  simp [c165, k165, hw.len, hwg.len, zs_cs, hfl, ← hG, hc]
  cases k1 : okF f with
  | false =>
    obtain ⟨G', e1, e2⟩ := stZ_fin (c := 1) hP
    simp [stc5, fill, ldc5, e1]
    exact ⟨_, _, ⟨rfl, rfl⟩, .slice none 0 0, G', by simp [betS, betC, k1, stZ, stC], by simp [betS, k1]; exact e2⟩
  | true =>
    cases k2 : okF g with
    | false =>
      obtain ⟨G', e1, e2⟩ := stZ_fin (c := 1) hP
      simp [stc5, fill, ldc5, e1]
      exact ⟨_, _, ⟨rfl, rfl⟩, .slice none 0 0, G', by simp [betS, betC, k1, k2, stZ, stC], by simp [betS, k1, k2]; exact e2⟩
    | true =>
      cases k3 : in1 base 0 39 with
      | false =>
        obtain ⟨G', e1, e2⟩ := stZ_fin (c := 2) hP
        simp [in295, k3, stc5, fill, ldc5, e1]
        exact ⟨_, _, ⟨rfl, rfl⟩, .slice none 0 0, G', by simp [betS, betC, k1, k2, k3, stZ, stC], by simp [betS, k1, k2, k3]; exact e2⟩
      | true =>
        obtain ⟨_, hc2, y, G', rfl, hP', hY⟩ := call389 (pu := true) (H := G) (base := base) hw k1 hwg (by simpa [in1] using k3)
        obtain ⟨G2, e1, e2⟩ := fin_step2 (s := outB f g base 25) (c := 0) (hY.low hP)
        simp only [stC] at hc2 e1
        simp [in295, k3, hw.len, hwg.len, hc2, stc5, ldc5, e1]
        exact ⟨_, _, ⟨rfl, rfl⟩, y, G2, by simp [betS, betC, k1, k2, k3, stC], by simp [betS, k1, k2, k3]; exact e2⟩
theorem call164 {pu : Bool} {H : Heap} {f g : List Int} {base : Int} (hw : FrW f) (hwg : FrW g) : ∃ r, Call tab pu 164 [iv .u16 f, iv .u16 g, .int .i64 base] H = some r ∧ RsB H r (betS f g base) (betC f g base) := by
  refine Call_ex t164 (.inr rfl) rfl ?_
  obtain ⟨G, hG⟩ : ∃ G, G = H ++ [(⟨cs .u16 f, 1, 0, false⟩ : Blk), ⟨cs .u16 g, 1, 0, false⟩] := ⟨_, rfl⟩
  have hGG : G = H ++ [(⟨cs .u16 f, 1, 0, false⟩ : Blk)] ++ [⟨cs .u16 g, 1, 0, false⟩] := by rw [hG]; simp
  have hP : Pre H G := by rw [hGG]; exact Pre.one.app
  have r1 : rd G H.length 0 0 12 = some (cs .u16 f) := by rw [hGG]; exact rd_app (rd_last rfl (by simp [hw.len]))
  have r2 : rd G (H.length + 1) 0 0 12 = some (cs .u16 g) := by
    have := rd_last (H := H ++ [(⟨cs .u16 f, 1, 0, false⟩ : Blk)]) (b := ⟨cs .u16 g, 1, 0, false⟩) (n := 12) rfl (by simp [hwg.len])
    rw [← hGG, List.length_append] at this
    exact this
  have c1 := call359 (pu := true) hw.len r1
  have c2 := call359 (pu := true) hwg.len r2
  simp [c164, k164, hw.len, hwg.len, ← hG, c1, c2]
  cases k1 : okF f with
  | false =>
    obtain ⟨G', e1, e2⟩ := stZ_fin (c := 1) hP
    simp [stc5, fill, ldc5, skip, e1]
    exact ⟨_, _, ⟨rfl, rfl⟩, .slice none 0 0, G', by simp [betS, betC, k1, stZ, stC], by simp [betS, k1]; exact e2⟩
  | true =>
    cases k2 : okF g with
    | false =>
      obtain ⟨G', e1, e2⟩ := stZ_fin (c := 1) hP
      simp [c2, k2, stc5, fill, ldc5, e1]
      exact ⟨_, _, ⟨rfl, rfl⟩, .slice none 0 0, G', by simp [betS, betC, k1, k2, stZ, stC], by simp [betS, k1, k2]; exact e2⟩
    | true =>
      cases k3 : in1 base 0 39 with
      | false =>
        obtain ⟨G', e1, e2⟩ := stZ_fin (c := 2) hP
        simp [c2, k2, in304, k3, stc5, fill, ldc5, e1]
        exact ⟨_, _, ⟨rfl, rfl⟩, .slice none 0 0, G', by simp [betS, betC, k1, k2, k3, stZ, stC], by simp [betS, k1, k2, k3]; exact e2⟩
      | true =>
        obtain ⟨_, hc2, y, G', rfl, hP', hY⟩ := call388 (pu := true) (H := G) (base := base) hw k1 hwg r1 r2 (by simpa [in1] using k3)
        obtain ⟨G2, e1, e2⟩ := fin_step2 (s := outB f g base 25) (c := 0) (hY.low hP)
        simp only [stC] at hc2 e1
        simp [c2, k2, in304, k3, hc2, stc5, ldc5, e1]
        exact ⟨_, _, ⟨rfl, rfl⟩, y, G2, by simp [betS, betC, k1, k2, k3, stC], by simp [betS, k1, k2, k3]; exact e2⟩
/-- The better of a step and the cheapest step from a page. -/
def pickB (b : List (List Int)) (k : Nat) (p : Nat → Bool) (j : Nat) (s : Sted) : Sted :=
  if p j = true then if stCost (outB (fr b j) (fr b k) j 25) < stCost s then outB (fr b j) (fr b k) j 25 else s else s
def bestS (b : List (List Int)) (k : Nat) (p : Nat → Bool) (i : Nat) : Sted := itN (fun j s => pickB b k p j s) ⟨0, 0, 0, 0, chgL (zr 12 0) (fr b k) 12⟩ i
theorem bestS_zero {b : List (List Int)} {k : Nat} {p : Nat → Bool} : bestS b k p 0 = ⟨0, 0, 0, 0, chgL (zr 12 0) (fr b k) 12⟩ := itN_zero
theorem bestS_succ {b : List (List Int)} {k : Nat} {p : Nat → Bool} {i : Nat} : bestS b k p (i + 1) = pickB b k p i (bestS b k p i) := itN_succ
theorem pickB_ok {b : List (List Int)} {k : Nat} {p : Nat → Bool} {j : Nat} {s : Sted} (h : okS s) : okS (pickB b k p j s) := by
  unfold pickB
  split
  · split
    · exact outB_ok
    · exact h
  · exact h
theorem bestS_ok {b : List (List Int)} {k : Nat} {p : Nat → Bool} {i : Nat} : okS (bestS b k p i) := by
  induction i with
  | zero => rw [bestS_zero]; exact ⟨by simp only []; omega, by simp only []; omega, chgL_len⟩
  | succ i ih => rw [bestS_succ]; exact pickB_ok ih
theorem okFs_get {b : List (List Int)} (h : okFs b = true) {i : Nat} (hi : i < b.length) : okF (fr b i) = true := List.all_eq_true.1 (show b.all okF = true from h) _ (at0_mem hi)
/-- The impl's search over the pages, with a function that tells which may be used. -/
theorem call406 {pu : Bool} {H : Heap} {x F : Value} {b : List (List Int)} {k : Nat} {p : Nat → Bool} (h : Bk H x b) (hw : BkW b) (hok : okFs b = true) (hn : b.length ≤ 40) (hk : k < b.length)
    (hF : ∀ (G : Heap) (j : Nat), Pre H G → j < k → callV (Call tab) G F [.int .i64 (j : Int)] = some (.bool (p j), G)) :
    ∃ r, Call tab pu 406 [x, .int .i64 (k : Int), F] H = some r ∧ RsS H r (bestS b k p k) := by
  refine Call_ex t406 (.inr rfl) rfl ?_
  obtain ⟨q, off, ver, ha, hr⟩ := Bk.get h hw hk
  have hgW := hw.fr hk
  have hgl := hgW.len
  obtain ⟨_, h527, y', G', rfl, hY⟩ := call527 (pu := true) (H := H) (a := 0) (b := 0) (c := 0) (d := 0) (y0 := .slice none 0 0) zr_ok.1 hgW
  have hfa : fill [.int .i8 0, .int .i8 0, .int .i8 0, .int .i8 0, .slice none 0 0] [(0, 1, .int .i8 0)] = some [.int .i8 0, .int .i8 0, .int .i8 0, .int .i8 0, .slice none 0 0] := rfl
  simp [c406, k406, zs_cs, agg_cs, fill, ha, hr, h527, stc5, splice]
  refine WP_count 18 k k rfl (fun i e G => e 0 = x ∧ e 1 = .int .i64 k ∧ e 2 = F ∧ e 17 = .int .i64 k ∧ e 6 = agg [.int .i8 0, .int .i8 0, .int .i8 0, .int .i8 0, .slice none 0 0] ∧ ∃ y, e 7 = agg (stC (bestS b k p i) y) ∧ GrN H G y 2 (bestS b k p i).rows.length (chsC (bestS b k p i).rows)) (by omega) ?_ ?_ (by simp) ⟨by simp, by simp, by simp, by simp, by simp, y', by simp [bestS_zero, stC], by rw [bestS_zero]; exact hY⟩
  · rintro i e G _ hi hii e4 h18 ⟨h0, h1, h2, h17, h6, y, h7, hS⟩
    have hFi := hF G i hS.pre hi
    have hsucc := bestS_succ (b := b) (k := k) (p := p) (i := i)
    have hok2 := bestS_ok (b := b) (k := k) (p := p) (i := i)
    generalize bestS b k p i = t at *
    obtain ⟨q2, off2, ver2, ha2, hr2⟩ := Bk.get (SlR.pre hS.pre h) hw (i := i) (by omega)
    obtain ⟨q3, off3, ver3, ha3, hr3⟩ := Bk.get (SlR.pre hS.pre h) hw hk
    have hfW := hw.fr (i := i) (by omega)
    cases hp : p i with
    | false =>
      rw [hp] at hFi
      rw [pickB, hp, if_neg (by decide)] at hsucc
      simp [b406_1, h18, h0, h1, h2, h17, h6, h7, hii, hFi, e4]
      rw [hsucc]
      exact ⟨y, rfl, hS⟩
    | true =>
      rw [hp] at hFi
      rw [pickB, hp, if_pos rfl] at hsucc
      obtain ⟨_, h389, y2, G2, rfl, hP2, hY2⟩ := call389 (pu := true) (H := G) (base := (i : Int)) hfW (okFs_get hok (i := i) (by omega)) hgW ⟨by omega, by omega⟩
      have hY2' := hY2.low hS.pre
      have hS2 := hS.app hP2
      have hoo := outB_ok (f := fr b i) (g := fr b k) (base := (i : Int)) (k := 25)
      generalize outB (fr b i) (fr b k) (i : Int) 25 = u at *
      have c1 := cost312 (pu := true) (H := G2) (s := u) hY2.sl ⟨hoo.1, hoo.2.1⟩ (by have := hoo.2.2; omega)
      have c2 := cost312 (pu := true) (H := G2) (s := t) hS2.sl ⟨hok2.1, hok2.2.1⟩ (by have := hok2.2.2; omega)
      simp only [stC] at h7 h389 c1 c2
      by_cases hc : stCost u < stCost t
      · rw [if_pos hc] at hsucc
        simp [b406_1, h18, h0, h1, h2, h17, h6, h7, hii, hFi, ha2, hr2, ha3, hr3, agg_cs, h389, stc5, ldc5, c1, c2, hc, e4]
        rw [hsucc]
        exact ⟨y2, rfl, hY2'⟩
      · rw [if_neg hc] at hsucc
        simp [b406_1, h18, h0, h1, h2, h17, h6, h7, hii, hFi, ha2, hr2, ha3, hr3, agg_cs, h389, stc5, ldc5, c1, c2, hc, e4]
        rw [hsucc]
        exact ⟨y, rfl, hS2⟩
  · rintro e G _ h18 ⟨h0, h1, h2, h17, h6, y, h7, hS⟩
    obtain ⟨G2, e1, e2⟩ := fin_step (s := bestS b k p k) hS
    simp only [stC] at h7 e1
    simp [b406_1, h18, h17, h7, h6, stc5, ldc5, e1]
    exact ⟨_, _, ⟨rfl, rfl⟩, y, G2, rfl, e2.pre, e2⟩
structure StP (H G : Heap) (P : Nat) (s : Sted) (y : Value) : Prop where
  ge : H.length ≤ P
  blk : G[P]? = some ⟨stC s y, 1, 0, false⟩
  row : GrN H G y 2 s.rows.length (chsC s.rows)
theorem StP.rd {H G : Heap} {P : Nat} {s : Sted} {y : Value} (h : StP H G P s y) : rd G P 0 0 5 = some (stC s y) := by
  rw [rd_at h.blk rfl (by simp [stC])]; rfl
theorem StP.app {H G G' : Heap} {P : Nat} {s : Sted} {y : Value} (p : Pre G G') (h : StP H G P s y) : StP H G' P s y :=
  ⟨h.ge, by rw [p.get (List.getElem?_eq_some_iff.1 h.blk).1]; exact h.blk, h.row.app p⟩
theorem GrN.set {H G : Heap} {y : Value} {n P : Nat} {vs : List Value} {k k' : Blk} (g : GrN H G y 2 n vs) (ge : H.length ≤ P) (hP : G[P]? = some k) (hk : k.esz = 1) : GrN H (G.set P k') y 2 n vs := by
  rcases g with ⟨b, ver, e1, e2, e3, e4, q⟩ | ⟨e1, e2, e3, q⟩
  · have hne : P ≠ b := by
      rintro rfl
      rw [hP] at e2
      cases e2
      cases hk
    exact .inl ⟨b, ver, e1, by rw [List.getElem?_set_ne hne]; exact e2, e3, e4, q.set ge⟩
  · exact .inr ⟨e1, e2, e3, q.set ge⟩
theorem call404 {pu : Bool} {H : Heap} {x z : Value} {b : List (List Int)} {k : Nat} {ds : List Int} {lim : Int} (h : Bk H x b) (hw : BkW b) (hok : okFs b = true) (hn : b.length ≤ 40) (hk : k < b.length) (hz : SlR H z 1 ds.length (cs .i64 ds)) (hd : k ≤ ds.length) :
    ∃ r, Call tab pu 404 [x, .int .i64 (k : Int), z, .int .i64 lim] H = some r ∧ RsS H r (bestS b k (fun j => !decide (lim ≤ nth ds j)) k) := by
  refine Call_ex t404 (.inr rfl) rfl ?_
  obtain ⟨q, off, ver, ha, hr⟩ := Bk.get h hw hk
  have hgW := hw.fr hk
  have hgl := hgW.len
  obtain ⟨L, hL⟩ : ∃ L, L = chgL (zr 12 0) (fr b k) 12 := ⟨_, rfl⟩
  obtain ⟨G1, hG1⟩ : ∃ G1, G1 = H ++ [(⟨cs .u16 (zr 12 0), 1, 0, false⟩ : Blk)] := ⟨_, rfl⟩
  have p1 : Pre H G1 := by rw [hG1]; exact Pre.one
  have hwr1 : wr H.length false (H ++ [⟨cs .u16 (zr 12 0), 1, 0, false⟩]) H.length 0 0 (cs .u16 (zr 12 0)) = some G1 := by
    rw [wr_at get_last rfl rfl (by simp [may]) (by simp), hG1]
    simp [splice]
  have r1 : rd G1 H.length 0 0 12 = some (cs .u16 (zr 12 0)) := by rw [hG1]; exact rd_last rfl (by simp)
  have h525 := call525 (pu := true) zr_ok.1 hgW r1 (p1.rd hr)
  rw [← hL] at h525
  obtain ⟨G2, hG2⟩ : ∃ G2, G2 = G1 ++ [(⟨chsC L, 2, 0, false⟩ : Blk)] := ⟨_, rfl⟩
  obtain ⟨y, hy⟩ : ∃ y, y = slc G1.length 0 0 L.length L.length := ⟨_, rfl⟩
  rw [← hy, ← hG2] at h525
  have p2 : Pre H G2 := p1.trans (by rw [hG2]; exact Pre.one)
  have hfa : fill [.int .i8 0, .int .i8 0, .int .i8 0, .int .i8 0, .slice none 0 0] [(0, 1, .int .i8 0), (4, 1, y)] = some [.int .i8 0, .int .i8 0, .int .i8 0, .int .i8 0, y] := by rw [hy]; rfl
  obtain ⟨G3, hG3⟩ : ∃ G3, G3 = G2 ++ [(⟨stC ⟨0, 0, 0, 0, L⟩ y, 1, 0, false⟩ : Blk)] := ⟨_, rfl⟩
  have hwr2 : wr H.length false (G2 ++ [⟨[.int .i8 0, .int .i8 0, .int .i8 0, .int .i8 0, .slice none 0 0], 1, 0, false⟩]) G2.length 0 0 [.int .i8 0, .int .i8 0, .int .i8 0, .int .i8 0, y] = some G3 := by
    rw [wr_at get_last rfl rfl (by simp [may]; exact p2.len) (by simp), hG3]
    simp [splice, stC]
  have p3 : Pre H G3 := p2.trans (by rw [hG3]; exact Pre.one)
  have S0 : StP H G3 G2.length ⟨0, 0, 0, 0, L⟩ y := by
    refine ⟨p2.len, by rw [hG3]; exact get_last, .inl ⟨G1.length, 0, hy, ?_, p1.len, chsC_length, p3⟩⟩
    rw [hG3, List.getElem?_append_left (by rw [hG2]; simp), hG2]; exact get_last
  rw [hL] at S0
  simp [c404, k404, zs_cs, agg_cs, fill, hwr1, wbOf, ha, h525, hfa, hwr2]
  refine WP_count 11 k k rfl (fun i e G => e 0 = x ∧ e 1 = .int .i64 k ∧ e 2 = z ∧ e 3 = .int .i64 lim ∧ e 8 = agg [.int .i8 0, .int .i8 0, .int .i8 0, .int .i8 0, .slice none 0 0] ∧ e 10 = adr G2.length 0 0 ∧ ∃ y, StP H G G2.length (bestS b k (fun j => !decide (lim ≤ nth ds j)) i) y) (by omega) ?_ ?_ (by simp) ⟨by simp, by simp, by simp, by simp, by simp, by simp, y, by rw [bestS_zero]; exact S0⟩
  · rintro i e G _ hi hii e4 h11 ⟨h0, h1, h2, h3, h8, h10, y, hS⟩
    have hsucc := bestS_succ (b := b) (k := k) (p := fun j => !decide (lim ≤ nth ds j)) (i := i)
    have hok2 := bestS_ok (b := b) (k := k) (p := fun j => !decide (lim ≤ nth ds j)) (i := i)
    generalize bestS b k (fun j => !decide (lim ≤ nth ds j)) i = t at *
    have hPG := hS.row.pre
    obtain ⟨qz, oz, vz, haz, hrz⟩ := (SlR.pre hPG hz).get1 (i := i) (by omega)
    rw [elem_i (by omega)] at hrz
    cases hp : decide (lim ≤ nth ds i) with
    | true =>
      rw [pickB] at hsucc
      simp only [hp, Bool.not_true] at hsucc
      rw [if_neg (by decide)] at hsucc
      have hp' : lim ≤ nth ds i := by simpa using hp
      simp [b404_1, h11, h0, h1, h2, h3, h8, h10, hii, haz, hrz, hp', e4]
      exact ⟨y, by rw [hsucc]; exact hS⟩
    | false =>
      rw [pickB] at hsucc
      simp only [hp, Bool.not_false, if_true] at hsucc
      have hp' : ¬ lim ≤ nth ds i := by simpa using hp
      obtain ⟨Ga, hGa⟩ : ∃ Ga, Ga = G ++ [(⟨[.int .i8 0, .int .i8 0, .int .i8 0, .int .i8 0, .slice none 0 0], 1, 0, false⟩ : Blk)] := ⟨_, rfl⟩
      have pa : Pre G Ga := by rw [hGa]; exact Pre.one
      have pHa := hPG.trans pa
      obtain ⟨q2, off2, ver2, ha2, hr2⟩ := Bk.get h hw (i := i) (by omega)
      have hfW := hw.fr (i := i) (by omega)
      obtain ⟨_, h388, y2, Gb, rfl, hPb, hY2⟩ := call388 (pu := true) (H := Ga) (base := (i : Int)) hfW (okFs_get hok (i := i) (by omega)) hgW (pHa.rd hr2) (pHa.rd hr) ⟨by omega, by omega⟩
      have hoo := outB_ok (f := fr b i) (g := fr b k) (base := (i : Int)) (k := 25)
      generalize outB (fr b i) (fr b k) (i : Int) 25 = u at *
      have hlt : G.length < Ga.length := by rw [hGa]; simp
      have hQb : Gb[G.length]? = some ⟨[.int .i8 0, .int .i8 0, .int .i8 0, .int .i8 0, .slice none 0 0], 1, 0, false⟩ := by
        rw [hPb.get hlt, hGa]; exact get_last
      obtain ⟨Gc, hGc⟩ : ∃ Gc, Gc = Gb.set G.length ⟨stC u y2, 1, 0, false⟩ := ⟨_, rfl⟩
      have hgeQ : H.length ≤ G.length := hPG.len
      have hwr3 : wr H.length false Gb G.length 0 0 [.int .i8 u.a, .int .i8 u.b, .int .i8 u.c, .int .i8 u.d, y2] = some Gc := by
        rw [wr_at hQb rfl rfl (by simp [may]; exact hgeQ) (by simp), hGc]; rfl
      have Su : StP H Gc G.length u y2 := ⟨hgeQ, by rw [hGc]; exact get_set hQb, by rw [hGc]; exact (hY2.low pHa).set hgeQ hQb rfl⟩
      have hPlt : G2.length < G.length := (List.getElem?_eq_some_iff.1 hS.blk).1
      have hSb := hS.app (pa.trans hPb)
      have St : StP H Gc G2.length t y := ⟨hS.ge, by rw [hGc, List.getElem?_set_ne (by omega)]; exact hSb.blk, by rw [hGc]; exact hSb.row.set hgeQ hQb rfl⟩
      have c1 := cost310 (pu := true) Su.rd Su.row.sl ⟨hoo.1, hoo.2.1⟩ (by have := hoo.2.2; omega)
      have c2 := cost310 (pu := true) St.rd St.row.sl ⟨hok2.1, hok2.2.1⟩ (by have := hok2.2.2; omega)
      have rQ := Su.rd
      simp only [stC] at h388 rQ
      have haG : idxAV 12 x (.int .i64 (k : Int)) = some (adr q off ver) := ha
      by_cases hc : stCost u < stCost t
      · rw [if_pos hc] at hsucc
        obtain ⟨Gd, hGd⟩ : ∃ Gd, Gd = Gc.set G2.length ⟨stC u y2, 1, 0, false⟩ := ⟨_, rfl⟩
        have hwr4 : wr H.length false Gc G2.length 0 0 [.int .i8 u.a, .int .i8 u.b, .int .i8 u.c, .int .i8 u.d, y2] = some Gd := by
          rw [wr_at St.blk rfl rfl (by simp [may]; exact hS.ge) (by simp [stC]), hGd]; rfl
        have Sd : StP H Gd G2.length u y2 := ⟨hS.ge, by rw [hGd]; exact get_set St.blk, by rw [hGd]; exact Su.row.set hS.ge St.blk rfl⟩
        simp [b404_1, h11, h0, h1, h2, h3, h8, h10, hii, haz, hrz, hp', ha2, haG, ← hGa, h388, hwr3, wbOf, c1, c2, hc, rQ, hwr4, e4]
        exact ⟨y2, by rw [hsucc]; exact Sd⟩
      · rw [if_neg hc] at hsucc
        simp [b404_1, h11, h0, h1, h2, h3, h8, h10, hii, haz, hrz, hp', ha2, haG, ← hGa, h388, hwr3, wbOf, c1, c2, hc, e4]
        exact ⟨y, by rw [hsucc]; exact St⟩
  · rintro e G _ h11 ⟨h0, h1, h2, h3, h8, h10, y, hS⟩
    obtain ⟨G5, e1, e2⟩ := fin_step (s := bestS b k (fun j => !decide (lim ≤ nth ds j)) k) hS.row
    have hrd := hS.rd
    simp only [stC] at hrd e1
    simp [b404_1, h11, h1, h8, h10, hrd, stc5, ldc5, e1]
    exact ⟨_, _, ⟨rfl, rfl⟩, y, G5, rfl, e2.pre, e2⟩
def bsC (b : List (List Int)) (p : Int) : Int := if okB b = true then if 0 ≤ p ∧ p < b.length then 0 else 2 else 1
def bsS (b : List (List Int)) (p : Int) : Sted := if bsC b p = 0 then bestS b p.toNat (fun _ => true) p.toNat else stZ
theorem bsC_zero {b : List (List Int)} {p : Int} (h : bsC b p = 0) : okB b = true ∧ 0 ≤ p ∧ p < b.length := by
  unfold bsC at h
  split at h
  · rename_i h1
    split at h
    · rename_i h2; exact ⟨h1, h2⟩
    · omega
  · omega
theorem bestS_congr {b : List (List Int)} {k : Nat} {p q : Nat → Bool} {i : Nat} (h : ∀ j, j < i → p j = q j) : bestS b k p i = bestS b k q i := by
  induction i with
  | zero => rw [bestS_zero, bestS_zero]
  | succ i ih => rw [bestS_succ, bestS_succ, ih fun j hj => h j (by omega), pickB, pickB, h i (by omega)]
theorem call405 {pu : Bool} {H : Heap} {x : Value} {b : List (List Int)} {p : Int} (h : Bk H x b) (hw : BkW b) (hn : b.length ≤ 1000000) : Call tab pu 405 [x, .int .i64 p] H = some (.int .i64 (bsC b p), H) := by
  refine Call_wp t405 (.inr rfl) rfl ?_
  have hc := call316 (pu := true) h hw (by omega)
  have h365 := call365 (pu := true) (H := H) (p := p) (SlR.lenV h) hn
  cases hk : okB b with
  | false => simp [c405, k405, hc, hk, bsC]
  | true =>
    by_cases hp : 0 ≤ p ∧ p < b.length
    · rw [decide_eq_true hp] at h365
      simp [c405, k405, hc, hk, h365, bsC, hp]
    · rw [decide_eq_false hp] at h365
      simp [c405, k405, hc, hk, h365, bsC, hp]
theorem call187 {pu : Bool} {H : Heap} {x : Value} {b : List (List Int)} {p : Int} (h : Bk H x b) (hw : BkW b) (hn : b.length ≤ 1000000) : ∃ r, Call tab pu 187 [x, .int .i64 p] H = some r ∧ RsB H r (bsS b p) (bsC b p) := by
  refine Call_ex t187 (.inr rfl) rfl ?_
  have hc := call405 (pu := true) (p := p) h hw hn
  by_cases h0 : bsC b p = 0
  · obtain ⟨hk, hp0, hpl⟩ := bsC_zero h0
    obtain ⟨m, rfl⟩ := Int.eq_ofNat_of_zero_le hp0
    have hb : bsS b m = bestS b m (fun _ => true) m := by rw [bsS, if_pos h0]; rfl
    have hok : okFs b = true := by simp only [okB, Bool.and_eq_true] at hk; exact hk.1
    obtain ⟨_, h406, y, G, rfl, hP, hY⟩ := call406 (pu := true) (H := H) (F := .func (.func 407) #[] #[]) (p := fun _ => true) h hw hok (okB_len hk) (k := m) (by omega) fun G j _ _ => by
      have : Call tab true 407 [.int .i64 (j : Int)] G = some (.bool true, G) := by
        refine Call_wp t407 (.inr rfl) rfl ?_
        simp [c407, k407]
      simp [this]
    obtain ⟨G2, e1, e2⟩ := fin_step2 (s := bestS b m (fun _ => true) m) (c := 0) hY
    simp only [stC] at h406 e1
    simp [c187, k187, hc, h0, h406, stc5, ldc5, e1]
    exact ⟨_, _, ⟨rfl, rfl⟩, y, G2, by simp [hb, stC], by rw [hb]; exact e2⟩
  · have h1 : (bsC b p != 0) = true := by simpa using h0
    have hb : bsS b p = stZ := by rw [bsS, if_neg h0]
    obtain ⟨G2, e1, e2⟩ := stZ_fin (H := H) (c := bsC b p) .refl
    simp [c187, k187, hc, h1, fill, stc5, ldc5, e1]
    exact ⟨_, _, ⟨rfl, rfl⟩, .slice none 0 0, G2, by simp [hb, stZ, stC], by rw [hb]; exact e2⟩
theorem call431 {pu : Bool} {G : Heap} {j P Q o o' v v' : Nat} {g : Value} {ds : List Int} {lim : Int} (hP : rd G P o v 1 = some [g]) (hz : SlR G g 1 ds.length (cs .i64 ds)) (hj : j < ds.length) (hQ : rd G Q o' v' 1 = some [.int .i64 lim]) :
    Call tab pu 431 [.int .i64 (j : Int), adr P o v, adr Q o' v'] G = some (.bool (decide (nth ds j < lim)), G) := by
  refine Call_wp t431 (.inr rfl) rfl ?_
  obtain ⟨q, off, ver, ha, hr⟩ := hz.get1 hj
  rw [elem_i hj] at hr
  simp [c431, k431, hP, ha, hr, hQ]
theorem call400 {pu : Bool} {G : Heap} {s : Sted} {y g : Value} {ds : List Int} (hz : SlR G g 1 ds.length (cs .i64 ds)) (hb : (s.a == 0) = false → ∃ m : Nat, s.b = m ∧ m < ds.length) (hd : ∀ j, j < ds.length → 0 ≤ nth ds j ∧ nth ds j ≤ 1000000) :
    Call tab pu 400 [agg (stC s y), g] G = some (.int .i64 (depV s ds), G) := by
  refine Call_wp t400 (.inr rfl) rfl ?_
  cases hz0 : s.a == 0 with
  | true =>
    have ev : depV s ds = 0 := by rw [depV, if_pos hz0]
    simp [c400, k400, stC, ldc5a, hz0, ev]
  | false =>
    obtain ⟨m, hm, hmi⟩ := hb hz0
    obtain ⟨q2, off2, ver2, ha2, hr2⟩ := hz.get1 hmi
    rw [elem_i hmi] at hr2
    rw [idxAV_k (k' := .i8)] at ha2
    have hb := hd m hmi
    have ev : depV s ds = nth ds m + 1 := by rw [depV, if_neg (by rw [hz0]; decide), hm]; rfl
    have w1 : IntKind.wrap .i64 (nth ds m + 1) = nth ds m + 1 := wrap64 (by omega)
    simp [c400, k400, stC, ldc5a, ldc5b, hz0, hm, ha2, hr2, w1, ev]
/-- A list of steps that grows: the rows stand in blocks of their own. -/
def GrS (H G : Heap) (x : Value) (l : List Sted) : Prop := ∃ b ver vs, x = slc b 0 ver l.length l.length ∧ G[b]? = some ⟨vs, 5, ver, false⟩ ∧ H.length ≤ b ∧ vs.length = l.length * 5 ∧ Pre H G ∧
  ∀ i, i < l.length → ∃ y, elem vs 5 i = stC (at0 l i) y ∧ GrN H G y 2 (at0 l i).rows.length (chsC (at0 l i).rows)
theorem GrN.put {H G : Heap} {y : Value} {n P : Nat} {vs : List Value} {k k' : Blk} (g : GrN H G y 2 n vs) (ge : H.length ≤ P) (hP : G[P]? = some k) (hk : k.esz ≠ 2) : GrN H (G.set P k') y 2 n vs := by
  rcases g with ⟨b, ver, e1, e2, e3, e4, q⟩ | ⟨e1, e2, e3, q⟩
  · have hne : P ≠ b := by
      rintro rfl
      rw [hP] at e2
      cases e2
      exact hk rfl
    exact .inl ⟨b, ver, e1, by rw [List.getElem?_set_ne hne]; exact e2, e3, e4, q.set ge⟩
  · exact .inr ⟨e1, e2, e3, q.set ge⟩
theorem GrS.new {H G : Heap} (p : Pre H G) : GrS H (G ++ [⟨[], 5, 0, false⟩]) (slc G.length 0 0 0 0) [] := ⟨_, _, _, rfl, get_last, p.len, by simp, p.app, fun i hi => by simp at hi⟩
theorem GrS.pre {H G : Heap} {x : Value} {l : List Sted} (g : GrS H G x l) : Pre H G := by obtain ⟨_, _, _, _, _, _, _, p, _⟩ := g; exact p
theorem at0_app {α : Type} [Inhabited α] {l : List α} {a : α} {i : Nat} : at0 (l ++ [a]) i = if i < l.length then at0 l i else if i = l.length then a else default := by
  unfold at0
  by_cases h : i < l.length
  · rw [if_pos h]; simp [List.getD_eq_getElem?_getD, List.getElem?_append_left h]
  · rw [if_neg h]
    by_cases h2 : i = l.length
    · rw [if_pos h2]; subst h2; simp [List.getD_eq_getElem?_getD]
    · rw [if_neg h2, List.getD_eq_getElem?_getD, List.getElem?_eq_none (by simp; omega)]; rfl
theorem GrS.push {H G : Heap} {x : Value} {l : List Sted} {s : Sted} {y : Value} (g : GrS H G x l) (hy : GrN H G y 2 s.rows.length (chsC s.rows)) (hb : (l.length + 1) * 32 ≤ roomMax) {wb : Bool} :
    ∃ x' G', ((srcOf 5 (G ++ [⟨stC s y, 5, 0, false⟩]) (slc G.length 0 0 1 1)).bind fun q => appendTo H.length wb 5 32 (G ++ [⟨stC s y, 5, 0, false⟩]) x q.1 q.2) = some (x', G') ∧ GrS H G' x' (l ++ [s]) ∧ ∀ (b' : Nat) (k : Blk), G[b']? = some k → k.esz ≠ 5 → G'[b']? = some k := by
  obtain ⟨b, ver, vs, rfl, h1, h2, h3, h4, h5⟩ := g
  obtain ⟨G1, hG1⟩ : ∃ G1, G1 = G ++ [(⟨stC s y, 5, 0, false⟩ : Blk)] := ⟨_, rfl⟩
  have p1 : Pre G G1 := by rw [hG1]; exact Pre.one
  have h1' : G1[b]? = some ⟨vs, 5, ver, false⟩ := by rw [p1.get (List.getElem?_eq_some_iff.1 h1).1]; exact h1
  have e1 : srcOf 5 G1 (slc G.length 0 0 1 1) = some (1, stC s y) := by
    show (rd G1 G.length 0 0 (1 * 5)).map (fun cs => (1, cs)) = _
    rw [Nat.one_mul, hG1, rd_last rfl (by simp [stC])]; rfl
  rw [← hG1]
  have hl : (stC s y).length = 5 := rfl
  refine ⟨slc b 0 (ver + 1) (l.length + 1) (l.length + 1), G1.set b ⟨vs ++ stC s y, 5, ver + 1, false⟩, ?_, ⟨b, ver + 1, vs ++ stC s y, by simp, get_set h1', h2, by simp [h3, hl]; omega, (h4.trans p1).set h2, fun i hi => ?_⟩, fun b' k hk he => ?_⟩
  · rw [e1, Option.bind_some]
    exact appendTo_grow h1' rfl rfl (by simp [may, h2]) rfl h3.symm (by omega) hb
  · rw [at0_app]
    by_cases hil : i < l.length
    · rw [if_pos hil]
      obtain ⟨y', e2, e3⟩ := h5 i hil
      have hm := mul_next (esz := 5) hil
      refine ⟨y', ?_, (e3.app p1).put h2 h1' (by simp)⟩
      rw [← e2]
      unfold elem
      rw [List.drop_append_of_le_length (by omega), List.take_append_of_le_length (by simp; omega)]
    · have hie : i = l.length := by simp at hi; omega
      rw [if_neg hil, if_pos hie]
      subst hie
      refine ⟨y, ?_, (hy.app p1).put h2 h1' (by simp)⟩
      unfold elem
      rw [← h3, List.drop_left, List.take_of_length_le (by rw [hl]; omega)]
  · have hne : b ≠ b' := by
      rintro rfl
      rw [h1] at hk
      cases hk
      exact he rfl
    rw [List.getElem?_set_ne hne, p1.get (List.getElem?_eq_some_iff.1 hk).1]
    exact hk
theorem stepB_b {f g : List Int} {base dx dy : Int} {s : Sted} (h : s.b = base) : (stepB f g base s dx dy).b = base := by
  unfold stepB
  split
  · exact h
  · split
    · rfl
    · exact h
theorem inB_b {f g : List Int} {base dx : Int} {s : Sted} (h : s.b = base) {k : Nat} : (inB f g base dx s k).b = base := by
  induction k with
  | zero => rw [inB_zero]; exact h
  | succ k ih => rw [inB_succ]; exact stepB_b ih
theorem outB_b {f g : List Int} {base : Int} {k : Nat} : (outB f g base k).b = base := by
  induction k with
  | zero => rw [outB_zero]
  | succ k ih => rw [outB_succ]; exact inB_b ih
theorem bestS_b {b : List (List Int)} {k : Nat} {p : Nat → Bool} {i : Nat} : (bestS b k p i).a = 0 ∨ ∃ m : Nat, (bestS b k p i).b = m ∧ m < i := by
  induction i with
  | zero => left; rw [bestS_zero]
  | succ i ih =>
    have keep : (bestS b k p i).a = 0 ∨ ∃ m : Nat, (bestS b k p i).b = m ∧ m < i + 1 := by
      rcases ih with h | ⟨m, h1, h2⟩
      · exact .inl h
      · exact .inr ⟨m, h1, by omega⟩
    rw [bestS_succ, pickB]
    split
    · split
      · exact .inr ⟨i, outB_b, by omega⟩
      · exact keep
    · exact keep
/-- The steps and the depths, page by page. -/
def encP (b : List (List Int)) (lim : Int) (i : Nat) : List Sted × List Int :=
  itN (fun i q => let s := bestS b i (fun j => !decide (lim ≤ nth q.2 j)) i; (q.1 ++ [s], q.2 ++ [depV s q.2])) ([], []) i
theorem encP_zero {b : List (List Int)} {lim : Int} : encP b lim 0 = ([], []) := itN_zero
def encS (b : List (List Int)) (lim : Int) (i : Nat) : Sted := bestS b i (fun j => !decide (lim ≤ nth (encP b lim i).2 j)) i
theorem encP_succ {b : List (List Int)} {lim : Int} {i : Nat} : encP b lim (i + 1) = ((encP b lim i).1 ++ [encS b lim i], (encP b lim i).2 ++ [depV (encS b lim i) (encP b lim i).2]) := itN_succ
theorem encP_len {b : List (List Int)} {lim : Int} {i : Nat} : (encP b lim i).1.length = i ∧ (encP b lim i).2.length = i := by
  induction i with
  | zero => simp [encP_zero]
  | succ i ih => rw [encP_succ]; simp [ih.1, ih.2]
theorem encP_ok {b : List (List Int)} {lim : Int} {i : Nat} : ∀ j, j < i → 0 ≤ nth (encP b lim i).2 j ∧ nth (encP b lim i).2 j ≤ j := by
  induction i with
  | zero => intro j hj; omega
  | succ i ih =>
    intro j hj
    rw [encP_succ]
    simp only []
    rw [nth_app, encP_len.2]
    by_cases h1 : j < i
    · rw [if_pos h1]; exact ih j h1
    · obtain rfl : j = i := by omega
      rw [if_neg h1, if_pos rfl]
      unfold depV
      split
      · omega
      · rename_i ha
        rcases bestS_b (b := b) (k := j) (p := fun q => !decide (lim ≤ nth (encP b lim j).2 q)) (i := j) with h | ⟨m, h2, h3⟩
        · exfalso; apply ha; simp [encS, h]
        · have : (encS b lim j).b.toNat = m := by simp only [encS, h2]; omega
          rw [this]
          have := ih m h3
          omega
/-- Only blocks of one kind have changed. -/
def KeepE (e : Nat) (G G' : Heap) : Prop := ∀ (b : Nat) (k : Blk), G[b]? = some k → k.esz ≠ e → G'[b]? = some k
theorem KeepE.pre {e : Nat} {G G' : Heap} (p : Pre G G') : KeepE e G G' := fun b k h _ => by rw [p.get (List.getElem?_eq_some_iff.1 h).1]; exact h
theorem KeepE.trans {e : Nat} {A B C : Heap} (h : KeepE e A B) (h' : KeepE e B C) : KeepE e A C := fun b k q n => h' b k (h b k q n) n
theorem GrN.keep {e : Nat} {H G G' : Heap} {y : Value} {n : Nat} {vs : List Value} (g : GrN H G y 2 n vs) (k : KeepE e G G') (he : e ≠ 2) (p : Pre H G') : GrN H G' y 2 n vs := by
  rcases g with ⟨b, ver, e1, e2, e3, e4, _⟩ | ⟨e1, e2, e3, _⟩
  · exact .inl ⟨b, ver, e1, k _ _ e2 (by simp only []; omega), e3, e4, p⟩
  · exact .inr ⟨e1, e2, e3, p⟩
theorem GrS.keep {e : Nat} {H G G' : Heap} {x : Value} {l : List Sted} (g : GrS H G x l) (k : KeepE e G G') (he : e ≠ 2) (he5 : e ≠ 5) (p : Pre H G') : GrS H G' x l := by
  obtain ⟨b, ver, vs, e1, h1, h2, h3, _, h5⟩ := g
  refine ⟨b, ver, vs, e1, k _ _ h1 (by simp only []; omega), h2, h3, p, fun i hi => ?_⟩
  obtain ⟨y, e2, e3⟩ := h5 i hi
  exact ⟨y, e2, e3.keep k he p⟩
theorem Gr.keep {e esz : Nat} {H G G' : Heap} {x : Value} {n : Nat} {vs : List Value} (g : Gr H G x esz n vs) (k : KeepE e G G') (he : e ≠ esz) (p : Pre H G') : Gr H G' x esz n vs := by
  obtain ⟨b, ver, e1, h1, h2, h3, _⟩ := g
  exact ⟨b, ver, e1, k _ _ h1 (by simp only []; omega), h2, h3, p⟩
theorem GrS.sts {H G : Heap} {x : Value} {l : List Sted} (g : GrS H G x l) : StS G x l := by
  obtain ⟨b, ver, vs, rfl, h1, h2, h3, h4, h5⟩ := g
  refine ⟨vs, ⟨h3, .inr ⟨b, 0, ver, _, rfl, Nat.le_refl _, by rw [rd_at h1 rfl (by simp only []; omega)]; simp only [List.drop_zero]; rw [List.take_of_length_le (by omega)], _, h1, rfl, rfl⟩⟩, fun i hi => ?_⟩
  obtain ⟨y, e2, e3⟩ := h5 i hi
  exact ⟨y, e2, e3.sl⟩
@[simp] theorem blkOf_adr {b o v : Nat} : blkOf (adr b o v) = some b := rfl
@[simp] theorem blkOf_slc {b o v n c : Nat} : blkOf (slc b o v n c) = some b := rfl
@[simp] theorem blkOf_nil {n c : Nat} : blkOf (.slice none n c) = none := rfl
/-- A piece appended to a list of a call's own. -/
theorem push_at {n0 b ver n esz bytes : Nat} {G : Heap} {vs c : List Value} {wb : Bool} (hg : G[b]? = some ⟨vs, esz, ver, false⟩) (hb : n0 ≤ b) (hl : vs.length = n * esz) (hc : c.length = esz) (hr : (n + 1) * bytes ≤ roomMax) :
    ((srcOf esz (G ++ [⟨c, esz, 0, false⟩]) (slc G.length 0 0 1 1)).bind fun q => appendTo n0 wb esz bytes (G ++ [⟨c, esz, 0, false⟩]) (slc b 0 ver n n) q.1 q.2) =
      some (slc b 0 (ver + 1) (n + 1) (n + 1), (G ++ [(⟨c, esz, 0, false⟩ : Blk)]).set b ⟨vs ++ c, esz, ver + 1, false⟩) := by
  have h1' : (G ++ [(⟨c, esz, 0, false⟩ : Blk)])[b]? = some ⟨vs, esz, ver, false⟩ := by rw [List.getElem?_append_left (List.getElem?_eq_some_iff.1 hg).1]; exact hg
  have e1 : srcOf esz (G ++ [⟨c, esz, 0, false⟩]) (slc G.length 0 0 1 1) = some (1, c) := by
    show (rd (G ++ [⟨c, esz, 0, false⟩]) G.length 0 0 (1 * esz)).map (fun cs => (1, cs)) = _
    rw [Nat.one_mul, rd_last rfl (by simpa using hc)]; rfl
  rw [e1, Option.bind_some]
  exact appendTo_grow h1' rfl rfl (by simp [may, hb]) rfl hl.symm (by omega) hr
theorem push_get {b b' : Nat} {G : Heap} {k k' : Blk} (hb : b' ≠ b) (hl : b' < G.length) : ((G ++ [k']).set b k)[b']? = G[b']? := by
  rw [List.getElem?_set_ne (Ne.symm hb), List.getElem?_append_left hl]
theorem push_self {b : Nat} {G : Heap} {k k' : Blk} (hl : b < G.length) : ((G ++ [k']).set b k)[b]? = some k := by
  rw [List.getElem?_set_self (by simp; omega)]
theorem push_pre {H G : Heap} {b : Nat} {k k' : Blk} (p : Pre H G) (hb : H.length ≤ b) : Pre H ((G ++ [k']).set b k) := (p.app).set hb
theorem GrN.ownC {H G : Heap} {x : Value} {esz n : Nat} {vs : List Value} (g : GrN H G x esz n vs) : Own G x (blkOf x) H.length esz n vs := by
  rcases g with ⟨b, ver, rfl, h1, h2, h3, _⟩ | ⟨rfl, rfl, rfl, _⟩
  · exact ⟨h3, h2, ver, n, [], rfl, Nat.le_refl _, by rw [List.append_nil]; exact h1⟩
  · exact ⟨by simp, rfl, rfl⟩
/-- Cells of records of five, the last of which leads to rows of its own. -/
structure RawD (n0 : Nat) (G : Heap) (b ver n : Nat) (ys : Nat → Value) (β : Nat → Option Nat) (hd : Nat → List Value) (m : Nat → Nat) (rc : Nat → List Value) : Prop where
  lo : n0 ≤ b
  out : ∃ vs, G[b]? = some ⟨vs, 5, ver, false⟩ ∧ vs.length = n * 5 ∧ ∀ i, i < n → elem vs 5 i = hd i ++ [ys i]
  hl : ∀ i, i < n → (hd i).length = 4
  row : ∀ i, i < n → Own G (ys i) (β i) n0 2 (m i) (rc i)
  dis : ∀ i j q, i < n → j < n → β i = some q → β j = some q → i = j
theorem RawD.lt {n0 b ver n : Nat} {G : Heap} {ys : Nat → Value} {β : Nat → Option Nat} {hd rc : Nat → List Value} {m : Nat → Nat} (h : RawD n0 G b ver n ys β hd m rc) : b < G.length := by
  obtain ⟨vs, hg, _⟩ := h.out
  exact (List.getElem?_eq_some_iff.1 hg).1
theorem RawD.ne {n0 b ver n : Nat} {G : Heap} {ys : Nat → Value} {β : Nat → Option Nat} {hd rc : Nat → List Value} {m : Nat → Nat} (h : RawD n0 G b ver n ys β hd m rc) {i q : Nat} (hi : i < n) (hq : β i = some q) : q ≠ b := by
  rintro rfl
  obtain ⟨vs, hg, _⟩ := h.out
  obtain ⟨_, h2⟩ := h.row i hi
  rw [hq] at h2
  obtain ⟨_, ver', cap, rest, _, _, hg'⟩ := h2
  rw [hg] at hg'
  cases hg'
/-- What keeps the blocks keeps the list. -/
theorem RawD.keep {n0 b ver n : Nat} {G G' : Heap} {ys : Nat → Value} {β : Nat → Option Nat} {hd rc : Nat → List Value} {m : Nat → Nat} (h : RawD n0 G b ver n ys β hd m rc)
    (k : ∀ (b' : Nat) (k : Blk), G[b']? = some k → k.esz ≠ 1 → G'[b']? = some k) : RawD n0 G' b ver n ys β hd m rc := by
  refine ⟨h.lo, ?_, h.hl, fun i hi => ?_, h.dis⟩
  · obtain ⟨vs, hg, h2⟩ := h.out
    exact ⟨vs, k _ _ hg (by simp), h2⟩
  · obtain ⟨h1, h2⟩ := h.row i hi
    refine ⟨h1, ?_⟩
    cases hb : β i with
    | none => rw [hb] at h2; exact h2
    | some q =>
      rw [hb] at h2
      obtain ⟨hb, ver', cap, rest, e1, hc, hg⟩ := h2
      exact ⟨hb, ver', cap, rest, e1, hc, k _ _ hg (by simp)⟩
theorem RawD.pre {n0 b ver n : Nat} {G G' : Heap} {ys : Nat → Value} {β : Nat → Option Nat} {hd rc : Nat → List Value} {m : Nat → Nat} (p : Pre G G') (h : RawD n0 G b ver n ys β hd m rc) : RawD n0 G' b ver n ys β hd m rc :=
  h.keep fun b' k hk _ => by rw [p.get (List.getElem?_eq_some_iff.1 hk).1]; exact hk
theorem RawD.low {n0 n1 b ver n : Nat} {G : Heap} {ys : Nat → Value} {β : Nat → Option Nat} {hd rc : Nat → List Value} {m : Nat → Nat} (h : RawD n0 G b ver n ys β hd m rc) (hn : n1 ≤ n0) : RawD n1 G b ver n ys β hd m rc :=
  ⟨Nat.le_trans hn h.lo, h.out, h.hl, fun i hi => (h.row i hi).low hn, h.dis⟩
theorem RawD.rows {n0 b ver n : Nat} {G G' : Heap} {ys : Nat → Value} {β : Nat → Option Nat} {hd rc : Nat → List Value} {m : Nat → Nat} (h : RawD n0 G b ver n ys β hd m rc) {i : Nat} {c : List Value} (hi : i < n) (s : SameB G G' (β i)) (ho : Own G' (ys i) (β i) n0 2 (m i) c) :
    RawD n0 G' b ver n ys β hd m (fun j => if j = i then c else rc j) := by
  refine ⟨h.lo, ?_, h.hl, fun j hj => ?_, h.dis⟩
  · obtain ⟨vs, hg, h2⟩ := h.out
    refine ⟨vs, ?_, h2⟩
    rw [s.get]
    · exact hg
    · intro hq; exact h.ne hi hq rfl
  · by_cases hji : j = i
    · subst hji; simp only [if_pos rfl]; exact ho
    · simp only [if_neg hji]
      exact (h.row j hj).agree fun q hq => s.get q fun he => hji (h.dis j i q hj hi hq he)
/- Marks. -/
def msH (c : Int) : List Value := [.int .i8 (IntKind.wrap .i8 c), .int .i8 (IntKind.wrap .i8 (c + 1)), .int .i8 (IntKind.wrap .i8 (c + 2)), .int .i8 (IntKind.wrap .i8 (c + 3))]
def mkP (m : Nat → Nat) (i : Nat) : Int := 101 + (mkS m i : Nat)
/-- A list of steps, with rows of its own. -/
def StD (n0 : Nat) (G : Heap) (b ver : Nat) (l : List Sted) : Prop := ∃ ys β, RawD n0 G b ver l.length ys β (fun i => [.int .i8 (at0 l i).a, .int .i8 (at0 l i).b, .int .i8 (at0 l i).c, .int .i8 (at0 l i).d]) (fun i => (at0 l i).rows.length) (fun i => chsC (at0 l i).rows)
theorem StD.new {n0 : Nat} {G : Heap} (h : n0 ≤ G.length) : StD n0 (G ++ [⟨[], 5, 0, false⟩]) G.length 0 [] :=
  ⟨fun _ => U, fun _ => none, h, ⟨_, get_last, rfl, fun i hi => by simp at hi⟩, fun i hi => by simp at hi, fun i hi => by simp at hi, fun i j q hi => by simp at hi⟩
theorem StD.keep {n0 b ver : Nat} {G G' : Heap} {l : List Sted} (h : StD n0 G b ver l) (k : ∀ (b' : Nat) (k : Blk), G[b']? = some k → k.esz ≠ 1 → G'[b']? = some k) : StD n0 G' b ver l := by
  obtain ⟨ys, β, h⟩ := h; exact ⟨ys, β, h.keep k⟩
theorem StD.pre {n0 b ver : Nat} {G G' : Heap} {l : List Sted} (p : Pre G G') (h : StD n0 G b ver l) : StD n0 G' b ver l := by
  obtain ⟨ys, β, h⟩ := h; exact ⟨ys, β, h.pre p⟩
theorem StD.lt {n0 b ver : Nat} {G : Heap} {l : List Sted} (h : StD n0 G b ver l) : b < G.length := by
  obtain ⟨ys, β, h⟩ := h; exact h.lt
theorem StD.lo {n0 b ver : Nat} {G : Heap} {l : List Sted} (h : StD n0 G b ver l) : n0 ≤ b := by
  obtain ⟨ys, β, h⟩ := h; exact h.lo
theorem StD.sts {n0 b ver : Nat} {G : Heap} {l : List Sted} (h : StD n0 G b ver l) : StS G (slc b 0 ver l.length l.length) l := by
  obtain ⟨ys, β, h⟩ := h
  obtain ⟨vs, h1, h3, h5⟩ := h.out
  exact ⟨vs, ⟨h3, .inr ⟨b, 0, ver, _, rfl, Nat.le_refl _, by rw [rd_at h1 rfl (by simp only []; omega)]; simp only [List.drop_zero]; rw [List.take_of_length_le (by omega)], _, h1, rfl, rfl⟩⟩, fun i hi => ⟨ys i, h5 i hi, (h.row i hi).sl⟩⟩
/-- Another step. -/
theorem StD.push {n0 b ver : Nat} {K G : Heap} {l : List Sted} {s : Sted} {y : Value} (g : StD n0 K b ver l) (p : Pre K G) (hy : GrN K G y 2 s.rows.length (chsC s.rows)) (hn : n0 ≤ K.length) (hb : (l.length + 1) * 32 ≤ roomMax) {wb : Bool} :
    ∃ G', ((srcOf 5 (G ++ [⟨stC s y, 5, 0, false⟩]) (slc G.length 0 0 1 1)).bind fun q => appendTo n0 wb 5 32 (G ++ [⟨stC s y, 5, 0, false⟩]) (slc b 0 ver l.length l.length) q.1 q.2) = some (slc b 0 (ver + 1) (l.length + 1) (l.length + 1), G') ∧
      StD n0 G' b (ver + 1) (l ++ [s]) ∧ (∀ (b' : Nat) (k : Blk), b' ≠ b → G[b']? = some k → G'[b']? = some k) ∧ ∀ H : Heap, Pre H G → H.length ≤ b → Pre H G' := by
  obtain ⟨ys, β, g⟩ := g
  have hβK : ∀ i q, i < l.length → β i = some q → q < K.length := fun i q hi hq => by
    obtain ⟨_, h2⟩ := g.row i hi
    rw [hq] at h2
    obtain ⟨_, _, _, _, _, _, h3⟩ := h2
    exact (List.getElem?_eq_some_iff.1 h3).1
  have hbK := g.lt
  have g' := g.pre p
  obtain ⟨vs, h1, h3, h5⟩ := g'.out
  have hbG := g'.lt
  have hlen : (stC s y).length = 5 := rfl
  have oy := hy.ownC
  have hne : ∀ q, blkOf y = some q → q ≠ b := fun q hq => by have := oy.below q hq; omega
  have hkeep : ∀ (b' : Nat) (k : Blk), b' ≠ b → G[b']? = some k → ((G ++ [(⟨stC s y, 5, 0, false⟩ : Blk)]).set b ⟨vs ++ stC s y, 5, ver + 1, false⟩)[b']? = some k := fun b' k hb' hk => by
    rw [push_get hb' (List.getElem?_eq_some_iff.1 hk).1]; exact hk
  refine ⟨_, push_at h1 g.lo h3 rfl hb, ⟨fun i => if i < l.length then ys i else y, fun i => if i < l.length then β i else blkOf y, g.lo, ⟨_, push_self hbG, by simp [h3, hlen]; omega, fun i hi => ?_⟩, fun i hi => rfl, fun i hi => ?_, fun i j q hi hj => ?_⟩, hkeep, fun H pH hH => push_pre pH hH⟩
  · rw [at0_app]
    by_cases hil : i < l.length
    · have hm := mul_next (esz := 5) hil
      simp only [if_pos hil]
      rw [← h5 i hil]
      unfold elem
      rw [List.drop_append_of_le_length (by omega), List.take_append_of_le_length (by simp; omega)]
    · have hie : i = l.length := by simp at hi; omega
      simp only [if_neg hil, if_pos hie]
      subst hie
      unfold elem
      rw [← h3, List.drop_left, List.take_of_length_le (by rw [hlen]; omega)]; rfl
  · by_cases hil : i < l.length
    · simp only [at0_app, if_pos hil]
      exact (g'.row i hil).agree fun q hq => by
        have := hβK i q hil hq
        have := p.len
        exact push_get (g'.ne hil hq) (by omega)
    · have hie : i = l.length := by simp at hi; omega
      simp only [at0_app, if_neg hil, if_pos hie]
      exact (oy.low hn).agree fun q hq => by
        obtain ⟨_, h2⟩ := oy
        rw [hq] at h2
        obtain ⟨_, _, _, _, _, _, h3⟩ := h2
        exact push_get (hne q hq) (List.getElem?_eq_some_iff.1 h3).1
  · simp at hi hj
    by_cases hil : i < l.length
    · by_cases hjl : j < l.length
      · simp only [if_pos hil, if_pos hjl]
        exact g.dis i j q hil hjl
      · simp only [if_pos hil, if_neg hjl]
        intro e1 e2
        have := hβK i q hil e1
        have := oy.below q e2
        omega
    · by_cases hjl : j < l.length
      · simp only [if_neg hil, if_pos hjl]
        intro e1 e2
        have := hβK j q hjl e2
        have := oy.below q e1
        omega
      · intro _ _; omega
/-- What a function hands back: steps, and numbers. -/
theorem StD.fin {H G : Heap} {b ver : Nat} {l : List Sted} {rest : List Value} (g : StD H.length G b ver l) (p : Pre H G) (hr : rest.all (old1 H.length) = true) :
    ∃ b' ver' G', finish H.length G (slc b 0 ver l.length l.length :: rest) = (one (slc b' 0 ver' l.length l.length :: rest), G') ∧ StD H.length G' b' ver' l ∧ Pre H G' := by
  obtain ⟨ys, β, g⟩ := g
  obtain ⟨vs, hg, h3, h5⟩ := g.out
  have hlo := g.lo
  have hne : old1 H.length (slc b 0 ver l.length l.length) = false := by
    show (true && decide (b < H.length)) = false
    simp; omega
  cases ho : vs.all (old0 H.length) with
  | false =>
    refine ⟨b, ver, G, ?_, ⟨ys, β, g⟩, p⟩
    have : pack H.length G (slc b 0 ver l.length l.length :: rest) [] [] = none := by
      rw [pack, if_neg (by rw [hne]; decide)]
      show (match G[b]? with
        | some k => if ([] : List Nat).contains b = false ∧ ver = k.ver ∧ k.ro = false ∧ k.cells.all (old0 H.length) = true then _ else none
        | none => none) = _
      rw [hg]
      simp only []
      rw [if_neg (by rw [ho]; simp)]
    unfold finish; rw [this]
  | true =>
    have hall := List.all_eq_true.1 ho
    have hnil : ∀ i, i < l.length → β i = none := fun i hi => by
      obtain ⟨_, h2⟩ := g.row i hi
      cases hb : β i with
      | none => rfl
      | some q =>
        exfalso
        rw [hb] at h2
        obtain ⟨hq, ver', cap, rest, e1, _, _⟩ := h2
        have hm : ys i ∈ vs := mem_elem (esz := 5) (i := i) (by rw [h5 i hi]; simp)
        have := hall _ hm
        rw [e1, old0_slc] at this
        simp at this; omega
    refine ⟨H.length, 0, H ++ [⟨vs, 5, 0, false⟩], ?_, ⟨ys, β, Nat.le_refl _, ⟨vs, get_last, h3, h5⟩, g.hl, fun i hi => ?_, g.dis⟩, Pre.one⟩
    · have : pack H.length G (slc b 0 ver l.length l.length :: rest) [] [] = some (slc H.length 0 0 l.length l.length :: rest, [⟨vs, 5, 0, false⟩]) := by
        rw [pack, if_neg (by rw [hne]; decide)]
        show (match G[b]? with
          | some k => if ([] : List Nat).contains b = false ∧ ver = k.ver ∧ k.ro = false ∧ k.cells.all (old0 H.length) = true then (pack H.length G rest (b :: []) ([] ++ [{ k with ver := 0 }])).map fun (q : List Value × List Blk) => (slc (H.length + ([] : List Blk).length) 0 0 l.length l.length :: q.1, q.2) else none
          | none => none) = _
        rw [hg]
        simp only []
        rw [if_pos ⟨by simp, by simp, by simp, ho⟩, pack_all hr]; rfl
      rw [finish_some this, p.take]
    · obtain ⟨h1, h2⟩ := g.row i hi
      rw [hnil i hi] at h2 ⊢
      exact ⟨h1, h2⟩
/-- Steps with rows of their own, or nothing. -/
def StX (n0 : Nat) (G : Heap) (x : Value) (l : List Sted) : Prop := (x = .slice none 0 0 ∧ l = []) ∨ ∃ b ver, x = slc b 0 ver l.length l.length ∧ StD n0 G b ver l
theorem StX.sts {n0 : Nat} {G : Heap} {x : Value} {l : List Sted} (h : StX n0 G x l) : StS G x l := by
  rcases h with ⟨rfl, rfl⟩ | ⟨b, ver, rfl, h⟩
  · exact ⟨[], ⟨rfl, .inl ⟨rfl, rfl⟩⟩, fun i hi => by simp at hi⟩
  · exact h.sts
theorem StX.pre {n0 : Nat} {G G' : Heap} {x : Value} {l : List Sted} (p : Pre G G') (h : StX n0 G x l) : StX n0 G' x l := by
  rcases h with h | ⟨b, ver, rfl, h⟩
  · exact .inl h
  · exact .inr ⟨b, ver, rfl, h.pre p⟩
/-- Marks over steps. -/
def MkX (n0 : Nat) (G : Heap) (x : Value) (l : List Sted) : Prop := (x = .slice none 0 0 ∧ l = []) ∨ ∃ b ver ys β, x = slc b 0 ver l.length l.length ∧
  RawD n0 G b ver l.length ys β (fun i => msH (mkP (fun i => (at0 l i).rows.length) i)) (fun i => (at0 l i).rows.length) (fun i => mkL (ms2 (mkP (fun i => (at0 l i).rows.length) i + 4)) ((at0 l i).rows.length * 2))
theorem MkX.pre {n0 : Nat} {G G' : Heap} {x : Value} {l : List Sted} (p : Pre G G') (h : MkX n0 G x l) : MkX n0 G' x l := by
  rcases h with h | ⟨b, ver, ys, β, rfl, h⟩
  · exact .inl h
  · exact .inr ⟨b, ver, ys, β, rfl, h.pre p⟩
theorem calls_app {a b : Nat} {x y : Opd} : Op1.calls (.app a b x y) = false := Eq.trans rfl rfl
theorem app_nochk {T : Tab} {n0 : Nat} {wb : Bool} {e : Env} {H : Heap} {Q : Ex → Env → Heap → Prop} {fs : List Fr} {d : Option Nat} {o : Op1} {r : List Stm} {e0 : Env} {outs : List Nat} {fl : List Opd} (h : apart e ⟨none, d, o, fl⟩ = true) (hc : o.calls = false) :
    OK' T n0 wb (⟨none, d, o, fl⟩ :: r) e H e0 outs fs Q ↔ SK T n0 wb (ev1 (Call T) n0 wb e H o) d r e e0 outs fs Q := by
  unfold OK' SK OPS thn
  simp only [ops, wanted, h, stays, hc, Bool.not_false, Bool.true_or, if_true]
  cases ev1 (Call T) n0 wb e H o with
  | none => simp
  | some v => exact Iff.rfl
theorem encS_ok {b : List (List Int)} {lim : Int} {i : Nat} : okS (encS b lim i) := bestS_ok
theorem encP_get {b : List (List Int)} {lim : Int} {n : Nat} : ∀ i, i < n → at0 (encP b lim n).1 i = encS b lim i := by
  induction n with
  | zero => intro i hi; omega
  | succ n ih =>
    intro i hi
    rw [encP_succ]
    simp only []
    rw [at0_app, encP_len.1]
    by_cases h : i < n
    · rw [if_pos h, ih i h]
    · rw [if_neg h, if_pos (by omega), show i = n by omega]
theorem mem_at0 {α : Type} [Inhabited α] {l : List α} {a : α} (h : a ∈ l) : ∃ i, i < l.length ∧ at0 l i = a := by
  obtain ⟨i, hi, rfl⟩ := List.getElem_of_mem h
  exact ⟨i, hi, Option.some.inj ((at0_get hi).symm.trans (List.getElem?_eq_getElem hi))⟩
theorem encP_rows {b : List (List Int)} {lim : Int} {n : Nat} : ∀ s ∈ (encP b lim n).1, s.rows.length ≤ 12 := by
  intro s hs
  obtain ⟨i, hi, rfl⟩ := mem_at0 hs
  rw [encP_len.1] at hi
  rw [encP_get i hi]
  exact encS_ok.2.2
theorem encP_C {b : List (List Int)} {lim : Int} {n : Nat} (hn : n ≤ 1000000) : StsC (encP b lim n).1 := by
  refine ⟨by rw [encP_len.1]; exact hn, fun i hi => ?_, fun s hs => by have := encP_rows s hs; omega⟩
  rw [encP_len.1] at hi
  rw [encP_get i hi]
  exact ⟨encS_ok.1, encS_ok.2.1⟩
theorem sl_of {G : Heap} {b ver : Nat} {ds : List Int} (h : G[b]? = some ⟨cs .i64 ds, 1, ver, false⟩) : SlR G (slc b 0 ver ds.length ds.length) 1 ds.length (cs .i64 ds) :=
  ⟨by simp, .inr ⟨b, 0, ver, _, rfl, Nat.le_refl _, by rw [rd_at h rfl (by simp)]; simp only [List.drop_zero]; rw [List.take_of_length_le (by simp)], _, h, rfl, rfl⟩⟩
/-- What 430 does. -/
theorem call430 {pu : Bool} {H : Heap} {x : Value} {b : List (List Int)} {lim : Int} (h : Bk H x b) (hw : BkW b) (hok : okFs b = true) (hn : b.length ≤ 40) :
    ∃ r, Call tab pu 430 [x, .int .i64 lim] H = some r ∧ ∃ bl ver G, r = (slc bl 0 ver (encP b lim b.length).1.length (encP b lim b.length).1.length, G) ∧ StD H.length G bl ver (encP b lim b.length).1 ∧ Pre H G := by
  refine Call_ex t430 (.inr rfl) rfl ?_
  simp [c430, k430, fill, rep]
  refine WP_count 7 b.length b.length rfl (fun i e G => e 0 = x ∧ e 1 = .int .i64 lim ∧ ∃ v1 v2, e 5 = slc H.length 0 v1 i i ∧ e 6 = slc (H.length + 1) 0 v2 i i ∧ Pre H G ∧ StD H.length G H.length v1 (encP b lim i).1 ∧ G[H.length + 1]? = some ⟨cs .i64 (encP b lim i).2, 1, v2, false⟩) (by omega) ?_ ?_ (by simp) ?_
  · rintro i e G _ hi hii e4 h7 ⟨h0, h1, v1, v2, h5, h6, hP, hS, hD⟩
    have hl := encP_len (b := b) (lim := lim) (i := i)
    have hle := encP_ok (b := b) (lim := lim) (i := i)
    have hsu := encP_succ (b := b) (lim := lim) (i := i)
    have hbs := bestS_b (b := b) (k := i) (p := fun j => !decide (lim ≤ nth (encP b lim i).2 j)) (i := i)
    have hes : encS b lim i = bestS b i (fun j => !decide (lim ≤ nth (encP b lim i).2 j)) i := rfl
    generalize encP b lim i = q at *
    obtain ⟨l, ds⟩ := q
    simp only [] at *
    obtain ⟨hl1, hl2⟩ := hl
    subst hl1
    have hz := sl_of hD
    rw [hl2] at hz
    obtain ⟨_, h404, y, G1, rfl, hP1, hY⟩ := call404 (pu := true) (lim := lim) (SlR.pre hP h) hw hok hn hi (by rw [hl2]; exact hz) (Nat.le_of_eq hl2.symm)
    rw [← hes] at hY h404
    rw [← hes] at hbs
    generalize encS b lim l.length = s at *
    have hD1 : G1[H.length + 1]? = some ⟨cs .i64 ds, 1, v2, false⟩ := by rw [hP1.get (List.getElem?_eq_some_iff.1 hD).1]; exact hD
    have hr1 : (l.length + 1) * 32 ≤ roomMax := by have : roomMax = 140737488355328 := rfl; omega
    have hr2 : (l.length + 1) * 8 ≤ roomMax := by have : roomMax = 140737488355328 := rfl; omega
    obtain ⟨G2, hp1, hS2, hk2, hpre2⟩ := hS.push hP1 hY hP.len hr1 (wb := false)
    have hD2 := hk2 _ _ (by omega) hD1
    have hPH1 := hP.trans hP1
    have hPH2 := hpre2 H hPH1 (Nat.le_refl _)
    have hb2 : ∀ d : Int, ((srcOf 1 (G2 ++ [⟨[.int .i64 d], 1, 0, false⟩]) (slc G2.length 0 0 1 1)).bind fun q => appendTo H.length false 1 8 (G2 ++ [⟨[.int .i64 d], 1, 0, false⟩]) (slc (H.length + 1) 0 v2 l.length l.length) q.1 q.2) = _ := fun d =>
      push_at (n0 := H.length) (n := l.length) (bytes := 8) (c := [.int .i64 d]) hD2 (by omega) (by simp [hl2]) rfl hr2
    have hf5 : fill (rep 1 [.int .i8 0, .int .i8 0, .int .i8 0, .int .i8 0, .slice none 0 0]) [(0, 5, agg (stC s y))] = some (stC s y) := fill_one rfl rfl
    have hf1 : ∀ d : Int, fill (rep 1 [.int .i64 0]) [(0, 1, .int .i64 d)] = some [.int .i64 d] := fun d => fill_one rfl rfl
    have key : ∀ d : Int, d = depV s ds → ∃ v2', StD H.length ((G2 ++ [(⟨[.int .i64 d], 1, 0, false⟩ : Blk)]).set (H.length + 1) ⟨cs .i64 ds ++ [.int .i64 d], 1, v2 + 1, false⟩) H.length (v1 + 1) (encP b lim (l.length + 1)).1 ∧
        ((G2 ++ [(⟨[.int .i64 d], 1, 0, false⟩ : Blk)]).set (H.length + 1) ⟨cs .i64 ds ++ [.int .i64 d], 1, v2 + 1, false⟩)[H.length + 1]? = some ⟨cs .i64 (encP b lim (l.length + 1)).2, 1, v2', false⟩ ∧ v2' = v2 + 1 := fun d hd => by
      refine ⟨v2 + 1, ?_, ?_, rfl⟩
      · rw [hsu]
        exact hS2.keep fun b' k hk he => by
          rw [push_get ?_ (List.getElem?_eq_some_iff.1 hk).1]
          · exact hk
          · rintro rfl
            rw [hD2] at hk
            cases hk
            exact he rfl
      · rw [push_self (List.getElem?_eq_some_iff.1 hD2).1, hsu, cs_push, hd]
    cases hz0 : s.a == 0 with
    | true =>
      have ev : depV s ds = 0 := by rw [depV, if_pos hz0]
      obtain ⟨v2', k1, k2, rfl⟩ := key 0 ev.symm
      simp only [stC] at h404 hf5 hp1
      have hz1 : (s.a != 0) = false := by rw [bne, hz0]; rfl
      simp [b430_1, h7, h0, h1, h5, h6, hii, SlR.lenV h, h404, stc5, ldc5a, ldc5, hz1, hf5, hp1, hf1, hb2, wbOf, e4]
      exact ⟨_, rfl, _, rfl, push_pre hPH2 (by omega), k1, k2⟩
    | false =>
      obtain ⟨m, hm, hmi⟩ : ∃ m : Nat, s.b = m ∧ m < l.length := by
        rcases hbs with h | h
        · rw [h] at hz0; cases hz0
        · exact h
      have hbm := hle m hmi
      have ev : depV s ds = nth ds m + 1 := by rw [depV, if_neg (by rw [hz0]; decide), hm]; rfl
      obtain ⟨v2', k1, k2, rfl⟩ := key _ ev.symm
      have w1 : IntKind.wrap .i64 (nth ds m + 1) = nth ds m + 1 := wrap64 (by omega)
      have hz' := (sl_of hD1).get1 (i := m) (by omega)
      rw [hl2] at hz'
      obtain ⟨q2, off2, ver2, ha2, hr2⟩ := hz'
      rw [elem_i (by omega)] at hr2
      rw [idxAV_k (k' := .i8)] at ha2
      simp only [stC, hm] at h404 hf5 hp1
      have hz1 : (s.a != 0) = true := by rw [bne, hz0]; rfl
      simp [b430_1, h7, h0, h1, h5, h6, hii, SlR.lenV h, h404, stc5, ldc5a, ldc5b, ldc5, hz1, hm, ha2, hr2, w1, hf5, hp1, hf1, hb2, wbOf, e4, -idxAV_slc]
      exact ⟨_, rfl, _, rfl, push_pre hPH2 (by omega), k1, k2⟩
  · rintro e G _ h7 ⟨h0, h1, v1, v2, h5, h6, hP, hS, hD⟩
    have hl := (encP_len (b := b) (lim := lim) (i := b.length)).1
    obtain ⟨b', ver', G', hf, hS', hP'⟩ := hS.fin hP (rest := []) rfl
    rw [hl] at hf ⊢
    simp [b430_1, h7, h0, h5, SlR.lenV h, hf]
    exact ⟨_, _, _, ⟨rfl, rfl⟩, hS', hP'⟩
  · have hP0 : Pre H (H ++ [(⟨[], 5, 0, false⟩ : Blk), ⟨[], 1, 0, false⟩]) := ⟨_, rfl⟩
    have hP1 : Pre (H ++ [(⟨[], 5, 0, false⟩ : Blk)]) (H ++ [(⟨[], 5, 0, false⟩ : Blk), ⟨[], 1, 0, false⟩]) := ⟨[⟨[], 1, 0, false⟩], by simp⟩
    refine ⟨by simp, by simp, 0, 0, by simp, by simp, hP0, ?_, ?_⟩
    · rw [encP_zero]; exact (StD.new (Nat.le_refl _)).pre hP1
    · rw [encP_zero]; simp [cs]
/-- What 216 does. -/
def encC (b : List (List Int)) (lim : Int) : Int := if okB b = true then if in1 lim 0 40 = true then 0 else 2 else 1
def encL (b : List (List Int)) (lim : Int) : List Sted := if encC b lim = 0 then (encP b lim b.length).1 else []
def encT (b : List (List Int)) (lim : Int) : Int := if encC b lim = 0 then sumC (encP b lim b.length).1 b.length else 0
/-- Steps, what they cost, and a code. -/
def RsE (H : Heap) (r : Value × Heap) (l : List Sted) (t c : Int) : Prop := ∃ x G, r = (tup [x, .int .i64 t, .int .i64 c], G) ∧ StX H.length G x l ∧ Pre H G
theorem okB_fs2 {b : List (List Int)} (h : okB b = true) : okFs b = true ∧ b.length ≤ 40 := by
  simp only [okB, Bool.and_eq_true, decide_eq_true_eq] at h; exact h
theorem nil_fin {H : Heap} {t c : Int} : ∃ r, finish H.length (H ++ [⟨[], 5, 0, false⟩]) [slc H.length 0 0 0 0, .int .i64 t, .int .i64 c] = r ∧ RsE H r [] t c := by
  obtain ⟨b', ver', G', e, h1, h2⟩ := (StD.new (n0 := H.length) (G := H) (Nat.le_refl _)).fin Pre.one (rest := [.int .i64 t, .int .i64 c]) rfl
  exact ⟨_, e, _, G', rfl, .inr ⟨b', ver', rfl, h1⟩, h2⟩
theorem call215 {pu : Bool} {H : Heap} {x : Value} {b : List (List Int)} {lim : Int} (h : Bk H x b) (hw : BkW b) (hn : b.length ≤ 1000000) :
    ∃ r, Call tab pu 215 [x, .int .i64 lim] H = some r ∧ RsE H r (encL b lim) (encT b lim) (encC b lim) := by
  refine Call_ex t215 (.inr rfl) rfl ?_
  have h1 := call318 (pu := true) h hw (by omega)
  cases k1 : okB b with
  | false =>
    obtain ⟨r, e, q⟩ := nil_fin (H := H) (t := 0) (c := 1)
    have hc : encC b lim = 1 := by simp [encC, k1]
    simp [c215, k215, h1, k1, fill, rep, e]
    simpa [encL, encT, hc] using q
  | true =>
    cases k2 : in1 lim 0 40 with
    | false =>
      obtain ⟨r, e, q⟩ := nil_fin (H := H) (t := 0) (c := 2)
      have hc : encC b lim = 2 := by simp [encC, k1, k2]
      simp [c215, k215, h1, k1, in304, k2, fill, rep, e]
      simpa [encL, encT, hc] using q
    | true =>
      obtain ⟨ho, hl⟩ := okB_fs2 k1
      have hc : encC b lim = 0 := by simp [encC, k1, k2]
      obtain ⟨_, h2, bl, ver, G, rfl, hS, hP⟩ := call430 (pu := true) (lim := lim) h hw ho hl
      have h3 := cost396 (pu := true) hS.sts (encP_C (b := b) (lim := lim) (n := b.length) hn)
      obtain ⟨b', ver', G', e, hS', hP'⟩ := hS.fin hP (rest := [.int .i64 (sumC (encP b lim b.length).1 b.length), .int .i64 0]) rfl
      rw [encP_len.1] at h2 h3 e
      simp [c215, k215, h1, k1, in304, k2, h2, h3, e]
      exact ⟨slc b' 0 ver' b.length b.length, G', by simp [encT, hc], .inr ⟨b', ver', by simp [encL, hc, encP_len], by simpa [encL, hc] using hS'⟩, hP'⟩
theorem bestS_congr' {b : List (List Int)} {lim : Int} {i : Nat} {ds : List Int} : bestS b i (fun j => decide (nth ds j < lim)) i = bestS b i (fun j => !decide (lim ≤ nth ds j)) i :=
  bestS_congr fun j _ => by
    by_cases h : nth ds j < lim
    · simp [h]
    · simp [h]; omega
theorem call216 {pu : Bool} {H : Heap} {x : Value} {b : List (List Int)} {lim : Int} (h : Bk H x b) (hw : BkW b) (hn : b.length ≤ 1000000) :
    ∃ r, Call tab pu 216 [x, .int .i64 lim] H = some r ∧ RsE H r (encL b lim) (encT b lim) (encC b lim) := by
  refine Call_ex t216 (.inr rfl) rfl ?_
  obtain ⟨HL, hHL⟩ : ∃ HL, HL = H ++ [(⟨[.int .i64 lim], 1, 0, false⟩ : Blk)] := ⟨_, rfl⟩
  have pL : Pre H HL := by rw [hHL]; exact Pre.one
  have hlim : rd HL H.length 0 0 1 = some [.int .i64 lim] := by rw [hHL]; exact rd_last rfl rfl
  have h1 := call316 (pu := true) (SlR.pre pL h) hw (by omega)
  have hnil : ∀ c : Int, encC b lim = c → c ≠ 0 → ∃ r, finish H.length HL [.slice none 0 0, .int .i64 0, .int .i64 c] = r ∧ RsE H r (encL b lim) (encT b lim) (encC b lim) := fun c hc h0 => by
    have e1 : finish H.length HL [.slice none 0 0, .int .i64 0, .int .i64 c] = (one [.slice none 0 0, .int .i64 0, .int .i64 c], HL.take H.length) := finish_vs (by simp)
    rw [pL.take] at e1
    exact ⟨_, e1, .slice none 0 0, H, by simp [hc, encT, h0], .inl ⟨rfl, by simp [encL, hc, h0]⟩, .refl⟩
  cases k1 : okB b with
  | false =>
    obtain ⟨r, e, q⟩ := hnil 1 (by simp [encC, k1]) (by omega)
    simp [c216, k216, ← hHL, h1, k1, e]
    exact q
  | true =>
    cases k2 : in1 lim 0 40 with
    | false =>
      obtain ⟨r, e, q⟩ := hnil 2 (by simp [encC, k1, k2]) (by omega)
      simp [c216, k216, ← hHL, h1, k1, hlim, in295, k2, e]
      exact q
    | true =>
      obtain ⟨ho, hl⟩ := okB_fs2 k1
      have hc : encC b lim = 0 := by simp [encC, k1, k2]
      have hlH : HL.length = H.length + 1 := by rw [hHL]; simp
      obtain ⟨N, hN⟩ : ∃ N, N = HL.length := ⟨_, rfl⟩
      obtain ⟨G0, hG0⟩ : ∃ G0, G0 = HL ++ [(⟨[], 5, 0, false⟩ : Blk), ⟨[], 1, 0, false⟩, ⟨[slc (N + 1) 0 0 0 0], 1, 0, false⟩] := ⟨_, rfl⟩
      have hwr0 : wr H.length false (HL ++ [(⟨[], 5, 0, false⟩ : Blk), ⟨[], 1, 0, false⟩, ⟨[.slice none 0 0], 1, 0, false⟩]) (N + 2) 0 0 [slc (N + 1) 0 0 0 0] = some G0 := by
        have e0 : HL ++ [(⟨[], 5, 0, false⟩ : Blk), ⟨[], 1, 0, false⟩, ⟨[.slice none 0 0], 1, 0, false⟩] = (HL ++ [(⟨[], 5, 0, false⟩ : Blk), ⟨[], 1, 0, false⟩]) ++ [⟨[.slice none 0 0], 1, 0, false⟩] := by simp
        have e1 : N + 2 = (HL ++ [(⟨[], 5, 0, false⟩ : Blk), ⟨[], 1, 0, false⟩]).length := by simp [hN]
        have e2 := wr_last (n0 := H.length) (wb := false) (H := HL ++ [(⟨[], 5, 0, false⟩ : Blk), ⟨[], 1, 0, false⟩]) (b := ⟨[.slice none 0 0], 1, 0, false⟩) (vs := [slc (N + 1) 0 0 0 0]) rfl rfl (by simp; omega) rfl
        rw [e0, e1, e2, hG0]
        simp
      have pG0 : Pre HL G0 := by rw [hG0]; exact ⟨_, rfl⟩
      have g1 : G0[H.length]? = some ⟨[.int .i64 lim], 1, 0, false⟩ := by rw [pG0.get (by omega), hHL]; exact get_last
      have g3 : G0[N + 1]? = some ⟨cs .i64 [], 1, 0, false⟩ := by rw [hG0, hN]; simp [cs]
      have g4 : G0[N + 2]? = some ⟨[slc (N + 1) 0 0 0 0], 1, 0, false⟩ := by rw [hG0, hN]; simp
      have s0 : StD H.length G0 N 0 [] := by
        have := StD.new (n0 := H.length) (G := HL) (by omega)
        rw [← hN] at this
        exact this.pre ⟨[⟨[], 1, 0, false⟩, ⟨[slc (N + 1) 0 0 0 0], 1, 0, false⟩], by rw [hG0]; simp⟩
      simp [c216, k216, ← hHL, h1, k1, hlim, in295, k2, fill, rep, SlR.lenV h, ← hN, hwr0, wbOf]
      have hNH : N = H.length + 1 := by omega
      refine WP_count 23 b.length b.length rfl (fun i e G => e 0 = x ∧ e 3 = adr H.length 0 0 ∧ e 8 = adr (N + 2) 0 0 ∧ e 22 = .int .i64 b.length ∧ ∃ v1 v2, e 7 = slc N 0 v1 i i ∧ Pre H G ∧ StD H.length G N v1 (encP b lim i).1 ∧ G[H.length]? = some ⟨[.int .i64 lim], 1, 0, false⟩ ∧ G[N + 1]? = some ⟨cs .i64 (encP b lim i).2, 1, v2, false⟩ ∧ G[N + 2]? = some ⟨[slc (N + 1) 0 v2 i i], 1, 0, false⟩) (by omega) ?_ ?_ (by simp) ⟨by simp, by simp, by simp, by simp, 0, 0, by simp, pL.trans pG0, by rw [encP_zero]; exact s0, g1, by rw [encP_zero]; exact g3, g4⟩
      · rintro i e G _ hi hii e4 h23 ⟨h0, h3, h8, h22, v1, v2, h7, hP, hS, hL, hD, hQ⟩
        have hl := encP_len (b := b) (lim := lim) (i := i)
        have hle := encP_ok (b := b) (lim := lim) (i := i)
        have hsu := encP_succ (b := b) (lim := lim) (i := i)
        have hbs := bestS_b (b := b) (k := i) (p := fun j => !decide (lim ≤ nth (encP b lim i).2 j)) (i := i)
        have hes : encS b lim i = bestS b i (fun j => !decide (lim ≤ nth (encP b lim i).2 j)) i := rfl
        have hokS := encS_ok (b := b) (lim := lim) (i := i)
        generalize encP b lim i = q at *
        obtain ⟨l, ds⟩ := q
        simp only [] at *
        obtain ⟨hl1, hl2⟩ := hl
        subst hl1
        have hz := sl_of hD
        rw [hl2] at hz
        obtain ⟨_, h406, y, G1, rfl, hP1, hY⟩ := call406 (pu := true) (F := .func (.func 431) #[] #[adr (N + 2) 0 0, adr H.length 0 0]) (p := fun j => decide (nth ds j < lim)) (SlR.pre hP h) hw ho hl hi fun G' j pG hj => by
          have := call431 (pu := true) (G := G') (j := j) (P := N + 2) (Q := H.length) (o := 0) (o' := 0) (v := 0) (v' := 0) (g := slc (N + 1) 0 v2 l.length l.length) (ds := ds) (lim := lim) (pG.rd (by rw [rd_at hQ rfl (by simp)]; rfl)) (SlR.pre pG (by rw [hl2]; exact hz)) (by omega) (pG.rd (by rw [rd_at hL rfl (by simp)]; rfl))
          rw [← this]
          simp [callV]
        rw [bestS_congr', ← hes] at hY h406
        rw [← hes] at hbs
        generalize encS b lim l.length = s at *
        have hlt2 := (List.getElem?_eq_some_iff.1 hQ).1
        have hD1 : G1[N + 1]? = some ⟨cs .i64 ds, 1, v2, false⟩ := by rw [hP1.get (List.getElem?_eq_some_iff.1 hD).1]; exact hD
        have hQ1 : G1[N + 2]? = some ⟨[slc (N + 1) 0 v2 l.length l.length], 1, 0, false⟩ := by rw [hP1.get hlt2]; exact hQ
        have hL1 : G1[H.length]? = some ⟨[.int .i64 lim], 1, 0, false⟩ := by rw [hP1.get (List.getElem?_eq_some_iff.1 hL).1]; exact hL
        have hr1 : (l.length + 1) * 32 ≤ roomMax := by have : roomMax = 140737488355328 := rfl; omega
        have hr2 : (l.length + 1) * 8 ≤ roomMax := by have : roomMax = 140737488355328 := rfl; omega
        obtain ⟨G2, hp1, hS2, hk2, hpre2⟩ := hS.push hP1 hY hP.len hr1 (wb := false)
        have hD2 := hk2 _ _ (by omega) hD1
        have hQ2 := hk2 _ _ (by omega) hQ1
        have hL2 := hk2 _ _ (by omega) hL1
        have hPH1 := hP.trans hP1
        have hPH2 := hpre2 H hPH1 (by omega)
        have hrQ : rd G2 (N + 2) 0 0 1 = some [slc (N + 1) 0 v2 l.length l.length] := by rw [rd_at hQ2 rfl (by simp)]; rfl
        have hz2 := sl_of hD2
        have hrQ1 : rd (G1 ++ [(⟨stC s y, 5, 0, false⟩ : Blk)]) (N + 2) 0 0 1 = some [slc (N + 1) 0 v2 l.length l.length] := by
          refine rd_app ?_
          rw [rd_at hQ1 rfl (by simp)]; rfl
        have hG1K : Pre G G1 := hP1
        have h400 := call400 (pu := true) (G := G2) (s := s) (y := y) (g := slc (N + 1) 0 v2 l.length l.length) (ds := ds) (by rw [← hl2]; exact hz2) (fun hz0 => by
          rcases hbs with h | ⟨m, h1, h2⟩
          · rw [h] at hz0; cases hz0
          · exact ⟨m, h1, by omega⟩) (fun j hj => by have := hle j (by omega); omega)
        have hb2 := push_at (n0 := H.length) (n := l.length) (bytes := 8) (wb := false) (c := [.int .i64 (depV s ds)]) hD2 (by omega) (by simp [hl2]) rfl hr2
        have hf5 : fill (rep 1 [.int .i8 0, .int .i8 0, .int .i8 0, .int .i8 0, .slice none 0 0]) [(0, 5, agg (stC s y))] = some (stC s y) := fill_one rfl rfl
        have hf1 : fill (rep 1 [.int .i64 0]) [(0, 1, .int .i64 (depV s ds))] = some [.int .i64 (depV s ds)] := fill_one rfl rfl
        obtain ⟨G3, hG3⟩ : ∃ G3, G3 = (G2 ++ [(⟨[.int .i64 (depV s ds)], 1, 0, false⟩ : Blk)]).set (N + 1) ⟨cs .i64 ds ++ [.int .i64 (depV s ds)], 1, v2 + 1, false⟩ := ⟨_, rfl⟩
        rw [← hG3] at hb2
        have hlG2 : ∀ (b' : Nat) (k : Blk), G2[b']? = some k → b' < G2.length := fun b' k hk => (List.getElem?_eq_some_iff.1 hk).1
        have hQ3 : G3[N + 2]? = some ⟨[slc (N + 1) 0 v2 l.length l.length], 1, 0, false⟩ := by rw [hG3, push_get (by omega) (hlG2 _ _ hQ2)]; exact hQ2
        have hL3 : G3[H.length]? = some ⟨[.int .i64 lim], 1, 0, false⟩ := by rw [hG3, push_get (by omega) (hlG2 _ _ hL2)]; exact hL2
        have hD3 : G3[N + 1]? = some ⟨cs .i64 (encP b lim (l.length + 1)).2, 1, v2 + 1, false⟩ := by rw [hG3, push_self (hlG2 _ _ hD2), hsu, cs_push]
        have hP3 : Pre H G3 := by rw [hG3]; exact push_pre hPH2 (by omega)
        have hS3 : StD H.length G3 N (v1 + 1) (encP b lim (l.length + 1)).1 := by
          rw [hsu]
          refine hS2.keep fun b' k hk he => ?_
          rw [hG3, push_get ?_ (hlG2 _ _ hk)]
          · exact hk
          · rintro rfl
            rw [hD2] at hk
            cases hk
            exact he rfl
        obtain ⟨G4, hG4⟩ : ∃ G4, G4 = G3.set (N + 2) ⟨[slc (N + 1) 0 (v2 + 1) (l.length + 1) (l.length + 1)], 1, 0, false⟩ := ⟨_, rfl⟩
        have hwr4 : wr H.length false G3 (N + 2) 0 0 [slc (N + 1) 0 (v2 + 1) (l.length + 1) (l.length + 1)] = some G4 := by
          rw [wr_at hQ3 rfl rfl (by simp [may]; omega) (by simp), hG4]; rfl
        simp only [stC] at h406 hf5 hp1 h400 hrQ1
        have hne : ¬ N = N + 2 := by omega
        simp [b216_1, h23, h0, h3, h8, h22, h7, hii, h406, stc5, ldc5, hf5, hrQ1, app_nochk, calls_app, apart, mods, hp1, h400, hf1, hb2, hwr4, wbOf, e4]
        refine ⟨_, rfl, ?_⟩
        refine ⟨by rw [hG4]; exact hP3.set (by omega), hS3.keep fun b' k hk he => ?_, ?_, v2 + 1, ?_, ?_⟩
        · rw [hG4, List.getElem?_set_ne]
          · exact hk
          · rintro rfl
            rw [hQ3] at hk
            cases hk
            exact he rfl
        · rw [hG4, List.getElem?_set_ne (by omega)]; exact hL3
        · rw [hG4, List.getElem?_set_ne (by omega)]; exact hD3
        · rw [hG4]; exact get_set hQ3
      · rintro e G _ h23 ⟨h0, h3, h8, h22, v1, v2, h7, hP, hS, hL, hD, hQ⟩
        have h3' := cost397 (pu := true) hS.sts (encP_C (b := b) (lim := lim) (n := b.length) hn)
        obtain ⟨b', ver', G', e1, hS', hP'⟩ := hS.fin hP (rest := [.int .i64 (sumC (encP b lim b.length).1 b.length), .int .i64 0]) rfl
        rw [encP_len.1] at h3' e1
        simp [b216_1, h23, h22, h7, h3', e1]
        exact ⟨slc b' 0 ver' b.length b.length, G', by simp [encT, hc], .inr ⟨b', ver', by simp [encL, hc, encP_len], by simpa [encL, hc] using hS'⟩, hP'⟩
theorem StX.fin {H G : Heap} {x : Value} {l : List Sted} {t c : Int} (h : StX H.length G x l) (p : Pre H G) : ∃ r, finish H.length G [x, .int .i64 t, .int .i64 c] = r ∧ RsE H r l t c := by
  rcases h with ⟨rfl, rfl⟩ | ⟨b, ver, rfl, h⟩
  · have e1 : finish H.length G [.slice none 0 0, .int .i64 t, .int .i64 c] = (one [.slice none 0 0, .int .i64 t, .int .i64 c], G.take H.length) := finish_vs (by simp)
    rw [p.take] at e1
    exact ⟨_, e1, .slice none 0 0, H, rfl, .inl ⟨rfl, rfl⟩, .refl⟩
  · obtain ⟨b', ver', G', e, h1, h2⟩ := h.fin p (rest := [.int .i64 t, .int .i64 c]) rfl
    exact ⟨_, e, _, G', rfl, .inr ⟨b', ver', rfl, h1⟩, h2⟩
theorem call212 {pu : Bool} {H : Heap} {x : Value} {b : List (List Int)} (h : Bk H x b) (hw : BkW b) (hn : b.length ≤ 1000000) :
    ∃ r, Call tab pu 212 [x] H = some r ∧ RsE H r (encL b 40) (encT b 40) (encC b 40) := by
  refine Call_ex t212 (.inr rfl) rfl ?_
  obtain ⟨_, h1, y, G, rfl, hX, hP⟩ := call216 (pu := true) (lim := 40) h hw hn
  obtain ⟨r, e, q⟩ := hX.fin hP (t := encT b 40) (c := encC b 40)
  simp [c212, k212, h1, e]
  exact q
theorem call211 {pu : Bool} {H : Heap} {x : Value} {b : List (List Int)} (h : Bk H x b) (hw : BkW b) (hn : b.length ≤ 1000000) :
    ∃ r, Call tab pu 211 [x] H = some r ∧ RsE H r (encL b 40) (encT b 40) (encC b 40) := by
  refine Call_ex t211 (.inr rfl) rfl ?_
  have h1 := call318 (pu := true) h hw (by omega)
  cases k1 : okB b with
  | false =>
    obtain ⟨r, e, q⟩ := nil_fin (H := H) (t := 0) (c := 1)
    have hc : encC b 40 = 1 := by simp [encC, k1]
    simp [c211, k211, h1, k1, fill, rep, e]
    simpa [encL, encT, hc] using q
  | true =>
    obtain ⟨ho, hl⟩ := okB_fs2 k1
    have hc : encC b 40 = 0 := by simp [encC, k1, in1]
    obtain ⟨_, h2, bl, ver, G, rfl, hS, hP⟩ := call430 (pu := true) (lim := 40) h hw ho hl
    have h3 := cost396 (pu := true) hS.sts (encP_C (b := b) (lim := 40) (n := b.length) hn)
    obtain ⟨b', ver', G', e, hS', hP'⟩ := hS.fin hP (rest := [.int .i64 (sumC (encP b 40 b.length).1 b.length), .int .i64 0]) rfl
    rw [encP_len.1] at h2 h3 e
    simp [c211, k211, h1, k1, h2, h3, e]
    exact ⟨slc b' 0 ver' b.length b.length, G', by simp [encT, hc], .inr ⟨b', ver', by simp [encL, hc, encP_len], by simpa [encL, hc] using hS'⟩, hP'⟩
/- Moves, compared by how far they go. -/
def szI (a : Int) : Int := if a < -a then -a else a
def mkey (a : Int × Int) : Int := szI a.1 + szI a.2
abbrev ML := List (Int × Int)
/-- Halves. -/
def hf (i j : Int) : Int := (i + j) / 2
/- The moves up to a size, as both sides order them. -/
def rgI (m : Int) : List Int := (List.range (2 * m + 1).toNat).map fun (i : Nat) => (i : Int) - m
def gridM (m : Int) : ML := (rgI m).flatMap fun a => (rgI m).map fun b => (a, b)
def farM (m : Int) : ML := (List.range (2 * m + 1).toNat).flatMap fun (d : Nat) => (gridM m).filter fun a => decide (mkey a = d)
/-- The list that is being sorted, in its block. -/
def hp (G0 : Heap) (bq ver : Nat) (l : ML) : Heap := G0.set bq ⟨mvsC l, 2, ver, false⟩
theorem own_nil {H : Heap} {esz : Nat} : Own H (.slice none 0 0) none H.length esz 0 [] := ⟨by simp, rfl, rfl⟩
theorem SlR.cells {H : Heap} {x : Value} {esz n : Nat} {vs : List Value} (h : SlR H x esz n vs) : cellsOf x = [x] := by
  rcases h.is with ⟨rfl, _⟩ | ⟨b, off, ver, cap, rfl, _⟩ <;> rfl
def cpP (b c : List (List Int)) (a : Int × Int) (p : Nat) : Bool := allN (fun i => decide (fr b (p + i) = shF (fr c i) a.1 a.2)) c.length
/-- Which move is the first one that makes a copy at p. -/
def mcJ (b c : List (List Int)) (m p : Nat) : Int := findN (fun j => cpP b c (mv (farM m) j) p) (farM m).length
def mcS (b c : List (List Int)) (m p : Nat) (s : List Int × ML) : List Int × ML := if 0 ≤ mcJ b c m p then (s.1 ++ [(p : Int)], s.2 ++ [mv (farM m) (mcJ b c m p).toNat]) else s
def mcK (b c : List (List Int)) (m k : Nat) : List Int × ML := itN (mcS b c m) ([], []) k
theorem mcK_zero {b c : List (List Int)} {m : Nat} : mcK b c m 0 = ([], []) := itN_zero
theorem mcK_succ {b c : List (List Int)} {m k : Nat} : mcK b c m (k + 1) = mcS b c m k (mcK b c m k) := itN_succ
theorem mcK_len {b c : List (List Int)} {m k : Nat} : (mcK b c m k).1.length ≤ k ∧ (mcK b c m k).2.length = (mcK b c m k).1.length := by
  induction k with
  | zero => rw [mcK_zero]; simp
  | succ k ih =>
    rw [mcK_succ, mcS]
    split
    · simp [ih.2]; omega
    · exact ⟨by omega, ih.2⟩
def mcC (b c : List (List Int)) (m : Int) : Int := if (okB b && okB c) = true then if (in1 m 0 4 && !((c.length : Int) == 0)) = true then 0 else 2 else 1
/-- How many places there are. -/
def mcN (b c : List (List Int)) : Nat := b.length + 1 - c.length
def mcR (b c : List (List Int)) (m : Int) : List Int × ML := if mcC b c m = 0 then mcK b c m.toNat (mcN b c) else ([], [])
/-- What 352 hands back. -/
def RsM (H : Heap) (r : Value × Heap) (q : List Int × ML) (c : Int) : Prop :=
  (c ≠ 0 ∧ r = (tup [.slice none 0 0, .slice none 0 0, .int .i64 c], H)) ∨
  (c = 0 ∧ r = (tup [slc H.length 0 0 q.1.length q.1.length, slc (H.length + 1) 0 0 q.1.length q.1.length, .int .i64 c], H ++ [⟨cs .i64 q.1, 1, 0, false⟩, ⟨mvsC q.2, 2, 0, false⟩]))
theorem rowsC_drop {α : Type} {f : α → List Value} {esz : Nat} {l : List α} (hf : ∀ a ∈ l, (f a).length = esz) {k : Nat} : (rowsC f l).drop (k * esz) = rowsC f (l.drop k) := by
  induction l generalizing k with
  | nil => simp [rowsC]
  | cons a r ih =>
    cases k with
    | zero => simp
    | succ k =>
      have h1 := hf a (by simp)
      have := ih (k := k) (fun b hb => hf b (by simp [hb]))
      show (f a ++ rowsC f r).drop ((k + 1) * esz) = rowsC f (r.drop k)
      rw [← this, show (k + 1) * esz = (f a).length + k * esz by rw [h1, Nat.succ_mul]; omega, List.drop_length_add_append]
theorem rowsC_take {α : Type} {f : α → List Value} {esz : Nat} {l : List α} (hf : ∀ a ∈ l, (f a).length = esz) {k : Nat} : (rowsC f l).take (k * esz) = rowsC f (l.take k) := by
  induction l generalizing k with
  | nil => simp [rowsC]
  | cons a r ih =>
    cases k with
    | zero => simp [rowsC]
    | succ k =>
      have h1 := hf a (by simp)
      have := ih (k := k) (fun b hb => hf b (by simp [hb]))
      show (f a ++ rowsC f r).take ((k + 1) * esz) = f a ++ rowsC f (r.take k)
      rw [← this, show (k + 1) * esz = (f a).length + k * esz by rw [h1, Nat.succ_mul]; omega, List.take_length_add_append]
theorem frC_len {b : List (List Int)} (hw : BkW b) : ∀ a ∈ b, (frC a).length = 12 := fun a ha => by simp [frC, (hw a ha).len]
/-- A part of a book in memory. -/
theorem Bk.sub {H : Heap} {x : Value} {b : List (List Int)} (h : Bk H x b) (hw : BkW b) {lo n : Nat} (hn : lo + n ≤ b.length) {k k' : IntKind} :
    ∃ y, slcAV H 12 x (some (.int k (lo : Int))) (some (.int k' ((lo + n : Nat) : Int))) none = some y ∧ Bk H y ((b.drop lo).take n) ∧ BkW ((b.drop lo).take n) := by
  obtain ⟨y, h1, h2⟩ := SlR.sub h (lo := lo) (hi := lo + n) (by omega) hn (k := k) (k' := k')
  have hW : BkW ((b.drop lo).take n) := fun f hf => hw f (List.mem_of_mem_drop (List.mem_of_mem_take hf))
  refine ⟨y, h1, ?_, hW⟩
  have e1 : lo + n - lo = n := by omega
  rw [e1] at h2
  have e2 : (bkC b).drop (lo * 12) = bkC (b.drop lo) := rowsC_drop (frC_len hw)
  have e3 : (bkC (b.drop lo)).take (n * 12) = bkC ((b.drop lo).take n) := rowsC_take (frC_len fun f hf => hw f (List.mem_of_mem_drop hf))
  rw [e2, e3] at h2
  have e4 : ((b.drop lo).take n).length = n := by simp; omega
  show SlR H y 12 ((b.drop lo).take n).length (bkC ((b.drop lo).take n))
  rw [e4]; exact h2
/-- Two lists of its own, and a code. -/
def RsD (H : Heap) (r : Value × Heap) (q : List Int × ML) (c : Int) : Prop := ∃ r1 r2 G β1 β2, r = (tup [r1, r2, .int .i64 c], G) ∧ Pre H G ∧ Own G r1 β1 H.length 1 q.1.length (cs .i64 q.1) ∧ Own G r2 β2 H.length 2 q.1.length (mvsC q.2) ∧ ∀ b, β1 = some b → β2 ≠ some b
theorem mcR_len {b c : List (List Int)} {m : Int} : (mcR b c m).2.length = (mcR b c m).1.length := by
  by_cases h : mcC b c m = 0
  · rw [mcR, if_pos h]; exact mcK_len.2
  · rw [mcR, if_neg h]; rfl
theorem two_own {H : Heap} {vs ws : List Value} {e1 e2 n1 n2 : Nat} (h1 : vs.length = n1 * e1) (h2 : ws.length = n2 * e2) :
    Own (H ++ [⟨vs, e1, 0, false⟩, ⟨ws, e2, 0, false⟩]) (slc H.length 0 0 n1 n1) (some H.length) H.length e1 n1 vs ∧ Own (H ++ [⟨vs, e1, 0, false⟩, ⟨ws, e2, 0, false⟩]) (slc (H.length + 1) 0 0 n2 n2) (some (H.length + 1)) H.length e2 n2 ws :=
  ⟨⟨h1, Nat.le_refl _, 0, n1, [], rfl, Nat.le_refl _, by simp⟩, ⟨h2, by omega, 0, n2, [], rfl, Nat.le_refl _, by simp⟩⟩
theorem RsM.d {b c : List (List Int)} {m : Int} {H : Heap} {r : Value × Heap} (h : RsM H r (mcR b c m) (mcC b c m)) : RsD H r (mcR b c m) (mcC b c m) := by
  rcases h with ⟨hc, rfl⟩ | ⟨hc, rfl⟩
  · refine ⟨_, _, H, none, none, rfl, .refl, ?_, ?_, by intro b h; cases h⟩
    · rw [mcR, if_neg hc]; exact own_nil
    · rw [mcR, if_neg hc]; exact own_nil
  · obtain ⟨o1, o2⟩ := two_own (H := H) (vs := cs .i64 (mcR b c m).1) (ws := mvsC (mcR b c m).2) (e1 := 1) (e2 := 2) (n1 := (mcR b c m).1.length) (n2 := (mcR b c m).1.length) (by simp) (by rw [mvsC_length, mcR_len])
    exact ⟨_, _, _, _, _, rfl, ⟨_, rfl⟩, o1, o2, by intro b h; cases h; simp⟩
structure Ly where
  f : List Int
  x : Int
  y : Int
  d : Int
instance : Inhabited Ly := ⟨⟨[], 0, 0, 0⟩⟩
structure LyW (s : Ly) : Prop where
  len : s.f.length = 24
  ok : ∀ n ∈ s.f, u16' n
  x : i8 s.x
  y : i8 s.y
  d : i8 s.d
def lyT (f : List Int) (a b c : Value) : List Value := cs .u16 f ++ [a, b, c]
def lyC (s : Ly) : List Value := lyT s.f (.int .i8 s.x) (.int .i8 s.y) (.int .i8 s.d)
def scC (l : List Ly) : List Value := rowsC lyC l
abbrev ScW (l : List Ly) : Prop := ∀ s ∈ l, LyW s
theorem lyT_len {f : List Int} {a b c : Value} (h : f.length = 24) : (lyT f a b c).length = 27 := by simp [lyT, h]
theorem lyC_len {s : Ly} (h : LyW s) : (lyC s).length = 27 := lyT_len h.len
theorem scC_elem {l : List Ly} (h : ScW l) {i : Nat} (hi : i < l.length) : elem (scC l) 27 i = lyC (at0 l i) := rows_elem (f := lyC) (esz := 27) (fun s hs => lyC_len (h s hs)) hi
theorem lyT_at {f : List Int} {a b c : Value} (h : f.length = 24) {k : Nat} : (lyT f a b c).drop (24 + k) = [a, b, c].drop k := by
  unfold lyT
  rw [show 24 + k = (cs .u16 f).length + k by simp [h], List.drop_length_add_append]
abbrev Sc (H : Heap) (x : Value) (l : List Ly) : Prop := SlR H x 27 l.length (scC l)
def inkL (s : Ly) : List Int := sub s.f 0 12
def mskL (s : Ly) : List Int := sub s.f 12 12
theorem LyW.ink {s : Ly} (h : LyW s) : FrW (inkL s) := ⟨sub_length (by rw [h.len]; omega), fun n hn => h.ok n (sub_mem hn)⟩
theorem LyW.msk {s : Ly} (h : LyW s) : FrW (mskL s) := ⟨sub_length (by rw [h.len]; omega), fun n hn => h.ok n (sub_mem hn)⟩
def okCel (s : Ly) : Bool := (okF (inkL s) && okF (mskL s)) && decide (mixF lessI (inkL s) (mskL s) = zr 12 0)
def okLy (s : Ly) : Bool := ((okCel s && in1 s.x (-12) 12) && in1 s.y (-12) 12) && in1 s.d 0 8
/- The spec's side, in memory. -/
theorem lyC_parts {s : Ly} (h : s.f.length = 24) : ((lyC s).drop 0).take 12 = cs .u16 (inkL s) ∧ ((lyC s).drop 12).take 12 = cs .u16 (mskL s) ∧ ((lyC s).drop 24).take 1 = [.int .i8 s.x] ∧ ((lyC s).drop 25).take 1 = [.int .i8 s.y] ∧ ((lyC s).drop 26).take 1 = [.int .i8 s.d] := by
  refine ⟨?_, ?_, ?_, ?_, ?_⟩
  · unfold lyC lyT inkL
    rw [List.drop_zero, List.take_append_of_le_length (by simp [h]), show (cs .u16 s.f).take 12 = ((cs .u16 s.f).drop 0).take 12 by simp, cs_sub]
  · unfold lyC lyT mskL
    rw [List.drop_append_of_le_length (by simp [h]), List.take_append_of_le_length (by simp [h]), cs_sub]
  · unfold lyC
    rw [show 24 = 24 + 0 from rfl, lyT_at h]; rfl
  · unfold lyC
    rw [show 25 = 24 + 1 from rfl, lyT_at h]; rfl
  · unfold lyC
    rw [show 26 = 24 + 2 from rfl, lyT_at h]; rfl
/-- A layer in memory. -/
structure LyR (H : Heap) (q off ver : Nat) (s : Ly) : Prop where
  ink : rd H q off ver 12 = some (cs .u16 (inkL s))
  msk : rd H q (off + 12) ver 12 = some (cs .u16 (mskL s))
  x : rd H q (off + 24) ver 1 = some [.int .i8 s.x]
  y : rd H q (off + 25) ver 1 = some [.int .i8 s.y]
  d : rd H q (off + 26) ver 1 = some [.int .i8 s.d]
theorem LyR.of {H : Heap} {q off ver : Nat} {s : Ly} (h : rd H q off ver 27 = some (lyC s)) (hf : s.f.length = 24) : LyR H q off ver s := by
  obtain ⟨h1, h2, h3, h4, h5⟩ := lyC_parts hf
  have g1 := rd_part h (o := 0) (m := 12) (by omega)
  rw [h1, Nat.add_zero] at g1
  exact ⟨g1, by rw [rd_part h (by omega), h2], by rw [rd_part h (by omega), h3], by rw [rd_part h (by omega), h4], by rw [rd_part h (by omega), h5]⟩
theorem LyR.pre {H G : Heap} {q off ver : Nat} {s : Ly} (p : Pre H G) (h : LyR H q off ver s) : LyR G q off ver s := ⟨p.rd h.ink, p.rd h.msk, p.rd h.x, p.rd h.y, p.rd h.d⟩
theorem Sc.get {H : Heap} {x : Value} {l : List Ly} (hs : Sc H x l) (hw : ScW l) {i : Nat} (hi : i < l.length) : ∃ q off ver, idxAV 27 x (.int .i64 (i : Int)) = some (adr q off ver) ∧ rd H q off ver 27 = some (lyC (at0 l i)) ∧ LyR H q off ver (at0 l i) := by
  obtain ⟨q, off, ver, h1, h2⟩ := SlR.get1 hs hi
  rw [scC_elem hw hi] at h2
  exact ⟨q, off, ver, h1, h2, LyR.of h2 (hw _ (at0_mem hi)).len⟩
end Fb
