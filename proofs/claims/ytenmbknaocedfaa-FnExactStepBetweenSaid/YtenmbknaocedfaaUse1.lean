/- What each function computes. -/
import Derived.Test.YtenmbknaocedfaaUse0
set_option linter.unusedVariables false
set_option linter.unusedSimpArgs false
namespace Fb
open Go
theorem call388 {pu : Bool} {H : Heap} {f g : List Int} {q off ver q' off' ver' : Nat} {base : Int} (hw : FrW f) (hk : okF f = true) (hwg : FrW g) (hr : rd H q off ver 12 = some (cs .u16 f)) (hr' : rd H q' off' ver' 12 = some (cs .u16 g)) (hb : 0 ≤ base ∧ base ≤ 39) :
    ∃ r, Call tab pu 388 [adr q off ver, adr q' off' ver', .int .i64 base] H = some r ∧ RsS H r (outB f g base 25) := by
  refine Call_ex t388 (.inr rfl) rfl ?_
  obtain ⟨L, hL⟩ : ∃ L, L = chgL f g 12 := ⟨_, rfl⟩
  have hL12 : L.length ≤ 12 := by rw [hL]; exact chgL_len
  have h525 := call525 (pu := true) hw hwg hr hr'
  rw [← hL] at h525
  obtain ⟨G1, hG1⟩ : ∃ G1, G1 = H ++ [(⟨chsC L, 2, 0, false⟩ : Blk)] := ⟨_, rfl⟩
  obtain ⟨y, hy⟩ : ∃ y, y = slc H.length 0 0 L.length L.length := ⟨_, rfl⟩
  rw [← hy, ← hG1] at h525
  have c1 : IntKind.wrap .i8 base = base := wrap8 (by omega)
  have hfa : fill [.int .i8 0, .int .i8 0, .int .i8 0, .int .i8 0, .slice none 0 0] [(0, 1, .int .i8 1), (1, 1, .int .i8 base), (4, 1, y)] = some [.int .i8 1, .int .i8 base, .int .i8 0, .int .i8 0, y] := by rw [hy]; rfl
  obtain ⟨G2, hG2⟩ : ∃ G2, G2 = G1 ++ [(⟨stC ⟨1, base, 0, 0, L⟩ y, 1, 0, false⟩ : Blk)] := ⟨_, rfl⟩
  have p1 : Pre H G1 := by rw [hG1]; exact Pre.one
  have hwr : wr H.length false (G1 ++ [⟨[.int .i8 0, .int .i8 0, .int .i8 0, .int .i8 0, .slice none 0 0], 1, 0, false⟩]) G1.length 0 0 [.int .i8 1, .int .i8 base, .int .i8 0, .int .i8 0, y] = some G2 := by
    rw [wr_at get_last rfl rfl (by simp [may]; exact p1.len) (by simp), hG2]
    simp [splice, stC]
  have hlt : H.length < G1.length := by rw [hG1]; simp
  have S0 : StO H G2 G1.length ⟨1, base, 0, 0, L⟩ y := by
    refine ⟨p1.trans (by rw [hG2]; exact Pre.one), p1.len, by rw [hG2]; exact get_last, H.length, hy, Nat.le_refl _, by omega, ?_⟩
    rw [hG2, List.getElem?_append_left hlt, hG1]; exact get_last
  rw [hL] at S0
  simp [c388, k388, h525, c1, hfa, hwr, wbOf]
  refine WK_loop (fun i e G => e 0 = adr q off ver ∧ e 1 = adr q' off' ver' ∧ e 2 = .int .i64 base ∧ e 7 = adr G1.length 0 0 ∧ e 8 = .int .i64 ((i : Int) - 12) ∧ ∃ y, StO H G G1.length (outB f g base i) y) 25 ?_ (Nat.zero_le _) ⟨by simp, by simp, by simp, by simp, by simp, y, by rw [outB_zero]; exact S0⟩
  rintro i e G hfr hi ⟨h0, h1, h2, h7, h8, y, hS⟩
  have h6 := hfr 6 (by decide)
  simp at h6
  have hok := outB_ok (f := f) (g := g) (base := base) (k := i)
  have h310 := cost310 (pu := true) hS.rd hS.rw ⟨hok.1, hok.2.1⟩ (by have := hok.2.2; omega)
  have hend : outB f g base i = outB f g base 25 → GrN H G y 2 (outB f g base 25).rows.length (chsC (outB f g base 25).rows) ∧ old0 H.length y = false := fun he => by
    obtain ⟨b, e1, e2, _, e4⟩ := hS.row
    rw [← he]
    refine ⟨.inl ⟨b, 0, e1, e4, e2, chsC_length, hS.pre⟩, ?_⟩
    rw [e1, old0_slc]; simp; omega
  have hexit : outB f g base i = outB f g base 25 → ∃ a b, finish H.length G [agg (stC (outB f g base i) y)] = (a, b) ∧ RsS H (a, b) (outB f g base 25) := fun he => by
    obtain ⟨e1, e2⟩ := hend he
    rw [he]
    rw [finish_keep (n0 := H.length) (G := G) (l := stC (outB f g base 25) y) (by simp [stC, e2])]
    exact ⟨_, _, rfl, y, G, rfl, hS.pre, e1⟩
  by_cases hi25 : i = 25
  · subst hi25
    obtain ⟨a, b, e1, e2⟩ := hexit rfl
    have hrd := hS.rd
    simp only [stC] at hrd e1
    simp [b388_2, h7, h8, skip, h6, hrd, stc5, ldc5, e1]
    exact ⟨_, _, ⟨rfl, rfl⟩, e2⟩
  · have hi24 : (i : Int) - 12 ≤ 12 := by omega
    have e9 : IntKind.wrap .i64 ((i : Int) - 12 + 1) = ((i + 1 : Nat) : Int) - 12 := by rw [wrap64 (by omega)]; omega
    by_cases hst : stCost (outB f g base i) ≤ 4
    · obtain ⟨a, b, e1, e2⟩ := hexit (outB_stop hst hi).symm
      have hrd := hS.rd
      simp only [stC] at hrd e1
      have hst' : ¬ 4 < stCost (outB f g base i) := by omega
      simp [b388_2, h7, h8, hi24, h310, hst', h6, hrd, stc5, ldc5, e1]
      exact ⟨_, _, ⟨rfl, rfl⟩, e2⟩
    · have hst' : 4 < stCost (outB f g base i) := by omega
      simp [b388_2, h7, h8, hi24, h310, hst']
      refine inner388 (s := outB f g base i) (dx := (i : Int) - 12) (P := G1.length) hw hk hwg hr hr' hb ⟨by omega, by omega⟩ hok (by simp [h0]) (by simp [h1]) (by simp [h2]) (by simp [h7]) (by simp [h8]) (by simp) hS fun e' G' y' q0 q1 q2 q7 q8 hS' => ?_
      rw [← outB_succ] at hS'
      simp [q0, q1, q2, q7, q8, e9]
      exact ⟨by omega, y', hS'⟩
theorem GrN.app {H G G' : Heap} {x : Value} {esz n : Nat} {vs : List Value} (g : GrN H G x esz n vs) (p : Pre G G') : GrN H G' x esz n vs := by
  rcases g with g | ⟨e1, e2, e3, q⟩
  · obtain ⟨L, rfl⟩ := p
    exact .inl g.app
  · exact .inr ⟨e1, e2, e3, q.trans p⟩
theorem GrN.low {H G G' : Heap} {x : Value} {esz n : Nat} {vs : List Value} (g : GrN G G' x esz n vs) (p : Pre H G) : GrN H G' x esz n vs := by
  rcases g with ⟨b, ver, e1, e2, e3, e4, q⟩ | ⟨e1, e2, e3, q⟩
  · exact .inl ⟨b, ver, e1, e2, Nat.le_trans p.len e3, e4, p.trans q⟩
  · exact .inr ⟨e1, e2, e3, p.trans q⟩
theorem inner389 {H G : Heap} {f g : List Int} {base dx : Int} {s : Sted} {y : Value} (hw : FrW f) (hk : okF f = true) (hwg : FrW g)
    (hb : 0 ≤ base ∧ base ≤ 39) (hdx : -12 ≤ dx ∧ dx ≤ 12) (hs : okS s) {fs : List Fr} {Q : Ex → Env → Heap → Prop} {e : Env}
    (h3 : e 3 = iv .u16 f) (h4 : e 4 = iv .u16 g) (h2 : e 2 = .int .i64 base) (h7 : e 7 = agg (stC s y)) (h8 : e 8 = .int .i64 dx) (h9 : e 9 = .int .i64 (-12)) (hS : GrN H G y 2 s.rows.length (chsC s.rows))
    (hq : ∀ e' G' y', e' 3 = iv .u16 f → e' 4 = iv .u16 g → e' 2 = .int .i64 base → e' 8 = .int .i64 dx → e' 7 = agg (stC (inB f g base dx s 25) y') → GrN H G' y' 2 (inB f g base dx s 25).rows.length (chsC (inB f g base dx s 25).rows) → KK tab H.length false (.exit 2) fs e' G' Q) : WK tab H.length false (.loop b389_1) fs e G Q := by
  refine WK_loop (fun j e G => e 3 = iv .u16 f ∧ e 4 = iv .u16 g ∧ e 2 = .int .i64 base ∧ e 8 = .int .i64 dx ∧ e 9 = .int .i64 ((j : Int) - 12) ∧ ∃ y, e 7 = agg (stC (inB f g base dx s j) y) ∧ GrN H G y 2 (inB f g base dx s j).rows.length (chsC (inB f g base dx s j).rows)) 25 ?_ (Nat.zero_le _) ⟨h3, h4, h2, h8, by rw [h9]; rfl, y, by rw [inB_zero]; exact h7, by rw [inB_zero]; exact hS⟩
  rintro j e G _ hj ⟨h3, h4, h2, h8, h9, y, h7, hS⟩
  by_cases hj25 : j = 25
  · subst hj25
    simp [b389_1, h9]
    exact hq _ _ y (by simp [h3]) (by simp [h4]) (by simp [h2]) (by simp [h8]) (by simp [h7]) hS
  have hle : (j : Int) - 12 ≤ 12 := by omega
  have e9 : IntKind.wrap .i64 ((j : Int) - 12 + 1) = ((j + 1 : Nat) : Int) - 12 := by rw [wrap64 (by omega)]; omega
  have hsucc := inB_succ (f := f) (g := g) (base := base) (dx := dx) (s := s) (k := j)
  have hok := inB_ok (f := f) (g := g) (base := base) (dx := dx) (k := j) hs
  generalize inB f g base dx s j = t at *
  cases hz : (dx == 0 && (j : Int) - 12 == 0) with
  | true =>
    rw [stepB, if_pos hz] at hsucc
    rw [Bool.and_eq_true] at hz
    have z1 := eq_of_beq hz.1
    have z2 := eq_of_beq hz.2
    obtain rfl : j = 12 := by omega
    subst z1
    have h9' : e 9 = .int .i64 0 := by rw [h9]; rfl
    rw [show 12 + 1 = 13 from rfl] at hsucc
    simp [b389_1, h3, h4, h2, h7, h8, h9']
    rw [hsucc]
    exact ⟨y, rfl, hS⟩
  | false =>
    rw [stepB, if_neg (by rw [hz]; decide)] at hsucc
    obtain ⟨F, hF⟩ : ∃ F, F = shF f dx ((j : Int) - 12) := ⟨_, rfl⟩
    have hFW : FrW F := by rw [hF]; exact dotsF_W
    have h358 := call358 (pu := true) (H := G) (dx := dx) (dy := (j : Int) - 12) hw hk (by omega) (by omega)
    rw [← hF] at h358 hsucc
    have h528 := call528 (pu := true) (H := G) hFW.len hwg.len
    obtain ⟨L, hL⟩ : ∃ L, L = chgL F g 12 := ⟨_, rfl⟩
    have hL12 : L.length ≤ 12 := by rw [hL]; exact chgL_len
    have h312 := cost312 (pu := true) (H := G) (s := t) hS.sl ⟨hok.1, hok.2.1⟩ (by have := hok.2.2; omega)
    obtain ⟨_, h527, y', G', rfl, hY⟩ := call527 (pu := true) (H := G) (a := 2) (b := base) (c := dx) (d := (j : Int) - 12) (y0 := .slice none 0 0) hFW hwg
    rw [← hL] at hsucc h528 hY
    have w3 : IntKind.wrap .i64 (3 * (L.length : Int)) = 3 * (L.length : Int) := wrap64 (by omega)
    have w4 : IntKind.wrap .i64 (3 * (L.length : Int) + 4) = 4 + 3 * (L.length : Int) := by rw [wrap64 (by omega)]; omega
    have c1 : IntKind.wrap .i8 base = base := wrap8 (by omega)
    have c2 : IntKind.wrap .i8 dx = dx := wrap8 (by omega)
    have c3 : IntKind.wrap .i8 ((j : Int) - 12) = (j : Int) - 12 := wrap8 (by omega)
    have hz12 := stc_zr (k := .u16) (n := 12) (l := F) hFW.len
    have hfa : fill [.int .i8 0, .int .i8 0, .int .i8 0, .int .i8 0, .slice none 0 0] [(0, 1, .int .i8 2), (1, 1, .int .i8 base), (2, 1, .int .i8 dx), (3, 1, .int .i8 ((j : Int) - 12))] = some [.int .i8 2, .int .i8 base, .int .i8 dx, .int .i8 ((j : Int) - 12), .slice none 0 0] := rfl
    simp only [stC] at h7 h312
    by_cases hc : 4 + 3 * (L.length : Int) < stCost t
    · rw [if_pos hc] at hsucc
      have hY' := hY.low hS.pre
      cases hx0 : dx == 0 with
      | true =>
        have hj0 : ((j : Int) - 12 == 0) = false := by rw [hx0] at hz; simpa using hz
        simp [b389_1, h3, h4, h2, h7, h8, h9, hle, hx0, hj0, hw.len, hwg.len, h358, zs_cs, agg_cs, hz12, hFW.len, h528, w3, w4, ldc5, h312, hc, c1, c2, c3, hfa, h527, stc5, e9]
        rw [hsucc]
        exact ⟨by omega, y', rfl, hY'⟩
      | false =>
        simp [b389_1, h3, h4, h2, h7, h8, h9, hle, hx0, skip, hw.len, hwg.len, h358, zs_cs, agg_cs, hz12, hFW.len, h528, w3, w4, ldc5, h312, hc, c1, c2, c3, hfa, h527, stc5, e9]
        rw [hsucc]
        exact ⟨by omega, y', rfl, hY'⟩
    · rw [if_neg hc] at hsucc
      cases hx0 : dx == 0 with
      | true =>
        have hj0 : ((j : Int) - 12 == 0) = false := by rw [hx0] at hz; simpa using hz
        simp [b389_1, h3, h4, h2, h7, h8, h9, hle, hx0, hj0, hw.len, hwg.len, h358, zs_cs, agg_cs, hz12, hFW.len, h528, w3, w4, ldc5, h312, hc, e9]
        rw [hsucc]
        exact ⟨by omega, y, rfl, hS⟩
      | false =>
        simp [b389_1, h3, h4, h2, h7, h8, h9, hle, hx0, skip, hw.len, hwg.len, h358, zs_cs, agg_cs, hz12, hFW.len, h528, w3, w4, ldc5, h312, hc, e9]
        rw [hsucc]
        exact ⟨by omega, y, rfl, hS⟩
theorem fin_step {H G : Heap} {s : Sted} {y : Value} {n : Nat} {vs : List Value} (hy : GrN H G y 2 n vs) : ∃ G', finish H.length G [agg (stC s y)] = (agg (stC s y), G') ∧ GrN H G' y 2 n vs := by
  rcases hy with hy | ⟨rfl, e1, e2, p⟩
  · have ho : old0 H.length y = false := by
      obtain ⟨b, ver, rfl, _, h, _⟩ := hy
      rw [old0_slc]; simp; omega
    exact ⟨G, finish_keep (n0 := H.length) (G := G) (l := stC s y) (by simp [stC, ho]), .inl hy⟩
  · have hfin : finish H.length G [agg (stC s (.slice none 0 0))] = (agg (stC s (.slice none 0 0)), G.take H.length) := fin_agg rfl
    rw [p.take] at hfin
    exact ⟨H, hfin, .inr ⟨rfl, e1, e2, .refl⟩⟩
theorem call389 {pu : Bool} {H : Heap} {f g : List Int} {base : Int} (hw : FrW f) (hk : okF f = true) (hwg : FrW g) (hb : 0 ≤ base ∧ base ≤ 39) :
    ∃ r, Call tab pu 389 [iv .u16 f, iv .u16 g, .int .i64 base] H = some r ∧ RsS H r (outB f g base 25) := by
  refine Call_ex t389 (.inr rfl) rfl ?_
  obtain ⟨_, h527, y', G', rfl, hY⟩ := call527 (pu := true) (H := H) (a := 1) (b := base) (c := 0) (d := 0) (y0 := .slice none 0 0) hw hwg
  have c1 : IntKind.wrap .i8 base = base := wrap8 (by omega)
  have hfa : fill [.int .i8 0, .int .i8 0, .int .i8 0, .int .i8 0, .slice none 0 0] [(0, 1, .int .i8 1), (1, 1, .int .i8 base)] = some [.int .i8 1, .int .i8 base, .int .i8 0, .int .i8 0, .slice none 0 0] := rfl
  simp [c389, k389, hw.len, hwg.len, c1, hfa, h527, stc5]
  refine WK_loop (fun i e G => e 3 = iv .u16 f ∧ e 4 = iv .u16 g ∧ e 2 = .int .i64 base ∧ e 8 = .int .i64 ((i : Int) - 12) ∧ ∃ y, e 7 = agg (stC (outB f g base i) y) ∧ GrN H G y 2 (outB f g base i).rows.length (chsC (outB f g base i).rows)) 25 ?_ (Nat.zero_le _) ⟨by simp, by simp, by simp, by simp, y', by simp [outB_zero, stC], by rw [outB_zero]; exact hY⟩
  rintro i e G hfr hi ⟨h3, h4, h2, h8, y, h7, hS⟩
  have h6 := hfr 6 (by decide)
  simp at h6
  have hok := outB_ok (f := f) (g := g) (base := base) (k := i)
  by_cases hi25 : i = 25
  · subst hi25
    obtain ⟨G2, e1, e2⟩ := fin_step (s := outB f g base 25) hS
    simp only [stC] at h7 e1
    simp [b389_2, h7, h8, h6, stc5, ldc5, e1]
    exact ⟨_, _, ⟨rfl, rfl⟩, y, G2, rfl, e2.pre, e2⟩
  · have hi24 : (i : Int) - 12 ≤ 12 := by omega
    have e9 : IntKind.wrap .i64 ((i : Int) - 12 + 1) = ((i + 1 : Nat) : Int) - 12 := by rw [wrap64 (by omega)]; omega
    simp [b389_2, h7, h8, hi24]
    refine inner389 (s := outB f g base i) (dx := (i : Int) - 12) hw hk hwg hb ⟨by omega, by omega⟩ hok (by simp [h3]) (by simp [h4]) (by simp [h2]) (by simp [h7]) (by simp [h8]) (by simp) hS fun e' G' y' q3 q4 q2 q8 q7 hS' => ?_
    rw [← outB_succ] at hS' q7
    simp [q3, q4, q2, q8, q7, e9]
    exact ⟨by omega, y', rfl, hS'⟩
def stZ : Sted := ⟨0, 0, 0, 0, []⟩
theorem fin_step2 {H G : Heap} {s : Sted} {y : Value} {n : Nat} {vs : List Value} {c : Int} (hy : GrN H G y 2 n vs) : ∃ G', finish H.length G [agg (stC s y), .int .i64 c] = (tup [agg (stC s y), .int .i64 c], G') ∧ GrN H G' y 2 n vs := by
  rcases hy with hy | ⟨rfl, e1, e2, p⟩
  · have ho : old0 H.length y = false := by
      obtain ⟨b, ver, rfl, _, h, _⟩ := hy
      rw [old0_slc]; simp; omega
    have h1 : old1 H.length (agg (stC s y)) = false := by
      show (stC s y).toArray.toList.all (old0 H.length) = false
      simp [stC, ho]
    have : pack H.length G [agg (stC s y), .int .i64 c] [] [] = none := by
      rw [pack, if_neg (by rw [h1]; decide)]; rfl
    exact ⟨G, by unfold finish; rw [this]; rfl, .inl hy⟩
  · have hfin : finish H.length G [agg (stC s (.slice none 0 0)), .int .i64 c] = (tup [agg (stC s (.slice none 0 0)), .int .i64 c], G.take H.length) := finish_vs (by
      have h1 : old1 H.length (agg (stC s (.slice none 0 0))) = true := by
        show (stC s (.slice none 0 0)).toArray.toList.all (old0 H.length) = true
        simp [stC]; rfl
      simp [h1])
    rw [p.take] at hfin
    exact ⟨H, hfin, .inr ⟨rfl, e1, e2, .refl⟩⟩
/-- What StepBetween hands back. -/
def RsB (H : Heap) (r : Value × Heap) (s : Sted) (c : Int) : Prop := ∃ y G, r = (tup [agg (stC s y), .int .i64 c], G) ∧ GrN H G y 2 s.rows.length (chsC s.rows)
def betS (f g : List Int) (base : Int) : Sted := if okF f = true then if okF g = true then if in1 base 0 39 = true then outB f g base 25 else stZ else stZ else stZ
def betC (f g : List Int) (base : Int) : Int := if okF f = true then if okF g = true then if in1 base 0 39 = true then 0 else 2 else 1 else 1
theorem stZ_fin {H G : Heap} {c : Int} (p : Pre H G) : ∃ G', finish H.length G [agg [.int .i8 0, .int .i8 0, .int .i8 0, .int .i8 0, .slice none 0 0], .int .i64 c] = (tup [agg [.int .i8 0, .int .i8 0, .int .i8 0, .int .i8 0, .slice none 0 0], .int .i64 c], G') ∧ GrN H G' (.slice none 0 0) 2 stZ.rows.length (chsC stZ.rows) :=
  fin_step2 (s := stZ) (y := .slice none 0 0) (.inr ⟨rfl, rfl, rfl, p⟩)
theorem call165 {pu : Bool} {H : Heap} {f g : List Int} {base : Int} (hw : FrW f) (hwg : FrW g) : ∃ r, Call tab pu 165 [iv .u16 f, iv .u16 g, .int .i64 base] H = some r ∧ RsB H r (betS f g base) (betC f g base) := by
  refine Call_ex t165 (.inr rfl) rfl ?_
  have hfl : fill (rep 2 (cs .u16 (zr 12 0))) [(0, 12, iv .u16 f), (12, 12, iv .u16 g)] = some (bkC [f, g]) := by
    have l1 : (cs .u16 f).length = 12 := by simp [hw.len]
    have l2 : (cs .u16 g).length = 12 := by simp [hwg.len]
    have lz : (cs .u16 (zr 12 0)).length = 12 := by simp
    have e0 : rep 2 (cs .u16 (zr 12 0)) = cs .u16 (zr 12 0) ++ cs .u16 (zr 12 0) := by simp [rep]
    rw [e0]
    generalize cs IntKind.u16 (zr 12 0) = Z at *
    show (if (cs .u16 f).length = 12 ∧ 0 + 12 ≤ (Z ++ Z).length then fill (splice (Z ++ Z) 0 (cs .u16 f)) [(12, 12, iv .u16 g)] else none) = _
    rw [if_pos ⟨l1, by simp [lz]⟩]
    have e1 : splice (Z ++ Z) 0 (cs .u16 f) = cs .u16 f ++ Z := by
      unfold splice
      rw [l1, List.take_zero, List.nil_append, List.drop_append_of_le_length (by omega), List.drop_eq_nil_of_le (by omega), List.nil_append]
    rw [e1]
    show (if (cs .u16 g).length = 12 ∧ 12 + 12 ≤ (cs .u16 f ++ Z).length then fill (splice (cs .u16 f ++ Z) 12 (cs .u16 g)) [] else none) = _
    rw [if_pos ⟨l2, by simp [lz, hw.len]⟩]
    have e2 : splice (cs .u16 f ++ Z) 12 (cs .u16 g) = cs .u16 f ++ cs .u16 g := by
      unfold splice
      rw [l2, List.take_append_of_le_length (by omega), List.take_of_length_le (by omega), List.drop_eq_nil_of_le (by simp [lz, hw.len]), List.append_nil]
    rw [e2]
    simp [fill, bkC, rowsC, frC]
  obtain ⟨G, hG⟩ : ∃ G, G = H ++ [(⟨bkC [f, g], 12, 0, false⟩ : Blk)] := ⟨_, rfl⟩
  have hP : Pre H G := by rw [hG]; exact Pre.one
  have hBW : BkW [f, g] := by
    intro x hx
    rcases List.mem_cons.1 hx with rfl | hx
    · exact hw
    · rcases List.mem_cons.1 hx with rfl | hx
      · exact hwg
      · cases hx
  have hbk : Bk G (slc H.length 0 0 2 2) [f, g] := by
    rw [hG]
    exact (own_new (H := H) (esz := 12) (n := 2) (vs := bkC [f, g]) (by rw [bkC_length hBW]; rfl)).sl
  have hc := call351 (pu := true) hbk hBW (by simp)
  have hok : okFs [f, g] = (okF f && okF g) := by simp [okFs]
  rw [hok] at hc
  simp [c165, k165, hw.len, hwg.len, zs_cs, hfl, ← hG, hc]
  cases k1 : okF f with
  | false =>
    obtain ⟨G', e1, e2⟩ := stZ_fin (c := 1) hP
    simp [stc5, fill, ldc5, e1]
    exact ⟨_, _, ⟨rfl, rfl⟩, .slice none 0 0, G', by simp [betS, betC, k1, stZ, stC], by simp [betS, k1]; exact e2⟩
  | true =>
    cases k2 : okF g with
    | false =>
      obtain ⟨G', e1, e2⟩ := stZ_fin (c := 1) hP
      simp [stc5, fill, ldc5, e1]
      exact ⟨_, _, ⟨rfl, rfl⟩, .slice none 0 0, G', by simp [betS, betC, k1, k2, stZ, stC], by simp [betS, k1, k2]; exact e2⟩
    | true =>
      cases k3 : in1 base 0 39 with
      | false =>
        obtain ⟨G', e1, e2⟩ := stZ_fin (c := 2) hP
        simp [in295, k3, stc5, fill, ldc5, e1]
        exact ⟨_, _, ⟨rfl, rfl⟩, .slice none 0 0, G', by simp [betS, betC, k1, k2, k3, stZ, stC], by simp [betS, k1, k2, k3]; exact e2⟩
      | true =>
        obtain ⟨_, hc2, y, G', rfl, hP', hY⟩ := call389 (pu := true) (H := G) (base := base) hw k1 hwg (by simpa [in1] using k3)
        obtain ⟨G2, e1, e2⟩ := fin_step2 (s := outB f g base 25) (c := 0) (hY.low hP)
        simp only [stC] at hc2 e1
        simp [in295, k3, hw.len, hwg.len, hc2, stc5, ldc5, e1]
        exact ⟨_, _, ⟨rfl, rfl⟩, y, G2, by simp [betS, betC, k1, k2, k3, stC], by simp [betS, k1, k2, k3]; exact e2⟩
theorem call164 {pu : Bool} {H : Heap} {f g : List Int} {base : Int} (hw : FrW f) (hwg : FrW g) : ∃ r, Call tab pu 164 [iv .u16 f, iv .u16 g, .int .i64 base] H = some r ∧ RsB H r (betS f g base) (betC f g base) := by
  refine Call_ex t164 (.inr rfl) rfl ?_
  obtain ⟨G, hG⟩ : ∃ G, G = H ++ [(⟨cs .u16 f, 1, 0, false⟩ : Blk), ⟨cs .u16 g, 1, 0, false⟩] := ⟨_, rfl⟩
  have hGG : G = H ++ [(⟨cs .u16 f, 1, 0, false⟩ : Blk)] ++ [⟨cs .u16 g, 1, 0, false⟩] := by rw [hG]; simp
  have hP : Pre H G := by rw [hGG]; exact Pre.one.app
  have r1 : rd G H.length 0 0 12 = some (cs .u16 f) := by rw [hGG]; exact rd_app (rd_last rfl (by simp [hw.len]))
  have r2 : rd G (H.length + 1) 0 0 12 = some (cs .u16 g) := by
    have := rd_last (H := H ++ [(⟨cs .u16 f, 1, 0, false⟩ : Blk)]) (b := ⟨cs .u16 g, 1, 0, false⟩) (n := 12) rfl (by simp [hwg.len])
    rw [← hGG, List.length_append] at this
    exact this
  have c1 := call359 (pu := true) hw.len r1
  have c2 := call359 (pu := true) hwg.len r2
  simp [c164, k164, hw.len, hwg.len, ← hG, c1, c2]
  cases k1 : okF f with
  | false =>
    obtain ⟨G', e1, e2⟩ := stZ_fin (c := 1) hP
    simp [stc5, fill, ldc5, skip, e1]
    exact ⟨_, _, ⟨rfl, rfl⟩, .slice none 0 0, G', by simp [betS, betC, k1, stZ, stC], by simp [betS, k1]; exact e2⟩
  | true =>
    cases k2 : okF g with
    | false =>
      obtain ⟨G', e1, e2⟩ := stZ_fin (c := 1) hP
      simp [c2, k2, stc5, fill, ldc5, e1]
      exact ⟨_, _, ⟨rfl, rfl⟩, .slice none 0 0, G', by simp [betS, betC, k1, k2, stZ, stC], by simp [betS, k1, k2]; exact e2⟩
    | true =>
      cases k3 : in1 base 0 39 with
      | false =>
        obtain ⟨G', e1, e2⟩ := stZ_fin (c := 2) hP
        simp [c2, k2, in304, k3, stc5, fill, ldc5, e1]
        exact ⟨_, _, ⟨rfl, rfl⟩, .slice none 0 0, G', by simp [betS, betC, k1, k2, k3, stZ, stC], by simp [betS, k1, k2, k3]; exact e2⟩
      | true =>
        obtain ⟨_, hc2, y, G', rfl, hP', hY⟩ := call388 (pu := true) (H := G) (base := base) hw k1 hwg r1 r2 (by simpa [in1] using k3)
        obtain ⟨G2, e1, e2⟩ := fin_step2 (s := outB f g base 25) (c := 0) (hY.low hP)
        simp only [stC] at hc2 e1
        simp [c2, k2, in304, k3, hc2, stc5, ldc5, e1]
        exact ⟨_, _, ⟨rfl, rfl⟩, y, G2, by simp [betS, betC, k1, k2, k3, stC], by simp [betS, k1, k2, k3]; exact e2⟩
theorem mk391 : MkF 391 2 2 ms2 := by
  intro G r β n0 n vs c ho hn hc0 hc1
  cases β with
  | none =>
    obtain ⟨hl, rfl, rfl⟩ := ho
    refine ⟨G, Call_wp t391 (.inl rfl) rfl ?_, .refl, by simp [mkL], rfl, rfl⟩
    simp [c391, k391]
    refine WP_forH 5 0 0 rfl (by omega) (fun i e => e 0 = .slice none 0 0 ∧ e 1 = .int .i64 c) ?_ ?_ (by simp) (by simp)
    · intro i e hi; omega
    · rintro e h5 ⟨h0, h1⟩
      simp [b391_1, h5, h0, h1]
  | some b =>
    obtain ⟨hl, hb, ver, cap, rest, rfl, hcap, hg⟩ := ho
    have hD : n * 2 ≤ (vs ++ rest).length := by simp [hl]
    refine ⟨G.set b ⟨mkL (ms2 c) (n * 2) ++ rest, 2, ver, false⟩, Call_wp t391 (.inl rfl) rfl ?_, .set, mkL_length, hb, ver, cap, rest, rfl, hcap, get_set hg⟩
    simp [c391, k391]
    refine WP_count 5 n n rfl (fun i e G' => e 0 = slc b 0 ver n cap ∧ e 1 = .int .i64 (c + (i * 2 : Nat)) ∧ G' = G.set b ⟨mkC (ms2 c) (vs ++ rest) (i * 2), 2, ver, false⟩) (by omega) ?_ ?_ (by simp) ⟨by simp, by simp, by rw [Nat.zero_mul, mkC_zero]; exact (set_self hg).symm⟩
    · rintro i e _ _ hi hii e4 h5 ⟨h0, h1, rfl⟩
      have q0 := mk_wr (n0 := G.length) (ver := ver) (esz := 2) (k := i * 2) (ms := ms2 c) (D := vs ++ rest) ⟨_, hg⟩ (by omega) ms2_flat
      have q1 := mk_wr (n0 := G.length) (ver := ver) (esz := 2) (k := i * 2 + 1) (ms := ms2 c) (D := vs ++ rest) ⟨_, hg⟩ (by omega) ms2_flat
      rw [ms2_a (by omega)] at q0
      rw [ms2_b (by omega)] at q1
      have w1 : IntKind.wrap .i64 (c + (i * 2 : Nat) + 1) = c + (i * 2 + 1 : Nat) := by rw [wrap64 (by omega)]; omega
      have w2 : IntKind.wrap .i64 (c + (i * 2 + 1 : Nat) + 1) = c + ((i + 1) * 2 : Nat) := by rw [wrap64 (by omega)]; omega
      have e6 : (i + 1) * 2 = i * 2 + 1 + 1 := by omega
      simp (disch := decide) [b391_1, h5, h0, h1, hii, at_nat hi, q0, q1, wbOf, w1, w2, e4, e6, -Int.natCast_add, -Int.natCast_mul]
    · rintro e _ _ h5 ⟨h0, h1, rfl⟩
      simp [b391_1, h5, h0, h1, mkC_all hl]
theorem held392 : HdF 392 2 2 ms2 := by
  intro pu G r β n0 n c ho hn hc0 hc1
  have hs := ho.sl
  refine Call_wp t392 (.inr rfl) rfl ?_
  simp [c392, k392]
  refine WP_forH 5 n n rfl (by omega) (fun i e => e 0 = r ∧ e 1 = .int .i64 (c + (i * 2 : Nat))) ?_ ?_ (by simp) (by simp)
  · rintro i e hi hii e4 h5 ⟨h0, h1⟩
    obtain ⟨q, off, ver, ha, hr⟩ := hs.get1 hi
    have hd : ∀ o, o < 2 → rd G q (off + o) ver 1 = some [ms2 c (i * 2 + o)] := fun o ho => by
      rw [rd_part hr (by omega)]
      unfold elem
      rw [List.drop_take, List.take_take, List.drop_drop, Nat.min_eq_left (by omega), mkL_cell (by omega)]
    have d0 := hd 0 (by omega)
    have d1 := hd 1 (by omega)
    rw [ms2_a (by omega)] at d0
    rw [ms2_b (by omega)] at d1
    rw [Nat.add_zero, Nat.add_zero] at d0
    have w1 : IntKind.wrap .i64 (c + (i * 2 : Nat) + 1) = c + (i * 2 + 1 : Nat) := by rw [wrap64 (by omega)]; omega
    have w2 : IntKind.wrap .i64 (c + (i * 2 + 1 : Nat) + 1) = c + ((i + 1) * 2 : Nat) := by rw [wrap64 (by omega)]; omega
    simp (disch := decide) [b392_1, h5, h0, h1, hs.lenV, hii, ha, d0, d1, w1, w2, e4, -Int.natCast_add, -Int.natCast_mul]
  · rintro e h5 ⟨h0, h1⟩
    simp [b392_1, h5, h0, hs.lenV, h1]
theorem GrN.ownB {H G : Heap} {x : Value} {esz n : Nat} {vs : List Value} (g : GrN H G x esz n vs) : ∃ β, Own G x β H.length esz n vs := by
  rcases g with ⟨b, ver, rfl, h1, h2, h3, _⟩ | ⟨rfl, rfl, rfl, _⟩
  · exact ⟨some b, h3, h2, ver, n, [], rfl, Nat.le_refl _, by rw [List.append_nil]; exact h1⟩
  · exact ⟨none, by simp, rfl, rfl⟩
theorem mark167 {G G' : Heap} {s : Sted} {y : Value} {n : Nat} (h : Call tab false 391 [y, .int .i64 101] G = some (.int .i64 n, G')) (hl : G'.length = G.length) : Call tab false 167 [agg (stC s y), .int .i64 101] G = some (.int .i64 n, G') := by
  refine Call_wp t167 (.inl rfl) rfl ?_
  have ht : G'.take G.length = G' := List.take_of_length_le (by omega)
  simp [c167, k167, stC, ldc5e, h, wbOf, ht]
theorem held168 {pu : Bool} {G : Heap} {s : Sted} {y : Value} {n : Nat} (h : Call tab true 392 [y, .int .i64 101] G = some (.int .i64 n, G)) : Call tab pu 168 [agg (stC s y), .int .i64 101] G = some (.int .i64 n, G) := by
  refine Call_wp t168 (.inr rfl) rfl ?_
  have hn : ¬ ((n : Int) < 0) := by omega
  simp [c168, k168, stC, ldc5e, h, hn]
theorem betS_len {f g : List Int} {base : Int} : (betS f g base).rows.length ≤ 12 := by
  unfold betS
  split
  · split
    · split
      · exact outB_ok.2.2
      · simp [stZ]
    · simp [stZ]
  · simp [stZ]
theorem call27 {H : Heap} {f g : List Int} {base : Int} (hw : FrW f) (hwg : FrW g) : ∃ H', Call tab false 27 [iv .u16 f, iv .u16 g, .int .i64 base] H = some (.bool true, H') := by
  refine ⟨H, Call_wp t27 (.inl rfl) rfl ?_⟩
  have hlen := betS_len (f := f) (g := g) (base := base)
  obtain ⟨_, w1, ys, G1, rfl, Y1⟩ := call164 (pu := true) (H := H) (base := base) hw hwg
  obtain ⟨_, w2, yi, G2, rfl, Y2⟩ := call165 (pu := true) (H := G1) (base := base) hw hwg
  have h165 := fun G => call165 (pu := true) (H := G) (base := base) hw hwg
  generalize betS f g base = s at *
  generalize betC f g base = c at *
  obtain ⟨βs, os⟩ := Y1.ownB
  obtain ⟨βi, oi⟩ := Y2.ownB
  have P1 := Y1.pre
  have P2 := P1.trans Y2.pre
  have os2 := os.pre Y2.pre
  have e1 := call166 (pu := true) (s := s) oi.sl os2.sl (by omega)
  obtain ⟨G3, m1, s3, oi3⟩ := mk391 G2 yi βi _ _ _ 101 oi (by omega) (by omega) (by omega)
  have P3 : Pre H G3 := s3.pre P2 fun b hb => Nat.le_trans P1.len (oi.below b hb)
  have os3 := os2.same s3 fun b hb he => by
    subst hb
    have h1 := os.lt
    have h2 := oi.below b he
    omega
  have d1 := held392 true G3 yi βi _ _ 101 oi3 (by omega) (by omega) (by omega)
  have M : (101 : Int) + ((s.rows.length * 2 : Nat) : Int) = ((101 + s.rows.length * 2 : Nat) : Int) := by omega
  rw [M] at m1 d1
  have m2 := mark167 (s := s) m1 s3.len
  have m3 : (Call tab false 167 [agg (stC s yi), .int .i64 101] G2).bind (elder H.length false G2) = some (.int .i64 ((101 + s.rows.length * 2 : Nat) : Int), G3) := by rw [m2]; exact elder_pre P2 P3
  have d2 := held168 (pu := true) (s := s) d1
  obtain ⟨_, w3, y3, G4, rfl, Y3⟩ := h165 G3
  have P4 := P3.trans Y3.pre
  have os4 := os3.pre Y3.pre
  have oi4 := oi3.pre Y3.pre
  have e2 := call166 (pu := true) (s := s) Y3.sl os4.sl (by omega)
  have d3 := held392 true G4 yi βi _ _ 101 oi4 (by omega) (by omega) (by omega)
  rw [M] at d3
  have d4 := held168 (pu := true) (s := s) d3
  have hz1 := fun y : Value => (stc5 (a := .int .i8 0) (b := .int .i8 0) (c := .int .i8 0) (d := .int .i8 0) (x := .slice none 0 0) (u := .int .i8 s.a) (v := .int .i8 s.b) (w := .int .i8 s.c) (y := .int .i8 s.d) (z := y))
  have hneg : ¬ (((101 + s.rows.length * 2 : Nat) : Int) < 0) := by omega
  simp only [stC] at w1 w2 w3 e1 e2 m3 d2 d4
  simp [c27, k27, hw.len, hwg.len, call134, wbOf, w1, w2, stc5, ldc5, e1, m3, d2, w3, e2, d4, hneg, skip, P4.take, -Int.natCast_add, -Int.natCast_mul]
end Fb
