/- What each function computes. -/
import Derived.Test.YtholaggmhhjjkabUse2
set_option linter.unusedVariables false
set_option linter.unusedSimpArgs false
namespace Fb
open Go
set_option maxRecDepth 4000 in
theorem call50 {H : Heap} {x y : Value} {b c : List (List Int)} {m : Int} (hs : Bk H x b) (hw : BkW b) (hn : b.length ≤ 9223372036854775807) (ht : Bk H y c) (hwc : BkW c) (hnc : c.length ≤ 9223372036854775807) : ∃ H', Call tab false 50 [x, y, .int .i64 m] H = some (.bool true, H') := by
  refine ⟨H, Call_wp t50 (.inl rfl) rfl ?_⟩
  have hsz := sz_call s103 (pu := true) hs (left := 1000000) (by omega) (by omega) hn
  by_cases hbig : b.length ≤ 1000000
  · have hsz' : ¬ (1000000 - (b.length : Int) < 0) := by omega
    rw [if_neg hsz'] at hsz
    have hsz2 := sz_call s103 (pu := true) ht (left := 1000000 - b.length) (by omega) (by omega) hnc
    by_cases hbig2 : c.length ≤ 1000000 - b.length
    · have hsz2' : ¬ (1000000 - (b.length : Int) - (c.length : Int) < 0) := by omega
      rw [if_neg hsz2'] at hsz2
      have hnL := mcR_small (b := b) (c := c) (m := m) hbig
      have hlM := mcR_len (b := b) (c := c) (m := m)
      obtain ⟨x1, G1, y1, G2, rs, G3, x2, G4, y2, G5, ri, G6, x3, G7, y3, G8, G9, G10, q1, q2, w1, q3, q4, w2, q5, i1, q6, i2, m1, m2, s1, s2, p36, P10, P5, l35, l610, hk⟩ := two_books (sp := 129) (im := 128) (extra := [.int .i64 m]) hs hw hbig ht hwc (by omega)
        (Q := fun G r G' => RsD G (r, G') (mcR b c m) (mcC b c m)) (fun G r G' ⟨_, _, _, _, _, e, p, _⟩ => by cases e; exact p)
        (fun G x y h h' => by
          obtain ⟨r, e, q⟩ := call129 (pu := true) (m := m) hw hwc hbig (by omega) h h'
          exact ⟨r.1, r.2, e, q⟩)
        (fun G x y h h' => by
          obtain ⟨r, e, q⟩ := call128 (pu := true) (m := m) hw hwc hbig (by omega) h h'
          exact ⟨r.1, r.2, e, q.d⟩)
      obtain ⟨zs1, zs2, _, βs, γs, es, ps, os, us, ds⟩ := s1
      cases es
      obtain ⟨zi1, zi2, _, βi, γi, ei, pi, oi, ui, di⟩ := s2
      cases ei
      generalize hR : mcR b c m = R at *
      obtain ⟨L, M⟩ := R
      simp only [] at *
      have eqM : EqF 266 2 L.length (mvsC M) := by rw [← hlM]; exact eqMv (by omega)
      have e1 := eq180 hnL G6 zi1 zs1 oi.sl (os.pre p36).sl
      have f1 := eqM G6 zi2 zs2 ui.sl (us.pre p36).sl
      have os10 : Own G10 zs1 βs G2.length 1 L.length (cs .i64 L) := (os.pre p36).agree fun b hb => by subst hb; exact hk b (.inl os.lt.2)
      have us10 : Own G10 zs2 γs G2.length 2 L.length (mvsC M) := (us.pre p36).agree fun b hb => by subst hb; exact hk b (.inl us.lt.2)
      have oi10 : Own G10 zi1 βi G5.length 1 L.length (cs .i64 L) := oi.agree fun b hb => by subst hb; exact hk b (.inr oi.lt)
      have ui10 : Own G10 zi2 γi G5.length 2 L.length (mvsC M) := ui.agree fun b hb => by subst hb; exact hk b (.inr ui.lt)
      have e2 := eq180 hnL G10 zi1 zs1 oi10.sl os10.sl
      have f2 := eqM G10 zi2 zs2 ui10.sl us10.sl
      have sne : ∀ b, (βs = some b ∨ γs = some b) → b < G3.length := fun b hb => by
        rcases hb with hb | hb
        · subst hb; exact os.lt.2
        · subst hb; exact us.lt.2
      obtain ⟨G11, n1, t1, oi11⟩ := mark182 G10 zi1 βi _ L.length _ 101 oi10 hnL (by omega) (by omega)
      have P11 : Pre H G11 := t1.pre P10 fun b hb => Nat.le_trans P5.len (oi10.below b hb)
      have ui11 := ui10.same t1 fun b hb he => di b he hb
      have os11 := os10.same t1 fun b hb he => by have := oi10.below b he; have := sne b (.inl hb); omega
      have us11 := us10.same t1 fun b hb he => by have := oi10.below b he; have := sne b (.inr hb); omega
      obtain ⟨G12, n2, t2, ui12⟩ := mark267 G11 zi2 γi _ L.length _ (101 + (L.length * 1 : Nat)) ui11 hnL (by omega) (by omega)
      have P12 : Pre H G12 := t2.pre P11 fun b hb => Nat.le_trans P5.len (ui10.below b hb)
      have oi12 := oi11.same t2 fun b hb he => di b hb he
      have os12 := os11.same t2 fun b hb he => by have := ui10.below b he; have := sne b (.inl hb); omega
      have us12 := us11.same t2 fun b hb he => by have := ui10.below b he; have := sne b (.inr hb); omega
      have n1' : (Call tab false 182 [zi1, .int .i64 101] G10).bind (elder H.length false G10) = some (.int .i64 (101 + (L.length * 1 : Nat)), G11) := by rw [n1]; exact elder_pre P10 P11
      have n2' : (Call tab false 267 [zi2, .int .i64 (101 + (L.length * 1 : Nat))] G11).bind (elder H.length false G11) = some (.int .i64 (101 + (L.length * 1 : Nat) + (L.length * 2 : Nat)), G12) := by rw [n2]; exact elder_pre P11 P12
      have d1 := held183 true G12 zi1 βi _ L.length 101 oi12 hnL (by omega) (by omega)
      have d2 := held268 true G12 zi2 γi _ L.length (101 + (L.length * 1 : Nat)) ui12 hnL (by omega) (by omega)
      obtain ⟨x4, G13, q7, r7, p13⟩ := cp_true (pu := true) (bkC_length hw) rfl (call105 (SlR.pre P12 hs) hw hbig)
      have P13 := P12.trans p13
      obtain ⟨y4, G14, q8, r8, p14⟩ := cp_true (pu := true) (bkC_length hwc) rfl (call105 (SlR.pre P13 ht) hwc (by omega))
      obtain ⟨_, w4, q⟩ := call128 (pu := true) (m := m) hw hwc hbig (by omega) (SlR.pre p14 r7) r8
      obtain ⟨z4, u4, G15, β4, γ4, rfl, p15, o4, v4, _⟩ := q.d
      rw [hR] at o4 v4
      have p1215 := (p13.trans p14).trans p15
      have e3 := eq180 hnL G15 z4 zs1 o4.sl (os12.pre p1215).sl
      have f3 := eqM G15 u4 zs2 v4.sl (us12.pre p1215).sl
      have d3 := held183 true G15 zi1 βi _ L.length 101 (oi12.pre p1215) hnL (by omega) (by omega)
      have d4 := held268 true G15 zi2 γi _ L.length (101 + (L.length * 1 : Nat)) (ui12.pre p1215) hnL (by omega) (by omega)
      have P15 := P12.trans p1215
      have hneg : ¬ ((101 : Int) + ((L.length * 1 : Nat) : Int) < 0) := by omega
      have hneg1 : ¬ ((101 : Int) + ((L.length * 1 : Nat) : Int) + ((L.length * 2 : Nat) : Int) < 0) := by omega
      have hneg2 : ¬ ((101 : Int) + ((b.length * 12 : Nat) : Int) + ((c.length * 12 : Nat) : Int) < 0) := by omega
      simp [c50, k50, hsz, hsz', hsz2, hsz2', wbOf, q1, q2, w1, q3, q4, w2, q5, i1, q6, i2, m1, m2, e1, e2, f1, f2, n1', n2', d1, d2, q7, q8, w4, e3, f3, d3, d4, hneg, hneg1, hneg2, skip, P15.take, -Int.natCast_add, -Int.natCast_mul, -Nat.mul_one]
    · have hsz2' : 1000000 - (b.length : Int) - (c.length : Int) < 0 := by omega
      rw [if_pos hsz2'] at hsz2
      simp [c50, k50, hsz, hsz', hsz2]
  · have hsz' : 1000000 - (b.length : Int) < 0 := by omega
    rw [if_pos hsz'] at hsz
    simp [c50, k50, hsz]
end Fb
