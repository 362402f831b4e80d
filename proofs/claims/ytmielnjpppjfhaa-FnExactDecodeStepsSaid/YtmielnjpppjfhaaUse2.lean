/- What each function computes. -/
import Derived.Test.YtmielnjpppjfhaaUse1
set_option linter.unusedVariables false
set_option linter.unusedSimpArgs false
namespace Fb
open Go
theorem rs204 {l : List Sted} (hw : StsW l) : RsT 204 [] l 12 (decR l).length (bkC (decR l)) (depC l) := by
  intro H x h
  cases hk : okSts l with
  | false =>
    refine ⟨.slice none 0 0, H, none, Call_wp t204 (.inr rfl) rfl ?_, .refl, ?_⟩
    · simp [c204, k204, call163 h hw, hk, finish_nil2, depC]
    · simp [decR, hk, bkC, rowsC, Own]
  | true =>
    refine ⟨slc H.length 0 0 l.length l.length, H ++ [⟨bkC (decL l l.length), 12, 0, false⟩], some H.length, Call_wp t204 (.inr rfl) rfl ?_, Pre.one, decR_own hk⟩
    have hbl := bkC_length (b := decL l l.length) fun f hf => (decL_ok hk (Nat.le_refl _) f hf).1
    rw [decL_len] at hbl
    have hg : Gr H (H ++ [⟨bkC (decL l l.length), 12, 0, false⟩]) (slc H.length 0 0 l.length l.length) 12 l.length (bkC (decL l l.length)) := ⟨_, _, rfl, get_last, Nat.le_refl _, hbl, Pre.one⟩
    have hfin := hg.fin2 (c := 0) bkC_flat
    simp [c204, k204, call163 h hw, hk, call419 h hw hk, hfin, depC]
theorem call40 {H : Heap} {x : Value} {l : List Sted} (hs : StS H x l) (ha : StsA l) : ∃ H', Call tab false 40 [x] H = some (.bool true, H') := by
  refine ⟨H, Call_wp t40 (.inl rfl) rfl ?_⟩
  obtain ⟨v, hsz, _, hv⟩ := sz157 hs ha.n ha.r (left := 1000000) (by omega) (by omega)
  by_cases hneg : v < 0
  · simp [c40, k40, hsz, hneg]
  obtain ⟨hn, hr⟩ := hv (by omega)
  have hw : StsW l := ⟨ha.w, hn, hr⟩
  have hnR := decR_len (l := l) hn
  obtain ⟨x1, G1, rs, G1', x2, G2, ri, G2', x3, G3, M, G4, G5, x4, G6, r4, G7, q1, w1, q2, w2, e1, q3, i1, k1, hM, e2, k2, d1, q4, w4, e4, d2, P⟩ := lsx_steps hs hn hr (rs203 hw) (rs204 hw) (eqBk decR_W hnR) mark122 held123 hnR
  have hneg2 : ¬ (101 + (((decR l).length * 12 : Nat) : Int)) < 0 := by omega
  simp [c40, k40, wbOf, hsz, hneg, q1, w1, q2, w2, e1, q3, i1, k1, hM, e2, k2, d1, q4, w4, e4, d2, hneg2, skip, P.take, -Int.natCast_mul, -Nat.mul_one]
end Fb
