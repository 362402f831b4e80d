/- What each function computes. -/
import Derived.Test.YtimijcjjmeemeaaUse2
set_option linter.unusedVariables false
set_option linter.unusedSimpArgs false
namespace Fb
open Go
theorem c47_16 {H : Heap} {e : Env} {f g t fl iv' : List Int} {y : Value} {bs : List Int} (hf : VF f) (hg : VF g) (ht : VF t) (hfl : VF fl) (hi : VF iv') (hy : By H y bs) (h1 : e 1 = y) (h5 : e 5 = iv .u16 f) (h6 : e 6 = iv .u16 g) (h7 : e 7 = iv .u16 f) (h8 : e 8 = .int .i64 0)
    (h9 : e 9 = iv .u16 f) (h15 : e 15 = iv .u16 t) (h16 : e 16 = .int .i64 0) (h17 : e 17 = iv .u16 t) (h18 : e 18 = .int .i64 0) (h19 : e 19 = iv .u16 f) (h20 : e 20 = .int .i64 0) (h21 : e 21 = iv .u16 fl) (h22 : e 22 = .int .i64 0) (h23 : e 23 = iv .u16 fl) (h24 : e 24 = .int .i64 0)
    (h25 : e 25 = iv .u16 f) (h26 : e 26 = .int .i64 0) (h27 : e 27 = iv .u16 iv') (h28 : e 28 = .int .i64 0) (h29 : e 29 = iv .u16 iv') (h30 : e 30 = .int .i64 0) (h31 : e 31 = iv .u16 f) (h32 : e 32 = .int .i64 0) : WK tab H.length false (tailC 16 k47) [] e H (QL H.length H) := by
  have hT : tailC 16 k47 = headC 1 (tailC 16 k47) U17 := rfl
  rw [hT]
  have hl := hf.W.len
  have l1 := ht.W.len
  have l2 := hfl.W.len
  have l3 := hi.W.len
  have q0 := eqF_T hl
  have q1 := eqF_T l1
  have q2 := eqF_T l2
  have q3 := eqF_T l3
  have c1 := call234 (pu := true) (H := H) hl
  rw [hf.ok] at c1
  simp [headC, tailC, k47, h5, h7, h8, h9, h15, h16, h17, h18, h19, h20, h21, h22, h23, h24, h25, h26, h27, h28, h29, h30, h31, h32, hl, l1, l2, l3, agg_cs, q0, q1, q2, q3, c1]
  exact c47_17 hf hg hy (by simp [h1]) (by simp [h5]) (by simp [h6])
theorem c47_7 {H : Heap} {e : Env} {f g : List Int} {y : Value} {bs : List Int} (hf : VF f) (hg : VF g) (hy : By H y bs) (h1 : e 1 = y) (h5 : e 5 = iv .u16 f) (h6 : e 6 = iv .u16 g) (h7 : e 7 = iv .u16 f) (h8 : e 8 = .int .i64 0)
    (h9 : e 9 = iv .u16 f) : WK tab H.length false (tailC 7 k47) [] e H (QL H.length H) := by
  have hT : tailC 7 k47 = headC 9 (tailC 7 k47) U16 := rfl
  rw [hT]
  have hl := hf.W.len
  have V1 := mirF_V (f := f)
  have V2 := rev_V hf
  have V3 := invF_V hf
  have l1 := V1.W.len
  have l2 := V2.W.len
  have l3 := V3.W.len
  have c1 := call229 (pu := true) (H := H) hf
  have c2 := call230 (pu := true) (H := H) hf
  have c3 := call229 (pu := true) (H := H) V1
  rw [mir_mir hf] at c3
  have c4 := call231 (pu := true) (H := H) hf
  have c5 := call232 (pu := true) (H := H) hf
  have c6 := call231 (pu := true) (H := H) V2
  rw [List.reverse_reverse] at c6
  have c7 := call233 (pu := true) (H := H) hf
  have c8 := call201 (pu := true) (H := H) hf
  have c9 := call233 (pu := true) (H := H) V3
  rw [inv_inv hf] at c9
  have s0 := stc_zr (k := .u16) (n := 12) hl
  have s1 := stc_zr (k := .u16) (n := 12) l1
  have s2 := stc_zr (k := .u16) (n := 12) l2
  have s3 := stc_zr (k := .u16) (n := 12) l3
  simp [headC, tailC, k47, h5, hl, l1, l2, l3, zs_cs, agg_cs, c1, c2, c3, c4, c5, c6, c7, c8, c9, s0, s1, s2, s3, -List.length_reverse]
  exact c47_16 hf hg V1 V2 V3 hy (by simp [h1]) (by simp [h5]) (by simp [h6]) (by simp [h7]) (by simp [h8]) (by simp [h9]) (by simp) (by simp) (by simp) (by simp) (by simp) (by simp) (by simp) (by simp) (by simp) (by simp) (by simp) (by simp) (by simp) (by simp) (by simp) (by simp) (by simp) (by simp)
/-- A frame turned so many times. -/
def turN (f : List Int) : Nat → List Int
  | 0 => f
  | k + 1 => turF (turN f k)
theorem turN_V {f : List Int} (hf : VF f) : ∀ {k : Nat}, VF (turN f k)
  | 0 => hf
  | _ + 1 => turF_V
theorem call47 {H : Heap} {y1 y2 : Value} {b1 b2 : List Int} (h1 : By H y1 b1) (h2 : By H y2 b2) : Call tab false 47 [y1, y2] H = some (.bool true, H) := by
  refine Call_wp t47 (.inr rfl) rfl ?_
  show WK tab H.length false k47 [] (ini [y1, y2]) H (QL H.length H)
  have hT : k47 = headC 7 k47 U7 := rfl
  rw [hT]
  have c84 := call84 (pu := true) h1 h2
  by_cases g : (decide (3000 < b1.length) || decide (3000 < b2.length)) = true
  · rw [g] at c84
    simp [headC, k47, c84, QL]
  have g' : (decide (3000 < b1.length) || decide (3000 < b2.length)) = false := by simpa using g
  rw [g'] at c84
  have n1 : b1.length ≤ 3000 ∧ b2.length ≤ 3000 := by simp at g'; omega
  obtain ⟨f, c1, hf⟩ := call147 (pu := true) h1 (by omega)
  obtain ⟨g, c2, hg⟩ := call147 (pu := true) h2 (by omega)
  have hl := hf.W.len
  have hlg := hg.W.len
  have s1 := stc_zr (k := .u16) (n := 12) hl
  have s2 := stc_zr (k := .u16) (n := 12) hlg
  have c3 := call227 (pu := true) (H := H) hf
  have c4 := call226 (pu := true) (H := H) hf
  simp [headC, k47, c84, c1, c2, hl, hlg, zs_cs, agg_cs, s1, s2, c3, c4]
  refine WP_forH 10 4 4 rfl (by omega) (fun k e => e 1 = y2 ∧ e 5 = iv .u16 f ∧ e 6 = iv .u16 g ∧ e 7 = iv .u16 f ∧ e 8 = .int .i64 0 ∧ e 9 = iv .u16 (turN f k)) ?_ ?_ (by simp) (by simp; rfl)
  · rintro k e hk hkk e4 h10 ⟨e1, e5, e6, e7, e8, e9⟩
    have V := turN_V hf (k := k)
    have V' := turN_V hf (k := k + 1)
    have l1 := V.W.len
    have l2 := V'.W.len
    have d1 := call173 (pu := true) (H := H) V
    have d2 := call228 (pu := true) (H := H) V
    rw [← turF_eq] at d1
    have e0 : turF (turN f k) = turN f (k + 1) := rfl
    rw [e0] at d1 d2
    have s3 := stc_zr (k := .u16) (n := 12) l2
    have s4 := stc_all (k := .u16) (l := turN f k) (l' := turN f (k + 1)) (by rw [l1, l2])
    have q := eqF_T l2
    simp [b47_1, h10, hkk, e1, e5, e6, e7, e8, e9, l1, l2, d1, d2, zs_cs, s3, s4, agg_cs, q, e4]
  · rintro e h10 ⟨e1, e5, e6, e7, e8, e9⟩
    have : turN f 4 = f := tur_4 hf
    rw [this] at e9
    simp [b47_1, h10]
    exact c47_7 hf hg h2 (by simp [e1]) (by simp [e5]) (by simp [e6]) (by simp [e7]) (by simp [e8]) (by simp [e9])
theorem call295T {T : Tab} (h1 : T 295 = some (.fn c295)) {pu : Bool} {a b c : Int} {H : Heap} : Call T pu 295 [.int .i64 a, .int .i64 b, .int .i64 c] H = some (.bool (decide (b ≤ a ∧ a ≤ c)), H) := by
  refine Call_wp h1 (.inr rfl) rfl ?_
  by_cases h : b ≤ a <;> simp [c295, k295, h, skip]
theorem call345T {T : Tab} (h1 : T 295 = some (.fn c295)) (h2 : T 345 = some (.fn c345)) {pu : Bool} {H : Heap} {a b : Int} : Call T pu 345 [.int .i64 a, .int .i64 b] H = some (.bool (okP a b), H) := by
  refine Call_wp h2 (.inr rfl) rfl ?_
  unfold okP
  by_cases h : 0 ≤ a ∧ a ≤ 11
  · simp [c345, k345, call295T h1, h]
  · simp [c345, k345, call295T h1, h, skip]
theorem call395T {T : Tab} (h1 : T 295 = some (.fn c295)) (h2 : T 345 = some (.fn c345)) (h3 : T 395 = some (.fn c395)) {pu : Bool} {H : Heap} {f : List Int} {x y : Nat} (hw : FrW f) (hx : x < 12) (hy : y < 12) :
    Call T pu 395 [iv .u16 f, .int .i64 x, .int .i64 y] H = some (.bool (hasF f x y), H) := by
  refine Call_wp h3 (.inr rfl) rfl ?_
  have hl := hw.len
  have hd := row_div (hw.nth hy) hx
  have e1 : ((nth f y / bit x) % 2 == 1) = hasF f x y := rfl
  simp (disch := omega) [c395, k395, call345T h1 h2, okP_nat hx hy, hy, hx, hl, shr_bit, and_one hd, e1]
theorem okU_W {f : List Int} (h : okU f = true) : FrW f := by
  unfold okU at h
  rw [Bool.and_eq_true] at h
  exact ⟨of_decide_eq_true h.1, fun n hn => of_decide_eq_true (List.all_eq_true.1 h.2 n hn)⟩
end Fb
