/- What each function computes. -/
import Derived.Test.YtimijcjjmeemeaaDoorUse1
set_option linter.unusedVariables false
set_option linter.unusedSimpArgs false
namespace Fb
open Go
theorem call463 {pu : Bool} {H : Heap} {x : Value} {l : List Sted} (h : StS H x l) (ht : ∀ i, i < l.length → TxS (at0 l i)) (hn : l.length ≤ 40) : Call tab pu 463 [x] H = some (str (stepsTx l), H) := by
  refine Call_wp t463 (.inr rfl) rfl ?_
  have hcl : ∀ i, i ≤ l.length → (catT (fun i => stepTx (at0 l i)) i).length ≤ 100001 * i := fun i hi => by
    induction i with
    | zero => simp [catT]
    | succ i ih =>
      have h1 := ih (by omega)
      have h2 := stepTx_len (ht i (by omega)).w (by have := (ht i (by omega)).n; omega)
      rw [catT]; simp; omega
  simp [c463, k463]
  refine WP_forH 4 l.length _ rfl (by omega) (fun i e => e 0 = x ∧ e 3 = str (catT (fun i => stepTx (at0 l i)) i)) ?_ ?_ (by simp) (by simp; rfl)
  · rintro i e hi hii e4 h4 ⟨h0, h3⟩
    obtain ⟨q, off, ver, y, ha, hrd, hrw⟩ := h.get hi
    have t := ht i hi
    obtain ⟨s, hs⟩ : ∃ s, s = at0 l i := ⟨_, rfl⟩
    rw [← hs] at t hrd hrw
    obtain ⟨A, hA⟩ : ∃ A, A = catT (fun i => stepTx (at0 l i)) i := ⟨_, rfl⟩
    have hAl : A.length ≤ 5000000 := by
      have := hcl i (by omega)
      rw [hA]; omega
    rw [← hA] at h3
    have hl := stepTx_len t.w (by have := t.n; omega)
    have afin : binop .add (str (A ++ stepTx s)) (.string ⟨#[10]⟩) = some (str (catT (fun i => stepTx (at0 l i)) (i + 1))) := by
      rw [catT, ← hA, ← hs, ← List.append_assoc]
      exact add_t (b := [10]) (by simp; omega) (by simp)
    have lb := itoa_len20 (v := s.b) (by have := t.w.b.1; omega) (by have := t.w.b.2; omega)
    have lc := itoa_len20 (v := s.c) (by have := t.w.c.1; omega) (by have := t.w.c.2; omega)
    have ld := itoa_len20 (v := s.d) (by have := t.w.d.1; omega) (by have := t.w.d.2; omega)
    have wb : IntKind.wrap .i64 s.b = s.b := wrap64 (by have := t.w.b; unfold i8 at this; omega)
    have wc : IntKind.wrap .i64 s.c = s.c := wrap64 (by have := t.w.c; unfold i8 at this; omega)
    have wd : IntKind.wrap .i64 s.d = s.d := wrap64 (by have := t.w.d; unfold i8 at this; omega)
    have cb := call552i (pu := true) (v := s.b) (H := H) t.b (by have := t.w.b.2; omega)
    have cc := call553 (pu := true) (v := s.c) (H := H) (by have := t.w.c; unfold i8 at this; omega)
    have cd := call553 (pu := true) (v := s.d) (H := H) (by have := t.w.d; unfold i8 at this; omega)
    have hz : stc (agg [.int .i8 0, .int .i8 0, .int .i8 0, .int .i8 0, .slice none 0 0]) 0 (stC s y) = some (agg (stC s y)) := rfl
    have cell : cellsOf (agg (stC s y)) = stC s y := by simp [agg, cellsOf]
    by_cases h0a : s.a = 0
    · have a1 : binop .add (str A) (.string ⟨#[119, 104, 111, 108, 101]⟩) = some (str (A ++ headTx s)) := by
        unfold headTx; rw [if_pos h0a]; exact add_t (b := wrd 0) (by omega) (by decide)
      simp only [stC] at hrd
      simp [b463_2, h4, h0, h3, hii, h.lenV, ha, hrd, stc5, ldc5a, h0a, a1]
      refine inner463 (A := A) (i := (i : Int)) (x := x) (y := y) hrw t (by omega) (by simp [h0]) (by simp) (by simp [h4]) (by simp [stC, h0a]) (by simp) fun e' g0 g3 g4 => ?_
      simp [g0, g3, g4, afin, e4]
    by_cases h1a : s.a = 1
    · have a1 : binop .add (.string ⟨#[99, 111, 112, 121, 32]⟩) (str (Lib.itoa s.b)) = some (str (wrd 1 ++ ([32] ++ Lib.itoa s.b))) := by rw [← List.append_assoc]; exact add_t (a := wrd 1 ++ [32]) (b := Lib.itoa s.b) (by decide) (by omega)
      have a2 : binop .add (str A) (str (wrd 1 ++ ([32] ++ Lib.itoa s.b))) = some (str (A ++ headTx s)) := by
        have := wrd_len (a := 1)
        unfold headTx; rw [if_neg h0a, if_pos h1a]; exact add_t (by omega) (by simp; omega)
      simp only [stC] at hrd
      generalize wrd 1 ++ ([32] ++ Lib.itoa s.b) = W at a1 a2
      simp [b463_2, h4, h0, h3, hii, h.lenV, ha, hrd, stc5, ldc5a, ldc5b, h1a, wb, cb, a1, a2]
      refine inner463 (A := A) (i := (i : Int)) (x := x) (y := y) hrw t (by omega) (by simp [h0]) (by simp) (by simp [h4]) (by simp [stC, h1a]) (by simp) fun e' g0 g3 g4 => ?_
      simp [g0, g3, g4, afin, e4]
    · have h2a : s.a = 2 := by have := t.a; omega
      have w2 := wrd_len (a := 2)
      have a1 : binop .add (.string ⟨#[109, 111, 118, 101, 32]⟩) (str (Lib.itoa s.b)) = some (str (wrd 2 ++ ([32] ++ Lib.itoa s.b))) := by rw [← List.append_assoc]; exact add_t (a := wrd 2 ++ [32]) (b := Lib.itoa s.b) (by decide) (by omega)
      obtain ⟨W1, hW1⟩ : ∃ W, W = wrd 2 ++ ([32] ++ Lib.itoa s.b) := ⟨_, rfl⟩
      have lW1 : W1.length ≤ 100 := by rw [hW1]; simp; omega
      rw [← hW1] at a1
      have a2 : binop .add (str W1) (.string ⟨#[32]⟩) = some (str (W1 ++ [32])) := add_t (b := [32]) (by omega) (by decide)
      obtain ⟨W2, hW2⟩ : ∃ W, W = W1 ++ [32] := ⟨_, rfl⟩
      have lW2 : W2.length ≤ 101 := by rw [hW2]; simp; omega
      rw [← hW2] at a2
      have a3 : binop .add (str W2) (str (Lib.itoa s.c)) = some (str (W2 ++ Lib.itoa s.c)) := add_t (by omega) (by omega)
      obtain ⟨W3, hW3⟩ : ∃ W, W = W2 ++ Lib.itoa s.c := ⟨_, rfl⟩
      have lW3 : W3.length ≤ 130 := by rw [hW3]; simp; omega
      rw [← hW3] at a3
      have a4 : binop .add (str W3) (.string ⟨#[32]⟩) = some (str (W3 ++ [32])) := add_t (b := [32]) (by omega) (by decide)
      obtain ⟨W4, hW4⟩ : ∃ W, W = W3 ++ [32] := ⟨_, rfl⟩
      have lW4 : W4.length ≤ 140 := by rw [hW4]; simp; omega
      rw [← hW4] at a4
      have a5 : binop .add (str W4) (str (Lib.itoa s.d)) = some (str (W4 ++ Lib.itoa s.d)) := add_t (by omega) (by omega)
      have hh : headTx s = W4 ++ Lib.itoa s.d := by
        unfold headTx; rw [if_neg h0a, if_neg h1a, hW4, hW3, hW2, hW1]; simp
      rw [← hh] at a5
      have a6 : binop .add (str A) (str (headTx s)) = some (str (A ++ headTx s)) := add_t (by omega) (by have := headTx_len t.w; omega)
      simp only [stC] at hrd
      simp [b463_2, h4, h0, h3, hii, h.lenV, ha, hrd, stc5, ldc5a, ldc5b, ldc5c, ldc5d, h2a, wb, wc, wd, cb, cc, cd, a1, a2, a3, a4, a5, a6]
      refine inner463 (A := A) (i := (i : Int)) (x := x) (y := y) hrw t (by omega) (by simp [h0]) (by simp) (by simp [h4]) (by simp [stC, h2a]) (by simp) fun e' g0 g3 g4 => ?_
      simp [g0, g3, g4, afin, e4]
  · rintro e h4 ⟨h0, h3⟩
    simp [b463_2, h4, h0, h3, h.lenV]
    rfl
theorem okSts_tx {l : List Sted} (hw : StsW l) (hk : okSts l = true) : ∀ i, i < l.length → TxS (at0 l i) := fun i hi => okSt_tx (okSts_get hk hi) (hw.w _ (at0_mem hi))
theorem slR_slice {H : Heap} {y : Value} {esz n : Nat} {vs : List Value} (h : SlR H y esz n vs) : ∃ q mc, y = .slice q n mc := by
  rcases h.is with ⟨rfl, rfl⟩ | ⟨b, off, ver, cap, rfl, _⟩
  · exact ⟨_, _, rfl⟩
  · exact ⟨_, _, rfl⟩
theorem stT {H : Heap} {x : Value} {l : List Sted} (hd : Wd H) (h : StS H x l) (hw : StsW l) (hk : okSts l = true) :
    StT tab H x l.length (fun i => if i < l.length then stepTx (at0 l i) else []) := by
  have c163 := call163 (pu := true) h hw
  rw [hk] at c163
  refine ⟨hw.n, c163, fun i => ?_, ?_⟩
  · by_cases hi : i < l.length
    · rw [if_pos hi]
      have t := okSts_tx hw hk i hi
      have := stepTx_len t.w (by have := t.n; omega)
      omega
    · rw [if_neg hi]; simp
  · obtain ⟨p, cap, hx⟩ : ∃ p cap, x = .slice p l.length cap := by
      obtain ⟨vs, h1, _⟩ := h
      exact slR_slice h1
    refine ⟨p, cap, hx, fun i hi => ?_⟩
    obtain ⟨q, o, v, y, ha, hrd, hrw⟩ := h.get hi
    have t := okSts_tx hw hk i hi
    obtain ⟨yq, ymc, hy⟩ := slR_slice hrw
    have hx2 : ∃ b off ver, p = some ⟨b, off, some ver⟩ := by
      obtain ⟨vs, h1, _⟩ := h
      rcases h1.is with ⟨e, e2⟩ | ⟨b, off, ver, cap', e, _⟩
      · omega
      · rw [hx] at e; cases e; exact ⟨_, _, _, rfl⟩
    obtain ⟨b, off, ver, rfl⟩ := hx2
    have hx3 : x = slc b off ver l.length cap := hx
    rw [hx3, idxAV_slc, at_nat hi] at ha
    have e : adr b (off + i * 5) ver = adr q o v := Option.some.inj ha
    cases e
    subst hy
    have c := call465 (pu := true) hd hrw t.w t.a (by have := t.n; omega)
    refine ⟨_, _, _, _, _, _, _, _, _, _, rfl, hrd, ?_⟩
    rw [if_pos hi]
    exact c
theorem stepsTx_cat {l : List Sted} : catT (fun i => if i < l.length then stepTx (at0 l i) else []) l.length = stepsTx l := catT_congr fun i hi => by rw [if_pos hi]
def txR' (l : List Sted) : List UInt8 := if okSts l = true then stepsTx l else []
theorem call271 {H : Heap} {x : Value} {l : List Sted} (hd : Wd H) (h : StS H x l) (hw : StsW l) {pu : Bool} : Call tab2 pu 271 [x] H = some (str (txR' l), H) := by
  rw [Call_ext t271 (.inr rfl)]
  cases hk : okSts l with
  | true =>
    rw [ext271_yes (stT hd h hw hk), stepsTx_cat, txR', if_pos hk]
  | false =>
    have c := call163 (pu := true) h hw
    rw [hk] at c
    rw [ext271_no c, txR', if_neg (by simp [hk])]
theorem call270 {pu : Bool} {H : Heap} {x : Value} {l : List Sted} (h : StS H x l) (hw : StsW l) : Call tab pu 270 [x] H = some (str (txR' l), H) := by
  refine Call_wp t270 (.inr rfl) rfl ?_
  cases hk : okSts l with
  | false =>
    have : str [] = .string ⟨#[]⟩ := rfl
    simp [c270, k270, call386 h hw, hk, txR', this]
  | true =>
    have c := call463 (pu := true) h (okSts_tx hw hk) (okSts_len hk)
    simp [c270, k270, call386 h hw, hk, txR', c]
theorem call54 {H : Heap} {x : Value} {l : List Sted} (hd : Wd H) (hs : StS H x l) (ha : StsA l) : Call tab2 false 54 [x] H = some (.bool true, H) := by
  refine Call_wp u54 (.inl rfl) rfl ?_
  obtain ⟨v, hsz, _, hv⟩ := sz157 hs ha.n ha.r (left := 1000000) (by omega) (by omega)
  have hsz := up hsz
  by_cases hneg : v < 0
  · simp [c54, k54, hsz, hneg]
  · obtain ⟨hn, hr⟩ := hv (by omega)
    have hw : StsW l := ⟨ha.w, hn, hr⟩
    obtain ⟨x1, G1, q1, s1, p1, _⟩ := cp159 (pu := true) (flag := false) hs hn hr
    obtain ⟨x2, G2, q2, s2, p2, k2⟩ := cp159 (pu := true) (flag := false) (hs.pre p1) hn hr
    have p12 := p1.trans p2
    obtain ⟨x3, G3, q3, s3, p3, k3⟩ := cp159 (pu := true) (flag := false) (hs.pre p12) hn hr
    have p13 := p12.trans p3
    obtain ⟨x4, G4, q4, s4, p4, _⟩ := cp159 (pu := true) (flag := true) (hs.pre p13) hn hr
    have P := p13.trans p4
    have i1 := in161 (pu := true) ((k2 rfl).pre p3) (k3 rfl) hn hr
    have w1 := up (call270 (pu := true) s1 hw)
    have w2 := call271 (pu := true) (hd.pre p12) s2 hw
    have w4 := call271 (pu := true) (hd.pre P) s4 hw
    have e : eqV .s (str (txR' l)) (str (txR' l)) = some true := by rw [eqV_s]; simp
    simp [c54, k54, hsz, hneg, up q1, up q2, up q3, up q4, up i1, w1, w2, w4, e, skip, P.take]
end Fb
