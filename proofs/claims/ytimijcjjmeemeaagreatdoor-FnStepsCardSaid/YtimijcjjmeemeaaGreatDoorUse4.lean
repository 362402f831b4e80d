/- What each function computes. -/
import Derived.Test.YtimijcjjmeemeaaGreatDoorUse3
set_option linter.unusedVariables false
set_option linter.unusedSimpArgs false
namespace Fb
open Go
/-- The text of a step, in the program's stepText. -/
theorem call465 {pu : Bool} {H : Heap} {y : Value} {s : Sted} (hd : Wd H) (h : Rw H y s) (hw : StW s) (ha : 0 ≤ s.a ∧ s.a ≤ 2) (hn : s.rows.length ≤ 1000) : Call tab pu 465 [agg (stC s y)] H = some (str (stepTx s), H) := by
  refine Call_wp t465 (.inr rfl) rfl ?_
  have lb := itoa_len20 (v := s.b) (by have := hw.b.1; omega) (by have := hw.b.2; omega)
  have lc := itoa_len20 (v := s.c) (by have := hw.c.1; omega) (by have := hw.c.2; omega)
  have ld := itoa_len20 (v := s.d) (by have := hw.d.1; omega) (by have := hw.d.2; omega)
  have wb : IntKind.wrap .i64 s.b = s.b := wrap64 (by have := hw.b; unfold i8 at this; omega)
  have wc : IntKind.wrap .i64 s.c = s.c := wrap64 (by have := hw.c; unfold i8 at this; omega)
  have wd : IntKind.wrap .i64 s.d = s.d := wrap64 (by have := hw.d; unfold i8 at this; omega)
  have cb := call379 (pu := true) (n := s.b) (H := H) (by have := hw.b.1; omega) (by have := hw.b.2; omega)
  have cc := call379 (pu := true) (n := s.c) (H := H) (by have := hw.c.1; omega) (by have := hw.c.2; omega)
  have cd := call379 (pu := true) (n := s.d) (H := H) (by have := hw.d.1; omega) (by have := hw.d.2; omega)
  have loop : ∀ e : Env, e 1 = agg (stC s y) → e 3 = str (headTx s) → WK tab H.length false (tailC 4 k465) [] e H (QS H.length (stepTx s) H) := by
    intro e h1 h3
    have hlv := SlR.lenV h
    simp only [stC] at h1
    simp [tailC, k465, h1, ldc5e, hlv]
    refine WP_forH 39 s.rows.length _ rfl (by omega) (fun j e => e 37 = y ∧ e 38 = .int .i64 (s.rows.length : Int) ∧ e 3 = str (headTx s ++ rowTx s j)) ?_ ?_ (by simp) (by simp [h3, rowTx])
    · rintro j e hj hjj e4 h39 ⟨h37, h38, h3⟩
      obtain ⟨q, off, ver, hx, hr, _, _⟩ := Rw.at h hj
      have hb := hw.rows _ (at0_mem (i := j) hj)
      obtain ⟨u, hu⟩ : ∃ u, u = (rw' s j).1 := ⟨_, rfl⟩
      obtain ⟨v, hv⟩ : ∃ v, v = (rw' s j).2 := ⟨_, rfl⟩
      have hub : i8 u := by rw [hu]; exact hb.1
      have hvb : u16' v := by rw [hv]; exact hb.2
      have lu := itoa_len20 (v := u) (by have := hub.1; omega) (by have := hub.2; omega)
      have lv := itoa_len20 (v := v) (by have := hvb.1; omega) (by have := hvb.2; omega)
      have wu : IntKind.wrap .i64 u = u := wrap64 (by unfold i8 at hub; omega)
      have wv : IntKind.wrap .i64 v = v := wrap64 (by unfold u16' at hvb; omega)
      have cu := call379 (pu := true) (n := u) (H := H) (by have := hub.1; omega) (by have := hub.2; omega)
      have cv := call379 (pu := true) (n := v) (H := H) (by have := hvb.1; omega) (by have := hvb.2; omega)
      have l1 := headTx_len hw
      have l2 := rowTx_len hw (j := j) (by omega)
      rw [← hu, ← hv] at hr
      have a1 : binop .add (.string ⟨#[32]⟩) (str (Lib.itoa u)) = some (str ([32] ++ Lib.itoa u)) := add_t (a := [32]) (by simp) (by omega)
      have a2 : binop .add (str ([32] ++ Lib.itoa u)) (.string ⟨#[58]⟩) = some (str ([32] ++ Lib.itoa u ++ [58])) := add_t (b := [58]) (by simp; omega) (by simp)
      have a3 : binop .add (str ([32] ++ Lib.itoa u ++ [58])) (str (Lib.itoa v)) = some (str ([32] ++ Lib.itoa u ++ [58] ++ Lib.itoa v)) := add_t (by simp; omega) (by omega)
      have a4 : binop .add (str (headTx s ++ rowTx s j)) (str ([32] ++ Lib.itoa u ++ [58] ++ Lib.itoa v)) = some (str (headTx s ++ rowTx s (j + 1))) := by
        rw [add_t (by simp; omega) (by simp; omega), rowTx, ← hu, ← hv, List.append_assoc]
      have q0 : stc (agg [.int .i8 0, .int .u16 0]) 0 [.int .i8 u, .int .u16 v] = some (agg [.int .i8 u, .int .u16 v]) := rfl
      have q1 : ldc 1 false (agg [.int .i8 u, .int .u16 v]) 0 = some (.int .i8 u) := rfl
      have q2 : ldc 1 false (agg [.int .i8 u, .int .u16 v]) 1 = some (.int .u16 v) := rfl
      simp only [List.cons_append, List.nil_append, List.append_assoc] at a1 a2 a3 a4
      simp [b465_1, h39, h37, h38, h3, hjj, hx, hr, q0, q1, q2, wu, wv, cu, cv, a1, a2, a3, a4, e4]
    · rintro e h39 ⟨h37, h38, h3⟩
      simp [b465_1, h39, h38, h3, stepTx, QS]
  have hT : k465 = headC 4 k465 (tailC 4 k465) := rfl
  show WK tab H.length false k465 [] (ini [agg (stC s y)]) H (QS H.length (stepTx s) H)
  rw [hT]
  generalize tailC 4 k465 = T at loop
  have w0 := wrd_len (a := 0)
  have w1 := wrd_len (a := 1)
  have w2 := wrd_len (a := 2)
  by_cases h0 : s.a = 0
  · have hr := hd.rd (a := 0) (by omega)
    have hh : headTx s = wrd 0 := by unfold headTx; rw [if_pos h0]
    have hat : at' 3 (.int .i8 (0 : Int)) = some 0 := rfl
    simp [headC, k465, stC, ldc5a, ldc5b, ldc5c, ldc5d, ldc5e, h0, hat, ptr0, hr]
    exact loop _ (by simp [stC, h0]) (by simp [hh])
  by_cases h1 : s.a = 1
  · have hr := hd.rd (a := 1) (by omega)
    have hh : headTx s = wrd 1 ++ ([32] ++ Lib.itoa s.b) := by unfold headTx; rw [if_neg h0, if_pos h1]
    have a1 : binop .add (.string ⟨#[32]⟩) (str (Lib.itoa s.b)) = some (str ([32] ++ Lib.itoa s.b)) := add_t (a := [32]) (by simp) (by omega)
    have a2 : binop .add (str (wrd 1)) (str ([32] ++ Lib.itoa s.b)) = some (str (headTx s)) := by rw [hh]; exact add_t (by omega) (by simp; omega)
    simp only [List.cons_append, List.nil_append, List.append_assoc] at a1 a2
    have hat : at' 3 (.int .i8 (1 : Int)) = some 1 := rfl
    simp [headC, k465, stC, ldc5a, ldc5b, ldc5c, ldc5d, ldc5e, h1, hat, ptr0, hr, wb, cb, a1, a2]
    exact loop _ (by simp [stC, h1]) (by simp)
  · have h2 : s.a = 2 := by omega
    have hr := hd.rd (a := 2) (by omega)
    have hh : headTx s = wrd 2 ++ ([32] ++ Lib.itoa s.b) ++ ([32] ++ Lib.itoa s.c ++ [32] ++ Lib.itoa s.d) := by unfold headTx; rw [if_neg h0, if_neg h1]
    have a1 : binop .add (.string ⟨#[32]⟩) (str (Lib.itoa s.b)) = some (str ([32] ++ Lib.itoa s.b)) := add_t (a := [32]) (by simp) (by omega)
    have a2 : binop .add (str (wrd 2)) (str ([32] ++ Lib.itoa s.b)) = some (str (wrd 2 ++ ([32] ++ Lib.itoa s.b))) := add_t (by omega) (by simp; omega)
    have a3 : binop .add (.string ⟨#[32]⟩) (str (Lib.itoa s.c)) = some (str ([32] ++ Lib.itoa s.c)) := add_t (a := [32]) (by simp) (by omega)
    have a4 : binop .add (str ([32] ++ Lib.itoa s.c)) (.string ⟨#[32]⟩) = some (str ([32] ++ Lib.itoa s.c ++ [32])) := add_t (b := [32]) (by simp; omega) (by simp)
    have a5 : binop .add (str ([32] ++ Lib.itoa s.c ++ [32])) (str (Lib.itoa s.d)) = some (str ([32] ++ Lib.itoa s.c ++ [32] ++ Lib.itoa s.d)) := add_t (by simp; omega) (by omega)
    have a6 : binop .add (str (wrd 2 ++ ([32] ++ Lib.itoa s.b))) (str ([32] ++ Lib.itoa s.c ++ [32] ++ Lib.itoa s.d)) = some (str (headTx s)) := by rw [hh]; exact add_t (by simp; omega) (by simp; omega)
    simp only [List.cons_append, List.nil_append, List.append_assoc] at a1 a2 a3 a4 a5 a6
    have hat : at' 3 (.int .i8 (2 : Int)) = some 2 := rfl
    simp [headC, k465, stC, ldc5a, ldc5b, ldc5c, ldc5d, ldc5e, h2, hat, ptr0, hr, wb, wc, wd, cb, cc, cd, a1, a2, a3, a4, a5, a6]
    exact loop _ (by simp [stC, h2]) (by simp)
/-- A step that a text tells: not less than 0 where the spec writes no sign. -/
structure TxS (s : Sted) : Prop where
  w : StW s
  a : 0 ≤ s.a ∧ s.a ≤ 2
  b : 0 ≤ s.b
  n : s.rows.length ≤ 12
  r : ∀ j, j < s.rows.length → 0 ≤ (rw' s j).1 ∧ (rw' s j).1 ≤ 11 ∧ 1 ≤ (rw' s j).2 ∧ (rw' s j).2 ≤ 4095
theorem okSt_tx {s : Sted} {i : Nat} (h : okSt s i = true) (hw : StW s) : TxS s := by
  obtain ⟨h1, h2⟩ := okSt_rows2 h
  refine ⟨hw, okSt_a h, ?_, h1, h2⟩
  by_cases h0 : s.a = 0
  · simp only [okSt, kindB, Bool.and_eq_true] at h
    obtain ⟨_, h⟩ := h
    rw [if_pos (by simp [h0])] at h
    simp at h
    omega
  · exact (okSt_b h h0).1
theorem catT_len {t : Nat → List UInt8} {k : Nat} (h : ∀ i, (t i).length ≤ k) : ∀ n, (catT t n).length ≤ (k + 1) * n
  | 0 => by simp [catT]
  | n + 1 => by
    have := catT_len h n
    have := h n
    rw [catT, Nat.mul_succ]
    simp; omega
/-- The text of steps. -/
def stepsTx (l : List Sted) : List UInt8 := catT (fun i => stepTx (at0 l i)) l.length
theorem okSts_tx {l : List Sted} (hw : StsW l) (hk : okSts l = true) : ∀ i, i < l.length → TxS (at0 l i) := fun i hi => okSt_tx (okSts_get hk hi) (hw.w _ (at0_mem hi))
theorem slR_slice {H : Heap} {y : Value} {esz n : Nat} {vs : List Value} (h : SlR H y esz n vs) : ∃ q mc, y = .slice q n mc := by
  rcases h.is with ⟨rfl, rfl⟩ | ⟨b, off, ver, cap, rfl, _⟩
  · exact ⟨_, _, rfl⟩
  · exact ⟨_, _, rfl⟩
theorem stT {H : Heap} {x : Value} {l : List Sted} (hd : Wd H) (h : StS H x l) (hw : StsW l) (hk : okSts l = true) :
    StT tab H x l.length (fun i => if i < l.length then stepTx (at0 l i) else []) := by
  have c163 := call163 (pu := true) h hw
  rw [hk] at c163
  refine ⟨hw.n, c163, fun i => ?_, ?_⟩
  · by_cases hi : i < l.length
    · rw [if_pos hi]
      have t := okSts_tx hw hk i hi
      have := stepTx_len t.w (by have := t.n; omega)
      omega
    · rw [if_neg hi]; simp
  · obtain ⟨p, cap, hx⟩ : ∃ p cap, x = .slice p l.length cap := by
      obtain ⟨vs, h1, _⟩ := h
      exact slR_slice h1
    refine ⟨p, cap, hx, fun i hi => ?_⟩
    obtain ⟨q, o, v, y, ha, hrd, hrw⟩ := h.get hi
    have t := okSts_tx hw hk i hi
    obtain ⟨yq, ymc, hy⟩ := slR_slice hrw
    have hx2 : ∃ b off ver, p = some ⟨b, off, some ver⟩ := by
      obtain ⟨vs, h1, _⟩ := h
      rcases h1.is with ⟨e, e2⟩ | ⟨b, off, ver, cap', e, _⟩
      · omega
      · rw [hx] at e; cases e; exact ⟨_, _, _, rfl⟩
    obtain ⟨b, off, ver, rfl⟩ := hx2
    have hx3 : x = slc b off ver l.length cap := hx
    rw [hx3, idxAV_slc, at_nat hi] at ha
    have e : adr b (off + i * 5) ver = adr q o v := Option.some.inj ha
    cases e
    subst hy
    have c := call465 (pu := true) hd hrw t.w t.a (by have := t.n; omega)
    refine ⟨_, _, _, _, _, _, _, _, _, _, rfl, hrd, ?_⟩
    rw [if_pos hi]
    exact c
theorem stepsTx_cat {l : List Sted} : catT (fun i => if i < l.length then stepTx (at0 l i) else []) l.length = stepsTx l := catT_congr fun i hi => by rw [if_pos hi]
def txR' (l : List Sted) : List UInt8 := if okSts l = true then stepsTx l else []
theorem call271 {H : Heap} {x : Value} {l : List Sted} (hd : Wd H) (h : StS H x l) (hw : StsW l) {pu : Bool} : Call tab2 pu 271 [x] H = some (str (txR' l), H) := by
  rw [Call_ext t271 (.inr rfl)]
  cases hk : okSts l with
  | true =>
    rw [ext271_yes (stT hd h hw hk), stepsTx_cat, txR', if_pos hk]
  | false =>
    have c := call163 (pu := true) h hw
    rw [hk] at c
    rw [ext271_no c, txR', if_neg (by simp [hk])]
/-- Where a word stands. -/
def idxL (w : List UInt8) : List (List UInt8) → Nat → Int
  | [], _ => -1
  | v :: r, i => if w = v then i else idxL w r (i + 1)
theorem idxL_at {w : List UInt8} : ∀ {l : List (List UInt8)} {i k : Nat}, k < l.length → (∀ j, j < k → l.getD j [] ≠ w) → l.getD k [] = w → idxL w l i = ((i + k : Nat) : Int)
  | [], _, _, h, _, _ => absurd h (Nat.not_lt_zero _)
  | v :: r, i, 0, _, _, h => by
    rw [idxL, if_pos (by simpa using h.symm)]; rfl
  | v :: r, i, k + 1, hk, hj, h => by
    rw [idxL, if_neg (fun e => hj 0 (by omega) (by simpa using e.symm)), idxL_at (k := k) (by simpa using hk) (fun j hjk => by have := hj (j + 1) (by omega); simpa using this) (by simpa using h)]
    congr 1; omega
theorem idxL_none {w : List UInt8} : ∀ {l : List (List UInt8)} {i : Nat}, (∀ j, j < l.length → l.getD j [] ≠ w) → idxL w l i = -1
  | [], _, _ => rfl
  | v :: r, i, h => by
    rw [idxL, if_neg (fun e => h 0 (by simp) (by simpa using e.symm))]
    exact idxL_none fun j hj => by have := h (j + 1) (by simp; omega); simpa using this
theorem call559 {pu : Bool} {G : Heap} {x : Value} {l : List (List UInt8)} {w : List UInt8} (hx : SlR G x 1 l.length (l.map str)) (hn : l.length ≤ 1000000) : Call tab pu 559 [x, str w] G = some (.int .i64 (idxL w l 0), G) := by
  refine Call_wp t559 (.inr rfl) rfl ?_
  simp [c559, k559, hx.lenV]
  refine WP_forH 8 l.length _ rfl (by omega) (fun i e => e 0 = x ∧ e 1 = str w ∧ e 7 = .int .i64 (l.length : Int) ∧ ∀ j, j < i → l.getD j [] ≠ w) ?_ ?_ (by simp) (by simp)
  · rintro i e hi hii e4 h8 ⟨h0, h1, h7, hall⟩
    obtain ⟨q, off, ver, ha, hr⟩ := strs_get hx hi
    obtain ⟨v, hv⟩ : ∃ v, v = l.getD i [] := ⟨_, rfl⟩
    rw [← hv] at hr
    have hq := eqV_s (a := w) (b := v)
    by_cases e : w = v
    · have hd : decide (w = v) = true := decide_eq_true e
      rw [hd] at hq
      have hidx := idxL_at (i := 0) hi hall (hv.symm.trans e.symm)
      rw [Nat.zero_add] at hidx
      simp [b559_1, h8, h0, h1, h7, hii, ha, hr, hq, hidx]
    · have hd : decide (w = v) = false := decide_eq_false e
      rw [hd] at hq
      have hall' : ∀ j, j < i + 1 → l.getD j [] ≠ w := fun j hj => by
        by_cases hji : j = i
        · subst hji; intro h; exact e (h.symm.trans hv.symm)
        · exact hall j (by omega)
      simp [b559_1, h8, h0, h1, h7, hii, ha, hr, hq, e4]
      intro j hj
      have := hall' j hj
      simpa using this
  · rintro e h8 ⟨h0, h1, h7, hall⟩
    have hidx := idxL_none (i := 0) hall
    simp [b559_1, h8, h7, hidx]
/-- Which kind of step a word tells. -/
def hdN (w : List UInt8) : Int := idxL w wrdL 0
def nmK (a : Int) : Nat := if a = 0 then 0 else if a = 1 then 1 else 3
def nmAt (ws : List (List UInt8)) (i : Nat) : Option Int := rdIn (ws.getD (i + 1) []) (-12) 40
def rwI (w : List UInt8) : Option (Int × Int) := if (cutc 58 w).2.2 = true then mv2 (rdIn (cutc 58 w).1 0 11) (rdIn (cutc 58 w).2.1 1 4095) else none
def nmV (ws : List (List UInt8)) (k i : Nat) : Int := if i < k then (nmAt ws i).getD 0 else 0
def rwD (w : List UInt8) : Int × Int := (rwI w).getD (0, 0)
/-- All is well in a line's words. -/
def ipOk (ws : List (List UInt8)) (k : Nat) : Prop := k + 1 ≤ ws.length ∧ (∀ i, i < k → (nmAt ws i).isSome = true) ∧ ∀ w ∈ ws.drop (k + 1), (rwI w).isSome = true
instance {ws : List (List UInt8)} {k : Nat} : Decidable (ipOk ws k) := by unfold ipOk; infer_instance
def ipS (ws : List (List UInt8)) (a : Int) : Sted := ⟨a, nmV ws (nmK a) 0, nmV ws (nmK a) 1, nmV ws (nmK a) 2, (ws.drop (nmK a + 1)).map rwD⟩
/-- The step that the program's readStep makes of a line's words. -/
def implP (ws : List (List UInt8)) : Option Sted :=
  if hdN (ws.getD 0 []) < 0 then none else if ipOk ws (nmK (hdN (ws.getD 0 []))) then some (ipS ws (hdN (ws.getD 0 []))) else none
theorem hdN_cases (w : List UInt8) : hdN w = -1 ∨ hdN w = 0 ∨ hdN w = 1 ∨ hdN w = 2 := by
  unfold hdN wrdL idxL idxL idxL idxL
  split
  · exact .inr (.inl rfl)
  · split
    · exact .inr (.inr (.inl rfl))
    · split
      · exact .inr (.inr (.inr rfl))
      · exact .inl rfl
theorem GrN.setBase {A G : Heap} {y : Value} {esz n P : Nat} {vs : List Value} {k : Blk} (g : GrN A G y esz n vs) (hP : P < A.length) : GrN (A.set P k) (G.set P k) y esz n vs := by
  rcases g with ⟨b, ver, e1, e2, e3, e4, q⟩ | ⟨e1, e2, e3, q⟩
  · exact .inl ⟨b, ver, e1, by rw [List.getElem?_set_ne (by omega)]; exact e2, by simpa using e3, e4, set_pre q hP⟩
  · exact .inr ⟨e1, e2, e3, set_pre q hP⟩
theorem finish_keep2 {n0 : Nat} {G : Heap} {l : List Value} {v : Value} (h : l.all (old0 n0) = false) : finish n0 G [agg l, v] = (tup [agg l, v], G) := by
  have e1 : old1 n0 (agg l) = false := by
    show l.toArray.toList.all (old0 n0) = false
    simpa using h
  have : pack n0 G [agg l, v] [] [] = none := by
    rw [pack, if_neg (by rw [e1]; decide)]; rfl
  unfold finish; rw [this]; rfl
def zS0 : Value := agg [.int .i8 0, .int .i8 0, .int .i8 0, .int .i8 0, .slice none 0 0]
/-- What readStep hands back. -/
def R486 (H : Heap) (o : Option Sted) (r : Value × Heap) : Prop := match o with
  | some s => ∃ y G, r = (tup [agg (stC s y), .bool true], G) ∧ GrN H G y 2 s.rows.length (chsC s.rows)
  | none => r = (tup [zS0, .bool false], H)
def Q486 (n0 : Nat) (H : Heap) (o : Option Sted) : Ex → Env → Heap → Prop := fun x e' H' => (∀ i, x ≠ .exit i) ∧ ∃ r, (resVs e' H' [.v 2 5 true, .t 3]).map (finish n0 H') = some r ∧ R486 H o r
def stB5 (a : Int) (f : Nat → Int) (y : Value) : List Value := [.int .i8 a, .int .i8 (f 0), .int .i8 (f 1), .int .i8 (f 2), y]
def M486 (H : Heap) (ws : List (List UInt8)) (a : Int) (f : Nat → Int) (y : Value) : Heap :=
  H ++ [⟨ws.map str, 1, 0, false⟩, ⟨stB5 a f y, 1, 0, false⟩, ⟨[adr (H.length + 1) 1 0, adr (H.length + 1) 2 0, adr (H.length + 1) 3 0], 1, 0, false⟩]
theorem M486_len {H : Heap} {ws : List (List UInt8)} {a : Int} {f : Nat → Int} {y : Value} : (M486 H ws a f y).length = H.length + 3 := by simp [M486]
theorem M486_pre {H : Heap} {ws : List (List UInt8)} {a : Int} {f : Nat → Int} {y : Value} : Pre H (M486 H ws a f y) := ⟨_, rfl⟩
theorem M486_0 {H : Heap} {ws : List (List UInt8)} {a : Int} {f : Nat → Int} {y : Value} : (M486 H ws a f y)[H.length]? = some ⟨ws.map str, 1, 0, false⟩ := by
  rw [M486, List.getElem?_append_right (Nat.le_refl _), Nat.sub_self]; rfl
theorem M486_1 {H : Heap} {ws : List (List UInt8)} {a : Int} {f : Nat → Int} {y : Value} : (M486 H ws a f y)[H.length + 1]? = some ⟨stB5 a f y, 1, 0, false⟩ := by
  rw [M486, List.getElem?_append_right (by omega), show H.length + 1 - H.length = 1 by omega]; rfl
theorem M486_2 {H : Heap} {ws : List (List UInt8)} {a : Int} {f : Nat → Int} {y : Value} : (M486 H ws a f y)[H.length + 2]? = some ⟨[adr (H.length + 1) 1 0, adr (H.length + 1) 2 0, adr (H.length + 1) 3 0], 1, 0, false⟩ := by
  rw [M486, List.getElem?_append_right (by omega), show H.length + 2 - H.length = 2 by omega]; rfl
theorem M486_set {H : Heap} {ws : List (List UInt8)} {a : Int} {f g : Nat → Int} {y y' : Value} : (M486 H ws a f y).set (H.length + 1) ⟨stB5 a g y', 1, 0, false⟩ = M486 H ws a g y' := by
  rw [M486, List.set_append_right _ _ (by omega), show H.length + 1 - H.length = 1 by omega]; rfl
theorem ws_rd {G : Heap} {b : Nat} {ws : List (List UInt8)} (hg : G[b]? = some ⟨ws.map str, 1, 0, false⟩) {i : Nat} (hi : i < ws.length) : rd G b i 0 1 = some [str (ws.getD i [])] := by
  rw [rd_at hg rfl (by simp; omega)]
  congr 1
  rw [List.drop_eq_getElem_cons (by simpa using hi)]
  simp [hi]
/-- The rows, and what is handed back. -/
theorem c486_8 {H : Heap} {ws : List (List UInt8)} {a : Int} {k : Nat} {f : Nat → Int} {e : Env} (hk : k = nmK a) (hkw : k + 1 ≤ ws.length) (hn : ws.length ≤ 1000001) (hw : ∀ i, (ws.getD i []).length ≤ 1000000) (hf : f 0 = nmV ws k 0 ∧ f 1 = nmV ws k 1 ∧ f 2 = nmV ws k 2)
    (hnm : ∀ i, i < k → (nmAt ws i).isSome = true) (h2 : e 2 = zS0) (h4 : e 4 = slc H.length 0 0 ws.length ws.length) (h6 : e 6 = adr (H.length + 1) 0 0) (h7 : e 7 = slc (H.length + 2) 0 0 k 3) :
    WK tab H.length false (tailC 8 k486) [] e (M486 H ws a f (.slice none 0 0)) (Q486 H.length H (if ipOk ws k then some (ipS ws a) else none)) := by
  have w1 : IntKind.wrap .i64 ((k : Int) + 1) = ((k + 1 : Nat) : Int) := by rw [wrap64 (by omega)]; omega
  have hsl := slcAV_lo1 (H := M486 H ws a f (.slice none 0 0)) (b := H.length) (n := ws.length) (cap := ws.length) (lo := k + 1) M486_0 rfl rfl (by omega)
  unfold zS0 at h2
  simp [tailC, k486, h4, h7, w1, hsl, -Int.natCast_add]
  refine WP_count 79 (ws.length - (k + 1)) _ rfl (fun j e G => e 2 = zS0 ∧ e 6 = adr (H.length + 1) 0 0 ∧ e 77 = slc H.length (k + 1) 0 (ws.length - (k + 1)) (ws.length - (k + 1)) ∧ e 78 = .int .i64 ((ws.length - (k + 1) : Nat) : Int) ∧
    (∀ w ∈ (ws.drop (k + 1)).take j, (rwI w).isSome = true) ∧ ∃ y, GrN (M486 H ws a f y) G y 2 j (chsC (((ws.drop (k + 1)).take j).map rwD))) (by omega) ?_ ?_ (by simp)
    ⟨by simp [h2, zS0], by simp [h6], by simp, by simp, by simp, .slice none 0 0, .inr ⟨rfl, rfl, by simp [chsC, rowsC], .refl⟩⟩
  · rintro j e G _ hj hjj e4 h79 ⟨h2, h6, h77, h78, hall, y, hg⟩
    have p := hg.pre
    have gW : G[H.length]? = some ⟨ws.map str, 1, 0, false⟩ := by rw [p.get (by rw [M486_len]; omega)]; exact M486_0
    have gP : G[H.length + 1]? = some ⟨stB5 a f y, 1, 0, false⟩ := by rw [p.get (by rw [M486_len]; omega)]; exact M486_1
    have pH : Pre H G := M486_pre.trans p
    have ha : idxAV 1 (slc H.length (k + 1) 0 (ws.length - (k + 1)) (ws.length - (k + 1))) (.int .i64 (j : Int)) = some (adr H.length (k + 1 + j) 0) := by
      rw [idxAV_slc, at_nat hj]; simp
    have hr := ws_rd gW (i := k + 1 + j) (by omega)
    obtain ⟨w, hwd⟩ : ∃ w, w = ws.getD (k + 1 + j) [] := ⟨_, rfl⟩
    rw [← hwd] at hr
    have hwl : w.length ≤ 1000000 := by rw [hwd]; exact hw _
    have htk : (ws.drop (k + 1)).take (j + 1) = (ws.drop (k + 1)).take j ++ [w] := by
      rw [List.take_add_one, List.getElem?_drop, hwd]
      have : k + 1 + j < ws.length := by omega
      simp [this]
    have hmem : w ∈ ws.drop (k + 1) := by
      rw [hwd, List.mem_iff_getElem?]
      have hlt : k + 1 + j < ws.length := by omega
      exact ⟨j, by rw [List.getElem?_drop, List.getD_eq_getElem?_getD, List.getElem?_eq_getElem hlt]; rfl⟩
    obtain ⟨l1, l2⟩ := cut_len 58 w
    have c1 := call377 (pu := false) (c := 58) (H := G) hwl
    obtain ⟨u, c2, hu⟩ := call378 (pu := true) (l := (cutc 58 w).1) (lo := 0) (hi := 11) (H := G) (by omega) (by omega) (by omega)
    obtain ⟨v, c3, hv⟩ := call378 (pu := true) (l := (cutc 58 w).2.1) (lo := 1) (hi := 4095) (H := G) (by omega) (by omega) (by omega)
    have hel : elder H.length false G (tup [str (cutc 58 w).1, str (cutc 58 w).2.1, .bool (cutc 58 w).2.2], G) = some (tup [str (cutc 58 w).1, str (cutc 58 w).2.1, .bool (cutc 58 w).2.2], G) := elder_same rfl
    have hbad : (rwI w).isSome = false → ¬ ipOk ws k := fun h hc => by
      have := hc.2.2 w hmem
      rw [h] at this; cases this
    have hfin : ∀ (h : (rwI w).isSome = false), R486 H (if ipOk ws k then some (ipS ws a) else none) (finish H.length G [agg [.int .i8 0, .int .i8 0, .int .i8 0, .int .i8 0, .slice none 0 0], .bool false]) := fun h => by
      rw [finish_2 rfl old1_bool, if_neg (hbad h), pH.take]; rfl
    unfold zS0 at h2
    have hf0 : fill [.int .i8 0, .int .i8 0, .int .i8 0, .int .i8 0, .slice none 0 0] [] = some [.int .i8 0, .int .i8 0, .int .i8 0, .int .i8 0, .slice none 0 0] := rfl
    cases b1 : (cutc 58 w).2.2 with
    | false =>
      have hno : (rwI w).isSome = false := by unfold rwI; rw [if_neg (by rw [b1]; decide)]; rfl
      rw [b1] at c1 hel
      simp [b486_2, h79, h77, h78, h6, hjj, ha, hr, c1, hel, wbOf, c2, c3, skip, Q486, stc5, h2, hf0]
      exact hfin hno
    | true =>
      have hrw : rwI w = mv2 (rdIn (cutc 58 w).1 0 11) (rdIn (cutc 58 w).2.1 1 4095) := by unfold rwI; rw [if_pos b1]
      rw [b1] at c1 hel
      cases b2 : rdIn (cutc 58 w).1 0 11 with
      | none =>
        rw [b2] at c2
        have hno : (rwI w).isSome = false := by rw [hrw, b2]; rfl
        simp [b486_2, h79, h77, h78, h6, hjj, ha, hr, c1, hel, wbOf, c2, c3, skip, Q486, stc5, h2, hf0]
        exact hfin hno
      | some u' =>
        obtain rfl := hu u' b2
        rw [b2] at c2
        cases b3 : rdIn (cutc 58 w).2.1 1 4095 with
        | none =>
          rw [b3] at c3
          have hno : (rwI w).isSome = false := by rw [hrw, b2, b3]; rfl
          simp [b486_2, h79, h77, h78, h6, hjj, ha, hr, c1, hel, wbOf, c2, c3, Q486, stc5, h2, hf0]
          exact hfin hno
        | some v' =>
          obtain rfl := hv v' b3
          rw [b3] at c3
          have hrs : rwI w = some (u, v) := by rw [hrw, b2, b3]; rfl
          obtain ⟨_, u1, u2⟩ := (rdIn_iff (by omega) (by omega)).1 b2
          obtain ⟨_, v1, v2⟩ := (rdIn_iff (by omega) (by omega)).1 b3
          have wu : IntKind.wrap .i8 u = u := wrap8 (by omega)
          have wv : IntKind.wrap .u16 v = v := wrapu16 (by omega)
          have r4 : rd G (H.length + 1) 4 0 1 = some [y] := by rw [rd_at gP rfl (by simp [stB5])]; rfl
          have hf1 : fill [.int .i8 0, .int .u16 0] [(0, 1, .int .i8 u), (1, 1, .int .u16 v)] = some (chC (u, v)) := rfl
          have hf2 := fill_one (z := [.int .i8 0, .int .u16 0]) (v := agg (chC (u, v))) (esz := 2) rfl rfl
          obtain ⟨y', G', hpush, hg'⟩ := hg.push0 (n0 := H.length) (c := chC (u, v)) (bytes := 4) (by rw [M486_len]; omega) rfl (by have : roomMax = 140737488355328 := rfl; omega) (wb := false)
          have p' := hg'.pre
          have gP' : G'[H.length + 1]? = some ⟨stB5 a f y, 1, 0, false⟩ := by rw [p'.get (by rw [M486_len]; omega)]; exact M486_1
          have hwr := wr_at (n0 := H.length) (wb := false) (off := 4) (vs := [y']) (ver := 0) gP' rfl rfl (by simp [may]) (by simp [stB5])
          have hsp : splice (stB5 a f y) 4 [y'] = stB5 a f y' := rfl
          simp only [hsp] at hwr
          have hg2 := hg'.setBase (P := H.length + 1) (k := ⟨stB5 a f y', 1, 0, false⟩) (by rw [M486_len]; omega)
          rw [M486_set, chsC_push] at hg2
          have hcy : cellsOf y' = [y'] := by
            rcases hg' with ⟨_, _, rfl, _⟩ | ⟨rfl, _⟩ <;> rfl
          have hrd : rwD w = (u, v) := by unfold rwD; rw [hrs]; rfl
          have hmap : ((ws.drop (k + 1)).take j).map rwD ++ [(u, v)] = ((ws.drop (k + 1)).take (j + 1)).map rwD := by rw [htk, List.map_append, List.map_cons, hrd]; rfl
          rw [hmap] at hg2
          have hall2 : ∀ w' ∈ (ws.drop (k + 1)).take (j + 1), (rwI w').isSome = true := fun w' hw' => by
            rw [htk] at hw'
            rcases List.mem_append.1 hw' with h | h
            · exact hall w' h
            · rw [List.mem_singleton] at h; rw [h, hrs]; rfl
          simp [b486_2, h79, h77, h78, h6, hjj, ha, hr, c1, hel, wbOf, c2, c3, wu, wv, r4, hf1, hf2, hpush, hwr, hcy, e4]
          exact ⟨by simp [h2, zS0], hall2, y', by rw [← List.map_drop, ← List.map_take]; exact hg2⟩
  · rintro e G _ h79 ⟨h2, h6, h77, h78, hall, y, hg⟩
    have p := hg.pre
    have gP : G[H.length + 1]? = some ⟨stB5 a f y, 1, 0, false⟩ := by rw [p.get (by rw [M486_len]; omega)]; exact M486_1
    have hdl : (ws.drop (k + 1)).take (ws.length - (k + 1)) = ws.drop (k + 1) := List.take_of_length_le (by simp)
    rw [hdl] at hall hg
    have hok : ipOk ws k := ⟨hkw, hnm, hall⟩
    have r5 : rd G (H.length + 1) 0 0 5 = some (stB5 a f y) := by rw [rd_at gP rfl (by simp [stB5])]; rfl
    have hst : stB5 a f y = stC (ipS ws a) y := by
      unfold stB5 stC ipS
      rw [← hk, hf.1, hf.2.1, hf.2.2]
    unfold zS0 at h2
    have hlen : (ipS ws a).rows.length = ws.length - (k + 1) := by simp [ipS, ← hk]
    have hgy : GrN H G y 2 (ipS ws a).rows.length (chsC (ipS ws a).rows) := by
      rw [hlen]
      have : (ipS ws a).rows = (ws.drop (k + 1)).map rwD := by simp [ipS, ← hk]
      rw [this]
      exact hg.low M486_pre
    rw [hst] at r5
    have hs5 : stc (agg [.int .i8 0, .int .i8 0, .int .i8 0, .int .i8 0, .slice none 0 0]) 0 (stC (ipS ws a) y) = some (agg (stC (ipS ws a) y)) := rfl
    have hc5 : cellsOf (agg (stC (ipS ws a) y)) = stC (ipS ws a) y := by simp [cellsOf, agg]
    obtain ⟨r, hr1, hr2⟩ : ∃ r, finish H.length G [agg (stC (ipS ws a) y), .bool true] = r ∧ R486 H (some (ipS ws a)) r := by
      rcases hgy with hy | ⟨rfl, e1, e2, q⟩
      · have ho : old0 H.length y = false := by
          obtain ⟨b, ver, rfl, _, h, _⟩ := hy
          rw [old0_slc]; simp; omega
        exact ⟨_, finish_keep2 (by simp [stC, ho]), y, G, rfl, .inl hy⟩
      · have ho : old1 H.length (agg (stC (ipS ws a) (.slice none 0 0))) = true := rfl
        refine ⟨_, finish_2 ho old1_bool, _, _, rfl, ?_⟩
        rw [q.take]
        exact .inr ⟨rfl, e1, e2, .refl⟩
    rw [if_pos hok]
    simp only [stC] at hr1 r5
    simp [b486_2, h79, h78, h6, h2, r5, stc5, Q486, hr1, hr2]
theorem spl_lens (c : UInt8) (l : List UInt8) : ∀ i, ((spl c [] l).getD i []).length ≤ l.length := fun i => by
  by_cases h : i < (spl c [] l).length
  · have hm : (spl c [] l).getD i [] ∈ spl c [] l := by simp [h]
    simpa using spl_len c l [] _ hm
  · rw [List.getD_eq_getElem?_getD, List.getElem?_eq_none (by omega)]; simp
theorem stB5_put {ws : List (List UInt8)} {a v : Int} {i : Nat} {y : Value} (hi : i < 3) (hv : nmAt ws i = some v) : splice (stB5 a (nmV ws i) y) (i + 1) [.int .i8 v] = stB5 a (nmV ws (i + 1)) y := by
  match i, hi with
  | 0, _ => simp [stB5, nmV, splice, hv]
  | 1, _ => simp [stB5, nmV, splice, hv]
  | 2, _ => simp [stB5, nmV, splice, hv]
theorem c486_7 {H : Heap} {ws : List (List UInt8)} {a : Int} {k : Nat} {e : Env} (hk : k = nmK a) (hk3 : k ≤ 3) (hkw : k + 1 ≤ ws.length) (hn : ws.length ≤ 1000001) (hw : ∀ i, (ws.getD i []).length ≤ 1000000)
    (h2 : e 2 = zS0) (h4 : e 4 = slc H.length 0 0 ws.length ws.length) (h6 : e 6 = adr (H.length + 1) 0 0) (h7 : e 7 = slc (H.length + 2) 0 0 k 3) :
    WK tab H.length false (tailC 7 k486) [] e (M486 H ws a (nmV ws 0) (.slice none 0 0)) (Q486 H.length H (if ipOk ws k then some (ipS ws a) else none)) := by
  have hT : tailC 7 k486 = headC 1 (tailC 7 k486) (tailC 8 k486) := rfl
  rw [hT]
  obtain ⟨T, hTT⟩ : ∃ T, T = tailC 8 k486 := ⟨_, rfl⟩
  rw [← hTT]
  unfold zS0 at h2
  simp [headC, tailC, k486, h7]
  refine WP_count 51 k _ rfl (fun i e G => e 2 = zS0 ∧ e 4 = slc H.length 0 0 ws.length ws.length ∧ e 6 = adr (H.length + 1) 0 0 ∧ e 7 = slc (H.length + 2) 0 0 k 3 ∧ e 49 = slc (H.length + 2) 0 0 k 3 ∧ e 50 = .int .i64 (k : Int) ∧
    (∀ j, j < i → (nmAt ws j).isSome = true) ∧ G = M486 H ws a (nmV ws i) (.slice none 0 0)) (by omega) ?_ ?_ (by simp) ⟨by simp [h2, zS0], by simp [h4], by simp [h6], by simp [h7], by simp, by simp, by simp, by simp⟩
  · rintro i e G _ hi hii e4' h51 ⟨h2, h4, h6, h7, h49, h50, hall, hG⟩
    have ha : idxAV 1 (slc (H.length + 2) 0 0 k 3) (.int .i64 (i : Int)) = some (adr (H.length + 2) i 0) := by rw [idxAV_slc, at_nat hi]; simp
    have hr : rd G (H.length + 2) i 0 1 = some [adr (H.length + 1) (i + 1) 0] := by
      rw [hG, rd_at M486_2 rfl (by simp; omega)]
      match i, show i < 3 by omega with
      | 0, _ => rfl
      | 1, _ => rfl
      | 2, _ => rfl
    have w1 : IntKind.wrap .i64 ((i : Int) + 1) = ((i + 1 : Nat) : Int) := by rw [wrap64 (by omega)]; omega
    have ha2 : idxAV 1 (slc H.length 0 0 ws.length ws.length) (.int .i64 ((i + 1 : Nat) : Int)) = some (adr H.length (i + 1) 0) := by rw [idxAV_slc, at_nat (by omega)]; simp
    have hr2 : rd G H.length (i + 1) 0 1 = some [str (ws.getD (i + 1) [])] := by rw [hG]; exact ws_rd M486_0 (by omega)
    obtain ⟨w, hwd⟩ : ∃ w, w = ws.getD (i + 1) [] := ⟨_, rfl⟩
    rw [← hwd] at hr2
    have hwl : w.length ≤ 1000000 := by rw [hwd]; exact hw _
    obtain ⟨v, c1, hv⟩ := call378 (pu := true) (l := w) (lo := -12) (hi := 40) (H := G) hwl (by omega) (by omega)
    have hnm : nmAt ws i = rdIn w (-12) 40 := by rw [hwd]; rfl
    have hf0 : fill [.int .i8 0, .int .i8 0, .int .i8 0, .int .i8 0, .slice none 0 0] [] = some [.int .i8 0, .int .i8 0, .int .i8 0, .int .i8 0, .slice none 0 0] := rfl
    have pH : Pre H G := by rw [hG]; exact M486_pre
    unfold zS0 at h2
    cases b : rdIn w (-12) 40 with
    | none =>
      rw [b] at c1
      have hno : ¬ ipOk ws k := fun hc => by
        have := hc.2.1 i hi
        rw [hnm, b] at this; cases this
      have hfin : R486 H (if ipOk ws k then some (ipS ws a) else none) (finish H.length G [agg [.int .i8 0, .int .i8 0, .int .i8 0, .int .i8 0, .slice none 0 0], .bool false]) := by
        rw [finish_2 rfl old1_bool, if_neg hno, pH.take]; rfl
      simp only [Option.isSome_none] at c1
      simp [b486_1, h51, h49, h50, hii, ha, hr, w1, -Int.natCast_add, h4, ha2, hr2, c1, Q486, stc5, h2, hf0]
      exact hfin
    | some v' =>
      obtain rfl := hv v' b
      rw [b] at c1
      obtain ⟨_, v1, v2⟩ := (rdIn_iff (by omega) (by omega)).1 b
      have wv : IntKind.wrap .i8 v = v := wrap8 (by omega)
      have gP : G[H.length + 1]? = some ⟨stB5 a (nmV ws i) (.slice none 0 0), 1, 0, false⟩ := by rw [hG]; exact M486_1
      have hwr := wr_at (n0 := H.length) (wb := false) (off := i + 1) (vs := [.int .i8 v]) (ver := 0) gP rfl rfl (by simp [may]) (by simp [stB5]; omega)
      have hsp := stB5_put (a := a) (y := .slice none 0 0) (show i < 3 by omega) (hnm.trans b)
      simp only [hsp] at hwr
      rw [hG, M486_set, ← hG] at hwr
      have hall2 : ∀ j, j < i + 1 → (nmAt ws j).isSome = true := fun j hj => by
        by_cases h : j = i
        · subst h; rw [hnm, b]; rfl
        · exact hall j (by omega)
      simp only [Option.isSome_some] at c1
      simp [b486_1, h51, h49, h50, hii, ha, hr, w1, -Int.natCast_add, h4, ha2, hr2, c1, wv, hwr, wbOf, e4']
      exact ⟨by omega, by simp [h2, zS0], by simp [h6], by simp [h7], hall2⟩
  · rintro e G _ h51 ⟨h2, h4, h6, h7, h49, h50, hall, rfl⟩
    simp [b486_1, h51, h50]
    rw [hTT]
    exact c486_8 hk hkw hn hw ⟨rfl, rfl, rfl⟩ hall (by simp [h2]) (by simp [h4]) (by simp [h6]) (by simp [h7])
theorem call486 {pu : Bool} {H : Heap} {l : List UInt8} (hd : Wd H) (hl : l.length ≤ 1000000) : ∃ r, Call tab pu 486 [str l] H = some r ∧ R486 H (implP (spl 32 [] l)) r := by
  refine Call_ex t486 (.inr rfl) rfl ?_
  show WK tab H.length false k486 [] (ini [str l]) H (Q486 H.length H (implP (spl 32 [] l)))
  obtain ⟨ws, hws⟩ : ∃ ws, ws = spl 32 [] l := ⟨_, rfl⟩
  have c1 := call485 (pu := false) (c := 32) (H := H) hl
  have hcnt : ws.length ≤ 1000001 := by
    have := spl_count 32 l []
    rw [hws]; omega
  have hpos : 1 ≤ ws.length := by
    rcases Nat.eq_zero_or_pos ws.length with h | h
    · exact absurd (List.length_eq_zero_iff.1 h) (by rw [hws]; exact spl_ne 32 l [])
    · exact h
  have hw : ∀ i, (ws.getD i []).length ≤ 1000000 := fun i => by rw [hws]; have := spl_lens 32 l i; omega
  rw [← hws] at c1 ⊢
  obtain ⟨H1, hH1⟩ : ∃ H1, H1 = H ++ [(⟨ws.map str, 1, 0, false⟩ : Blk)] := ⟨_, rfl⟩
  rw [← hH1] at c1
  have p1 : Pre H H1 := by rw [hH1]; exact Pre.one
  have hel : elder H.length false H (slc H.length 0 0 ws.length ws.length, H1) = some (slc H.length 0 0 ws.length ws.length, H1) := elder_same (by rw [p1.take, List.take_length])
  have gW : H1[H.length]? = some ⟨ws.map str, 1, 0, false⟩ := by rw [hH1]; exact get_last
  have h0 : rd H1 H.length 0 0 1 = some [str (ws.getD 0 [])] := ws_rd gW (by omega)
  have ha0 : idxAV 1 (slc H.length 0 0 ws.length ws.length) (.int .i64 0) = some (adr H.length 0 0) := by rw [idxAV_slc]; show Option.map _ (at' ws.length (.int .i64 ((0 : Nat) : Int))) = _; rw [at_nat (by omega)]; simp
  have hd1 := hd.pre p1
  have hsP : slcPV H1 3 1 (adr 0 0 0) = some (slc 0 0 0 3 3) := by
    show (match H1[0]? with
      | some k => if 0 = k.ver ∧ k.esz = 1 ∧ 0 + 3 * 1 ≤ k.cells.length then some (slc 0 0 0 3 3) else none
      | none => none) = _
    rw [show H1[0]? = some ⟨wrdL.map str, 1, 0, true⟩ from hd1]
    rfl
  have hsl : SlR H1 (slc 0 0 0 3 3) 1 wrdL.length (wrdL.map str) := ⟨rfl, .inr ⟨0, 0, 0, 3, rfl, Nat.le_refl _, by rw [rd_at hd1 rfl (by simp [wrdL])]; rfl, _, hd1, rfl, rfl⟩⟩
  have c2 := call559 (pu := true) (w := ws.getD 0 []) hsl (by decide)
  obtain ⟨w0, hw0⟩ : ∃ w0, w0 = ws.getD 0 [] := ⟨_, rfl⟩
  rw [← hw0] at h0 c2
  have hh : idxL w0 wrdL 0 = hdN w0 := rfl
  rw [hh] at c2
  have hf0 : fill [.int .i8 0, .int .i8 0, .int .i8 0, .int .i8 0, .slice none 0 0] [] = some [.int .i8 0, .int .i8 0, .int .i8 0, .int .i8 0, .slice none 0 0] := rfl
  have hP : implP ws = if hdN w0 < 0 then none else if ipOk ws (nmK (hdN w0)) then some (ipS ws (hdN w0)) else none := by rw [hw0]; rfl
  obtain ⟨a, hadef⟩ : ∃ a, a = hdN w0 := ⟨_, rfl⟩
  have hac := hdN_cases w0
  rw [← hadef] at hP hac c2
  have hfinN : ∀ G, Pre H G → R486 H none (finish H.length G [agg [.int .i8 0, .int .i8 0, .int .i8 0, .int .i8 0, .slice none 0 0], .bool false]) := fun G p => by
    rw [finish_2 rfl old1_bool, p.take]; rfl
  rw [hP]
  by_cases hneg : a < 0
  · rw [if_pos hneg]
    have ha1 : a = -1 := by omega
    subst ha1
    simp [k486, c1, hel, wbOf, ptr0, hsP, ha0, h0, c2, Q486, stc5, hf0]
    exact hfinN _ p1
  · rw [if_neg hneg]
    have hT : k486 = headC 7 k486 (tailC 7 k486) := rfl
    rw [hT]
    obtain ⟨T, hTT⟩ : ∃ T, T = tailC 7 k486 := ⟨_, rfl⟩
    rw [← hTT]
    obtain ⟨k, hk⟩ : ∃ k, k = nmK a := ⟨_, rfl⟩
    have hk3 : k ≤ 3 := by rw [hk]; unfold nmK; split; · omega
                           split <;> omega
    have wa : IntKind.wrap .i8 a = a := wrap8 (by omega)
    have hf1 : fill [.int .i8 0, .int .i8 0, .int .i8 0, .int .i8 0, .slice none 0 0] [(0, 1, .int .i8 a)] = some (stB5 a (nmV ws 0) (.slice none 0 0)) := rfl
    obtain ⟨H2, hH2⟩ : ∃ H2, H2 = H1 ++ [(⟨[.int .i8 0, .int .i8 0, .int .i8 0, .int .i8 0, .slice none 0 0], 1, 0, false⟩ : Blk)] := ⟨_, rfl⟩
    have l1 : H1.length = H.length + 1 := by rw [hH1]; simp
    have g2 : H2[H.length + 1]? = some ⟨[.int .i8 0, .int .i8 0, .int .i8 0, .int .i8 0, .slice none 0 0], 1, 0, false⟩ := by rw [hH2, ← l1]; exact get_last
    have hwr := wr_at (n0 := H.length) (wb := false) (off := 0) (vs := stB5 a (nmV ws 0) (.slice none 0 0)) (ver := 0) g2 rfl rfl (by simp [may]) (by simp [stB5])
    have hsp : splice [.int .i8 0, .int .i8 0, .int .i8 0, .int .i8 0, .slice none 0 0] 0 (stB5 a (nmV ws 0) (.slice none 0 0)) = stB5 a (nmV ws 0) (.slice none 0 0) := rfl
    simp only [hsp] at hwr
    obtain ⟨H3, hH3⟩ : ∃ H3, H3 = H2.set (H.length + 1) ⟨stB5 a (nmV ws 0) (.slice none 0 0), 1, 0, false⟩ := ⟨_, rfl⟩
    rw [← hH3] at hwr
    have l3 : H3.length = H.length + 2 := by rw [hH3, hH2, hH1]; simp
    have hM : H3 ++ [⟨[adr (H.length + 1) 1 0, adr (H.length + 1) 2 0, adr (H.length + 1) 3 0], 1, 0, false⟩] = M486 H ws a (nmV ws 0) (.slice none 0 0) := by
      rw [hH3, hH2, ← l1, List.set_append_right _ _ (Nat.le_refl _), hH1, M486]; simp
    have hf3 : fill [.pointer none, .pointer none, .pointer none] [(0, 1, adr (H.length + 1) 1 0), (1, 1, adr (H.length + 1) 2 0), (2, 1, adr (H.length + 1) 3 0)] = some [adr (H.length + 1) 1 0, adr (H.length + 1) 2 0, adr (H.length + 1) 3 0] := rfl
    have hidx : idxV 3 1 false (agg [.int .i64 0, .int .i64 1, .int .i64 3]) (.int .i64 a) = some (.int .i64 (k : Int)) := by
      rcases hac with h | h | h | h
      · omega
      · subst h; rw [hk]; rfl
      · subst h; rw [hk]; rfl
      · subst h; rw [hk]; rfl
    have hf4 : fill [.int .i64 0, .int .i64 0, .int .i64 0] [(0, 1, .int .i64 0), (1, 1, .int .i64 1), (2, 1, .int .i64 3)] = some [.int .i64 0, .int .i64 1, .int .i64 3] := rfl
    have hslk := slcAV_hi (H := M486 H ws a (nmV ws 0) (.slice none 0 0)) (b := H.length + 2) (off := 0) (ver := 0) (len := 3) (cap := 3) (esz := 1) (hi := k) (kk := .i64) M486_2 rfl rfl hk3
    have wk : IntKind.wrap .i64 ((k : Int) + 1) = ((k + 1 : Nat) : Int) := by rw [wrap64 (by omega)]; omega
    have hcs : cellsOf (agg (stB5 a (nmV ws 0) (.slice none 0 0))) = stB5 a (nmV ws 0) (.slice none 0 0) := by simp [cellsOf, agg]
    have hl5 : (stB5 a (nmV ws 0) (.slice none 0 0)).length = 5 := rfl
    by_cases hlen : ws.length < k + 1
    · have hlt : (ws.length : Int) < ((k + 1 : Nat) : Int) := by omega
      have hno : ¬ ipOk ws k := fun hc => by have := hc.1; omega
      rw [← hk, if_neg hno]
      simp [headC, k486, c1, hel, wbOf, ptr0, hsP, ha0, h0, c2, hneg, wa, hf1, ← hH2, l1, hwr, hcs, hl5, hf3, hM, l3, hf4, hidx, hslk, rep, wk, -Int.natCast_add, hlt, Q486, stc5, hf0]
      exact hfinN _ M486_pre
    · have hlt : ¬ (ws.length : Int) < ((k + 1 : Nat) : Int) := by omega
      simp [headC, k486, c1, hel, wbOf, ptr0, hsP, ha0, h0, c2, hneg, wa, hf1, ← hH2, l1, hwr, hcs, hl5, hf3, hM, l3, hf4, hidx, hslk, rep, wk, -Int.natCast_add, hlt]
      rw [hTT, ← hk]
      exact c486_7 hk hk3 (by omega) hcnt hw (by simp; rfl) (by simp) (by simp) (by simp)
theorem implP_W {ws : List (List UInt8)} {s : Sted} (h : implP ws = some s) : StW s ∧ s.rows.length + 1 ≤ ws.length ∧ 0 ≤ s.a ∧ s.a ≤ 2 := by
  unfold implP at h
  have hac := hdN_cases (ws.getD 0 [])
  generalize hdN (ws.getD 0 []) = a at h hac
  split at h
  · cases h
  · rename_i hneg
    split at h
    · rename_i hok
      cases h
      have hnv : ∀ i, -12 ≤ nmV ws (nmK a) i ∧ nmV ws (nmK a) i ≤ 40 := fun i => by
        unfold nmV
        split
        · rename_i hi
          have := hok.2.1 i hi
          cases hv : nmAt ws i with
          | none => rw [hv] at this; cases this
          | some v =>
            have := ((rdIn_iff (by omega) (by omega)).1 (show rdIn (ws.getD (i + 1) []) (-12) 40 = some v from hv)).2
            simp; omega
        · omega
      have h0 := hnv 0
      have h1 := hnv 1
      have h2 := hnv 2
      refine ⟨⟨⟨by simp only [ipS]; omega, by simp only [ipS]; omega⟩, ⟨by simp only [ipS]; omega, by simp only [ipS]; omega⟩, ⟨by simp only [ipS]; omega, by simp only [ipS]; omega⟩, ⟨by simp only [ipS]; omega, by simp only [ipS]; omega⟩, fun m hm => ?_⟩, ?_, by simp only [ipS]; omega, by simp only [ipS]; omega⟩
      · simp only [ipS] at hm
        obtain ⟨w, hw, rfl⟩ := List.mem_map.1 hm
        have hs := hok.2.2 w hw
        unfold rwD
        cases hr : rwI w with
        | none => rw [hr] at hs; cases hs
        | some m =>
          unfold rwI at hr
          split at hr
          · unfold mv2 at hr
            split at hr
            · rename_i u v hu hv
              cases hr
              have g1 := ((rdIn_iff (by omega) (by omega)).1 hu).2
              have g2 := ((rdIn_iff (by omega) (by omega)).1 hv).2
              simp only [Option.getD_some]
              exact ⟨⟨by omega, by omega⟩, by omega, by omega⟩
            · cases hr
          · cases hr
      · have := hok.1
        simp [ipS]; omega
    · cases h
theorem take_at' {α : Type} {d : α} {L : List α} {i : Nat} (hi : i < L.length) : L.take (i + 1) = L.take i ++ [L.getD i d] := by
  rw [List.take_add_one, List.getElem?_eq_getElem hi, List.getD_eq_getElem?_getD, List.getElem?_eq_getElem hi]; rfl
def lnP (l : List UInt8) : Option Sted := implP (spl 32 [] l)
def lnD (l : List UInt8) : Sted := (lnP l).getD default
/-- The lines of a text. -/
def rdL (t : List UInt8) : List (List UInt8) := (spl 10 [] t).dropLast
def imOk (t : List UInt8) : Prop := (∀ l ∈ rdL t, (lnP l).isSome = true) ∧ okSts ((rdL t).map lnD) = true ∧ stepsTx ((rdL t).map lnD) = t
instance {t : List UInt8} : Decidable (imOk t) := by unfold imOk; infer_instance
/-- The steps that the program reads. -/
def imR (t : List UInt8) : Option (List Sted) := if imOk t then some ((rdL t).map lnD) else none
def RsR (H : Heap) (r : Value × Heap) : Option (List Sted) → Prop
  | some l => ∃ x G, r = (tup [x, .int .i64 0], G) ∧ StX H.length G x l ∧ Pre H G
  | none => r = (tup [.slice none 0 0, .int .i64 5], H)
theorem call290 {pu : Bool} {H : Heap} {t : List UInt8} (hd : Wd H) (hl : t.length ≤ 1000000) : ∃ r, Call tab2 pu 290 [str t] H = some r ∧ RsR H r (imR t) := by
  refine Call_ex u290 (.inr rfl) rfl ?_
  obtain ⟨ls, hls⟩ : ∃ ls, ls = spl 10 [] t := ⟨_, rfl⟩
  have hcnt : ls.length ≤ 1000001 := by
    have := spl_count 10 t []
    rw [hls]; omega
  have hpos : 1 ≤ ls.length := by
    rcases Nat.eq_zero_or_pos ls.length with h | h
    · exact absurd (List.length_eq_zero_iff.1 h) (by rw [hls]; exact spl_ne 10 t [])
    · exact h
  have hw : ∀ i, (ls.getD i []).length ≤ 1000000 := fun i => by rw [hls]; have := spl_lens 10 t i; omega
  obtain ⟨H1, hH1⟩ : ∃ H1, H1 = H ++ [(⟨[], 5, 0, false⟩ : Blk)] := ⟨_, rfl⟩
  have p1 : Pre H H1 := by rw [hH1]; exact Pre.one
  have l1 : H1.length = H.length + 1 := by rw [hH1]; simp
  have c1 := call485 (pu := false) (c := 10) (H := H1) hl
  rw [← hls] at c1
  obtain ⟨H2, hH2⟩ : ∃ H2, H2 = H1 ++ [(⟨ls.map str, 1, 0, false⟩ : Blk)] := ⟨_, rfl⟩
  rw [← hH2, l1] at c1
  have c1 := up c1
  have p2 : Pre H1 H2 := by rw [hH2]; exact Pre.one
  have hel : elder H.length false H1 (slc (H.length + 1) 0 0 ls.length ls.length, H2) = some (slc (H.length + 1) 0 0 ls.length ls.length, H2) := elder_same (by rw [(p1.trans p2).take, p1.take])
  have gL : H2[H.length + 1]? = some ⟨ls.map str, 1, 0, false⟩ := by rw [hH2, ← l1]; exact get_last
  have hsl := slcAV_hi (H := H2) (b := H.length + 1) (off := 0) (ver := 0) (len := ls.length) (cap := ls.length) (esz := 1) (hi := ls.length - 1) (kk := .i64) gL rfl rfl (by omega)
  have w1 : IntKind.wrap .i64 ((ls.length : Int) - 1) = ((ls.length - 1 : Nat) : Int) := by rw [wrap64 (by omega)]; omega
  have hD0 : StD H.length H2 H.length 0 [] := by
    have := StD.new (n0 := H.length) (G := H) (Nat.le_refl _)
    rw [← hH1] at this
    exact this.pre p2
  have hrl : rdL t = ls.take (ls.length - 1) := by rw [rdL, ← hls, List.dropLast_eq_take]
  have hf : fill ([] : List Value) [] = some [] := rfl
  have hfinN : ∀ G, Pre H G → ∃ r, finish H.length G [.slice none 0 0, .int .i64 5] = r ∧ RsR H r none := fun G p => by
    refine ⟨_, finish_2 old1_nil old1_int, ?_⟩
    rw [p.take]; rfl
  simp [c290, k290, hf, rep, ← hH1, c1, hel, wbOf, w1, hsl]
  refine WP_count 19 (ls.length - 1) _ rfl (fun i e G => e 0 = str t ∧ e 2 = .slice none 0 0 ∧ e 17 = slc (H.length + 1) 0 0 (ls.length - 1) ls.length ∧ e 18 = .int .i64 ((ls.length - 1 : Nat) : Int) ∧ ∃ ver, e 4 = slc H.length 0 ver i i ∧ Pre H G ∧
    StD H.length G H.length ver ((ls.take i).map lnD) ∧ G[H.length + 1]? = some ⟨ls.map str, 1, 0, false⟩ ∧ ∀ l ∈ ls.take i, (lnP l).isSome = true) (by omega) ?_ ?_ (by simp)
    ⟨by simp, by simp, by simp, by simp, 0, by simp, p1.trans p2, by simpa using hD0, gL, by simp⟩
  · rintro i e G _ hi hii e4' h19 ⟨h0, h2, h17, h18, ver, h4, pG, hS, gL, hall⟩
    have ha : idxAV 1 (slc (H.length + 1) 0 0 (ls.length - 1) ls.length) (.int .i64 (i : Int)) = some (adr (H.length + 1) i 0) := by rw [idxAV_slc, at_nat hi]; simp
    have hr := ws_rd gL (i := i) (by omega)
    obtain ⟨w, hwd⟩ : ∃ w, w = ls.getD i [] := ⟨_, rfl⟩
    rw [← hwd] at hr
    have hwl : w.length ≤ 1000000 := by rw [hwd]; exact hw _
    obtain ⟨r, c2, R⟩ := call486 (pu := true) (hd.pre pG) hwl
    have htk : ls.take (i + 1) = ls.take i ++ [w] := by rw [take_at' (by omega : i < ls.length), hwd]
    have hlen : ((ls.take i).map lnD).length = i := by simp; omega
    cases hp : implP (spl 32 [] w) with
    | none =>
      rw [hp] at R
      have R : r = (tup [zS0, .bool false], G) := R
      subst R
      have c2 := up c2
      have hno : imR t = none := by
        unfold imR
        rw [if_neg]
        intro hc
        have := hc.1 w (by
          rw [hrl, hwd]
          have hlt : i < (ls.take (ls.length - 1)).length := by simp; omega
          have : (ls.take (ls.length - 1))[i]? = some (ls.getD i []) := by
            rw [List.getElem?_take, if_pos (by omega), List.getD_eq_getElem?_getD, List.getElem?_eq_getElem (by omega)]; rfl
          exact List.mem_of_getElem? this)
        unfold lnP at this
        rw [hp] at this; cases this
      obtain ⟨r', e1, R'⟩ := hfinN G pG
      rw [hno]
      unfold zS0 at c2
      simp [b290_1, h19, h17, h18, hii, ha, hr, c2, stc5, e1, R']
    | some s =>
      rw [hp] at R
      obtain ⟨y, G2, rfl, hy⟩ := R
      have c2 := up c2
      have pG2 := hy.pre
      obtain ⟨G3, hpush, hS3, hkeep, hpre⟩ := hS.push pG2 hy pG.len (by rw [hlen]; have : roomMax = 140737488355328 := rfl; omega) (wb := false)
      rw [hlen] at hpush
      have hs : lnD w = s := by unfold lnD lnP; rw [hp]; rfl
      have gL2 : G2[H.length + 1]? = some ⟨ls.map str, 1, 0, false⟩ := by rw [pG2.get (List.getElem?_eq_some_iff.1 gL).1]; exact gL
      have hS4 : StD H.length G3 H.length (ver + 1) ((ls.take (i + 1)).map lnD) := by
        rw [htk, List.map_append, List.map_cons, hs]; exact hS3
      have hall4 : ∀ l ∈ ls.take (i + 1), (lnP l).isSome = true := fun l hl => by
        rw [htk] at hl
        rcases List.mem_append.1 hl with h | h
        · exact hall l h
        · rw [List.mem_singleton] at h; subst h; unfold lnP; rw [hp]; rfl
      have hcy : cellsOf y = [y] := by rcases hy with ⟨_, _, rfl, _⟩ | ⟨rfl, _⟩ <;> rfl
      have hf2 := fill_one (z := [.int .i8 0, .int .i8 0, .int .i8 0, .int .i8 0, .slice none 0 0]) (v := agg (stC s y)) (esz := 5) rfl rfl
      have hcs : cellsOf (agg (stC s y)) = stC s y := by simp [cellsOf, agg]
      rw [hcs] at hf2
      simp only [stC] at c2 hf2 hpush
      simp [b290_1, h19, h17, h18, hii, ha, hr, c2, stc5, ldc5, h4, hf2, hpush, wbOf, e4']
      exact ⟨h0, h2, ver + 1, rfl, hpre H (pG.trans pG2) (Nat.le_refl _), by simpa using hS4, hkeep _ _ (by omega) gL2, hall4⟩
  · rintro e G _ h19 ⟨h0, h2, h17, h18, ver, h4, pG, hS, gL, hall⟩
    rw [← hrl] at hS hall
    obtain ⟨l, hldef⟩ : ∃ l, l = (rdL t).map lnD := ⟨_, rfl⟩
    have hlen : l.length = ls.length - 1 := by rw [hldef, hrl]; simp
    rw [← hldef] at hS
    have hsts := hS.sts
    rw [hlen] at hsts
    have hW : StsW l := by
      refine ⟨fun s hs => ?_, by omega, fun s hs => ?_⟩ <;>
      · rw [hldef] at hs
        obtain ⟨w, hw', rfl⟩ := List.mem_map.1 hs
        have hsome := hall w hw'
        unfold lnD lnP
        unfold lnP at hsome
        cases hp : implP (spl 32 [] w) with
        | none => rw [hp] at hsome; cases hsome
        | some s =>
          obtain ⟨g1, g2, _⟩ := implP_W hp
          first
          | exact g1
          | (have h3 := spl_count 32 w []
             have h4 : w.length ≤ 1000000 := by
               rw [hrl] at hw'
               obtain ⟨i, hi, e⟩ := List.getElem_of_mem (List.mem_of_mem_take hw')
               have := hw i
               rw [List.getD_eq_getElem?_getD, List.getElem?_eq_getElem hi] at this
               simp only [Option.getD_some] at this
               rw [e] at this; exact this
             show s.rows.length ≤ 1000000
             omega)
    have c163 := up (call163 (pu := true) hsts hW)
    have c271 := call271 (pu := true) (hd.pre pG) hsts hW
    obtain ⟨rn, en, Rn⟩ := hfinN G pG
    have hq := eqV_s (a := txR' l) (b := t)
    cases hk : okSts l with
    | false =>
      rw [hk] at c163
      have hno : imR t = none := by
        unfold imR
        rw [if_neg]
        intro hc
        have := hc.2.1
        rw [← hldef, hk] at this; cases this
      rw [hno]
      simp [b290_1, h19, h18, h4, c163, skip, en, Rn]
    | true =>
      rw [hk] at c163
      rw [txR', if_pos hk] at c271 hq
      by_cases he : stepsTx l = t
      · have hyes : imR t = some l := by
          unfold imR
          rw [if_pos ⟨hall, by rw [← hldef]; exact hk, by rw [← hldef]; exact he⟩, ← hldef]
        obtain ⟨b', ver', G', e1, hS', hP'⟩ := hS.fin pG (rest := [.int .i64 0]) rfl
        rw [hlen] at e1
        have hdq : decide (stepsTx l = t) = true := decide_eq_true he
        rw [hdq] at hq
        rw [hyes]
        have hR : RsR H (tup [slc b' 0 ver' (ls.length - 1) (ls.length - 1), .int .i64 0], G') (some l) := ⟨_, G', rfl, .inr ⟨b', ver', by rw [hlen], hS'⟩, hP'⟩
        simp [b290_1, h19, h18, h4, h0, c163, c271, hq, e1, hR]
      · have hno : imR t = none := by
          unfold imR
          rw [if_neg]
          intro hc
          exact he (by rw [hldef]; exact hc.2.2)
        have hdq : decide (stepsTx l = t) = false := decide_eq_false he
        rw [hdq] at hq
        rw [hno]
        simp [b290_1, h19, h18, h4, h0, c163, c271, hq, en, Rn]
def rowW (m : Int × Int) : List UInt8 := Lib.itoa m.1 ++ [58] ++ Lib.itoa m.2
def numW (s : Sted) : List (List UInt8) := if s.a = 0 then [] else if s.a = 1 then [Lib.itoa s.b] else [Lib.itoa s.b, Lib.itoa s.c, Lib.itoa s.d]
/-- The words of a step. -/
def wordsS (s : Sted) : List (List UInt8) := wrd s.a.toNat :: (numW s ++ s.rows.map rowW)
theorem tail_app {sep : List UInt8} {a b : List (List UInt8)} : Lib.joinTail sep (a ++ b) = Lib.joinTail sep a ++ Lib.joinTail sep b := by simp [Lib.joinTail]
theorem take_at0' {L : List (Int × Int)} {i : Nat} (hi : i < L.length) : L.take (i + 1) = L.take i ++ [at0 L i] := by
  rw [List.take_add_one, List.getElem?_eq_getElem hi]
  simp [at0, hi]
theorem rowTx_tail {s : Sted} : ∀ {j : Nat}, j ≤ s.rows.length → rowTx s j = Lib.joinTail [32] ((s.rows.take j).map rowW)
  | 0, _ => by simp [rowTx, Lib.joinTail]
  | j + 1, hj => by
    rw [rowTx, rowTx_tail (by omega), take_at0' (by omega : j < s.rows.length), List.map_append, tail_app]
    simp [Lib.joinTail, rowW, rw']
theorem stepTx_join {s : Sted} (ha : 0 ≤ s.a ∧ s.a ≤ 2) : stepTx s = Lib.join (wordsS s) [32] := by
  rw [wordsS, Lib.join_cons, tail_app, stepTx, rowTx_tail (Nat.le_refl _), List.take_length]
  have : headTx s = wrd s.a.toNat ++ Lib.joinTail [32] (numW s) := by
    unfold headTx numW
    by_cases h0 : s.a = 0
    · rw [if_pos h0, if_pos h0, h0]; simp [Lib.joinTail]
    · by_cases h1 : s.a = 1
      · rw [if_neg h0, if_neg h0, if_pos h1, if_pos h1, h1]; simp [Lib.joinTail]
      · have h2 : s.a = 2 := by omega
        rw [if_neg h0, if_neg h0, if_neg h1, if_neg h1, h2]; simp [Lib.joinTail]
  rw [this, List.append_assoc]
theorem wrd_no (a : Nat) (ha : a < 3) : (32 : UInt8) ∉ wrd a ∧ (10 : UInt8) ∉ wrd a := by
  match a, ha with
  | 0, _ => decide
  | 1, _ => decide
  | 2, _ => decide
theorem itoa_sep (v : Int) : (32 : UInt8) ∉ Lib.itoa v ∧ (10 : UInt8) ∉ Lib.itoa v ∧ (58 : UInt8) ∉ Lib.itoa v :=
  ⟨itoa_no (by decide) (by decide), itoa_no (by decide) (by decide), itoa_no (by decide) (by decide)⟩
theorem rowW_no (m : Int × Int) : (32 : UInt8) ∉ rowW m ∧ (10 : UInt8) ∉ rowW m := by
  have h1 := itoa_sep m.1
  have h2 := itoa_sep m.2
  unfold rowW
  simp [h1, h2]
theorem numW_itoa {s : Sted} : ∀ w ∈ numW s, ∃ v, w = Lib.itoa v := by
  intro w hw
  unfold numW at hw
  split at hw
  · cases hw
  · split at hw
    · rw [List.mem_singleton] at hw; exact ⟨_, hw⟩
    · simp at hw
      rcases hw with h | h | h <;> exact ⟨_, h⟩
theorem words_no {s : Sted} (ha : 0 ≤ s.a ∧ s.a ≤ 2) : ∀ w ∈ wordsS s, (32 : UInt8) ∉ w ∧ (10 : UInt8) ∉ w := by
  intro w hw
  rcases List.mem_cons.1 hw with h | h
  · rw [h]; exact wrd_no _ (by omega)
  · rcases List.mem_append.1 h with h | h
    · obtain ⟨v, rfl⟩ := numW_itoa w h
      exact ⟨(itoa_sep v).1, (itoa_sep v).2.1⟩
    · obtain ⟨m, _, rfl⟩ := List.mem_map.1 h
      exact rowW_no m
theorem spl_step {s : Sted} (ha : 0 ≤ s.a ∧ s.a ≤ 2) : spl 32 [] (stepTx s) = wordsS s := by
  rw [stepTx_join ha]
  exact spl_join 32 (by simp [wordsS]) fun w hw => (words_no ha w hw).1
theorem rwI_W {m : Int × Int} (h : 0 ≤ m.1 ∧ m.1 ≤ 11 ∧ 1 ≤ m.2 ∧ m.2 ≤ 4095) : rwI (rowW m) = some m := by
  have hc : cutc 58 (rowW m) = (Lib.itoa m.1, Lib.itoa m.2, true) := by
    unfold rowW
    rw [List.append_assoc, List.singleton_append]
    exact cut_at 58 _ _ (itoa_sep m.1).2.2
  unfold rwI
  rw [hc]
  dsimp only
  rw [if_pos rfl, (rdIn_iff (by omega) (by omega)).2 ⟨rfl, by omega, by omega⟩, (rdIn_iff (by omega) (by omega)).2 ⟨rfl, by omega, by omega⟩]
  rfl
/-- What a step must be to be told by a line. -/
structure LnS (s : Sted) : Prop where
  a : 0 ≤ s.a ∧ s.a ≤ 2
  b : -12 ≤ s.b ∧ s.b ≤ 40
  c : -12 ≤ s.c ∧ s.c ≤ 40
  d : -12 ≤ s.d ∧ s.d ≤ 40
  z0 : s.a = 0 → s.b = 0
  z1 : s.a ≠ 2 → s.c = 0 ∧ s.d = 0
  r : ∀ m ∈ s.rows, 0 ≤ m.1 ∧ m.1 ≤ 11 ∧ 1 ≤ m.2 ∧ m.2 ≤ 4095
theorem okSt_ln {s : Sted} {i : Nat} (h : okSt s i = true) (hi : i ≤ 40) : LnS s := by
  obtain ⟨_, hr⟩ := okSt_rows2 h
  have ha := okSt_a h
  have hrm : ∀ m ∈ s.rows, 0 ≤ m.1 ∧ m.1 ≤ 11 ∧ 1 ≤ m.2 ∧ m.2 ≤ 4095 := fun m hm => by
    obtain ⟨j, hj, rfl⟩ := mem_at0 hm
    exact hr j hj
  simp only [okSt, kindB, Bool.and_eq_true] at h
  obtain ⟨_, h⟩ := h
  by_cases h0 : s.a = 0
  · rw [if_pos (by simp [h0])] at h
    simp [stillB] at h
    exact ⟨ha, by omega, by omega, by omega, fun _ => h.1, fun _ => h.2, hrm⟩
  · rw [if_neg (by simp [h0])] at h
    by_cases h1 : s.a = 1
    · rw [if_pos (by simp [h1])] at h
      simp [stillB, in1] at h
      exact ⟨ha, by omega, by omega, by omega, fun e => absurd e h0, fun _ => h.2, hrm⟩
    · have h2 : s.a = 2 := by omega
      rw [if_neg (by simp [h1]), if_pos (by simp [h2])] at h
      simp [in1] at h
      exact ⟨ha, by omega, by omega, by omega, fun e => absurd e h0, fun e => absurd h2 e, hrm⟩
theorem hdN_wrd {a : Int} (ha : 0 ≤ a ∧ a ≤ 2) : hdN (wrd a.toNat) = a := by
  have : a = 0 ∨ a = 1 ∨ a = 2 := by omega
  rcases this with h | h | h <;> subst h <;> rfl
theorem numW_len {s : Sted} : (numW s).length = nmK s.a := by
  unfold numW nmK
  split
  · rfl
  · split <;> rfl
/-- A step's line is read as that step. -/
theorem implP_tx {s : Sted} (h : LnS s) : lnP (stepTx s) = some s := by
  unfold lnP
  rw [spl_step h.a]
  have hd : hdN ((wordsS s).getD 0 []) = s.a := hdN_wrd h.a
  have hk := numW_len (s := s)
  have hdrop : (wordsS s).drop (nmK s.a + 1) = s.rows.map rowW := by
    rw [wordsS, List.drop_succ_cons, ← hk, List.drop_left]
  have hat : ∀ i, i < nmK s.a → (wordsS s).getD (i + 1) [] = (numW s).getD i [] := fun i hi => by
    rw [wordsS, List.getD_cons_succ, List.getD_eq_getElem?_getD, List.getElem?_append_left (by omega), ← List.getD_eq_getElem?_getD]
  have hrd : ∀ v : Int, -12 ≤ v ∧ v ≤ 40 → rdIn (Lib.itoa v) (-12) 40 = some v := fun v hv => (rdIn_iff (by omega) (by omega)).2 ⟨rfl, hv.1, hv.2⟩
  have hb := h.b
  have hc := h.c
  have hdd := h.d
  have hnm : ∀ i, i < nmK s.a → nmAt (wordsS s) i = some (if i = 0 then s.b else if i = 1 then s.c else s.d) := fun i hi => by
    unfold nmAt
    rw [hat i hi]
    unfold numW
    unfold nmK at hi
    by_cases h0 : s.a = 0
    · rw [if_pos h0] at hi; omega
    · rw [if_neg h0] at hi ⊢
      by_cases h1 : s.a = 1
      · rw [if_pos h1] at hi ⊢
        obtain rfl : i = 0 := by omega
        exact hrd _ hb
      · rw [if_neg h1] at hi ⊢
        match i, hi with
        | 0, _ => exact hrd _ hb
        | 1, _ => exact hrd _ hc
        | 2, _ => exact hrd _ hdd
  have hok : ipOk (wordsS s) (nmK s.a) := by
    refine ⟨by rw [wordsS, List.length_cons, List.length_append, hk]; omega, fun i hi => by rw [hnm i hi]; rfl, fun w hw => ?_⟩
    rw [hdrop] at hw
    obtain ⟨m, hm, rfl⟩ := List.mem_map.1 hw
    rw [rwI_W (h.r m hm)]; rfl
  unfold implP
  rw [hd, if_neg (by have := h.a; omega), if_pos hok]
  congr 1
  have e0 : nmV (wordsS s) (nmK s.a) 0 = s.b := by
    unfold nmV
    split
    · rename_i hi; rw [hnm 0 hi]; rfl
    · rename_i hi
      by_cases h0 : s.a = 0
      · exact (h.z0 h0).symm
      · exfalso; unfold nmK at hi; rw [if_neg h0] at hi; split at hi <;> omega
  have e1 : nmV (wordsS s) (nmK s.a) 1 = s.c := by
    unfold nmV
    split
    · rename_i hi; rw [hnm 1 hi]; rfl
    · rename_i hi
      by_cases h2 : s.a = 2
      · exfalso; unfold nmK at hi; rw [h2] at hi; simp at hi
      · exact (h.z1 h2).1.symm
  have e2 : nmV (wordsS s) (nmK s.a) 2 = s.d := by
    unfold nmV
    split
    · rename_i hi; rw [hnm 2 hi]; rfl
    · rename_i hi
      by_cases h2 : s.a = 2
      · exfalso; unfold nmK at hi; rw [h2] at hi; simp at hi
      · exact (h.z1 h2).2.symm
  have er : ((wordsS s).drop (nmK s.a + 1)).map rwD = s.rows := by
    rw [hdrop, List.map_map]
    have : ∀ m ∈ s.rows, (rwD ∘ rowW) m = m := fun m hm => by
      show (rwI (rowW m)).getD (0, 0) = m
      rw [rwI_W (h.r m hm)]; rfl
    rw [List.map_congr_left this, List.map_id']
  unfold ipS
  rw [e0, e1, e2, er]
theorem stepTx_no {s : Sted} (ha : 0 ≤ s.a ∧ s.a ≤ 2) : (10 : UInt8) ∉ stepTx s := by
  rw [stepTx_join ha]
  have key : ∀ r : List (List UInt8), (∀ w ∈ r, (10 : UInt8) ∉ w) → (10 : UInt8) ∉ Lib.joinTail [32] r := fun r h hm => by
    unfold Lib.joinTail at hm
    rw [List.mem_flatten] at hm
    obtain ⟨l, hl, h10⟩ := hm
    obtain ⟨w, hw, rfl⟩ := List.mem_map.1 hl
    rcases List.mem_append.1 h10 with e | e
    · simp at e
    · exact h w hw e
  have hw := words_no ha
  rw [wordsS, Lib.join_cons]
  intro hm
  rcases List.mem_append.1 hm with e | e
  · exact (hw _ (by simp [wordsS])).2 e
  · exact key _ (fun w hw' => (hw w (by rw [wordsS]; exact List.mem_cons_of_mem _ hw')).2) e
/-- The lines of steps. -/
theorem spl_cat {t : Nat → List UInt8} : ∀ {n : Nat}, (∀ i, i < n → (10 : UInt8) ∉ t i) → spl 10 [] (catT t n) = (List.range n).map t ++ [[]]
  | 0, _ => rfl
  | n + 1, h => by
    have ih := spl_cat (n := n) fun i hi => h i (by omega)
    have key : ∀ (l cur m : List UInt8) (L : List (List UInt8)), spl 10 cur l = L ++ [[]] → (10 : UInt8) ∉ m → spl 10 cur (l ++ (m ++ [10])) = L ++ [m, []] := by
      intro l
      induction l with
      | nil =>
        intro cur m L hL hm
        rw [spl] at hL
        have : L = [] ∧ cur = [] := by
          cases L with
          | nil => simp at hL; exact ⟨rfl, hL⟩
          | cons a L => simp at hL
        obtain ⟨rfl, rfl⟩ := this
        have : spl 10 [] (m ++ [10]) = [m, []] := by
          have := spl_join 10 (l := [m, []]) (by simp) (by simp; exact hm)
          rw [Lib.join_cons] at this
          simpa [Lib.joinTail] using this
        simpa using this
      | cons x l ih =>
        intro cur m L hL hm
        rw [spl] at hL
        rw [List.cons_append, spl]
        split
        · rename_i hx
          rw [if_pos hx] at hL
          cases L with
          | nil =>
            simp at hL
            exact absurd hL.2 (spl_ne 10 l [])
          | cons a L =>
            simp at hL
            obtain ⟨rfl, hL⟩ := hL
            rw [ih [] m L hL hm]; rfl
        · rename_i hx
          rw [if_neg hx] at hL
          exact ih _ m L hL hm
    rw [catT, key _ [] (t n) _ ih (h n (by omega)), List.range_succ, List.map_append]
    simp
theorem spl_steps {l : List Sted} (h : ∀ i, i < l.length → 0 ≤ (at0 l i).a ∧ (at0 l i).a ≤ 2) : rdL (stepsTx l) = l.map stepTx := by
  unfold rdL stepsTx
  rw [spl_cat fun i hi => stepTx_no (h i hi), List.dropLast_concat]
  apply List.ext_getElem?
  intro i
  by_cases hi : i < l.length
  · simp [at0, hi]
  · rw [List.getElem?_eq_none (by simp; omega), List.getElem?_eq_none (by simp; omega)]
theorem map_id_of {α : Type} {f : α → α} {l : List α} (h : ∀ a ∈ l, f a = a) : l.map f = l := by
  rw [List.map_congr_left h, List.map_id']
/-- What is written is read again. -/
theorem imR_tx {l : List Sted} (h : okSts l = true) : imR (stepsTx l) = some l := by
  have hn := okSts_len h
  have ha : ∀ i, i < l.length → 0 ≤ (at0 l i).a ∧ (at0 l i).a ≤ 2 := fun i hi => okSt_a (okSts_get h hi)
  have hln : ∀ s ∈ l, LnS s := fun s hs => by
    obtain ⟨i, hi, rfl⟩ := mem_at0 hs
    exact okSt_ln (okSts_get h hi) (by omega)
  have hrd := spl_steps ha
  have hmap : (rdL (stepsTx l)).map lnD = l := by
    rw [hrd, List.map_map]
    refine map_id_of fun s hs => ?_
    show (lnP (stepTx s)).getD default = s
    rw [implP_tx (hln s hs)]; rfl
  have hok : imOk (stepsTx l) := by
    refine ⟨fun w hw => ?_, by rw [hmap]; exact h, by rw [hmap]⟩
    rw [hrd] at hw
    obtain ⟨s, hs, rfl⟩ := List.mem_map.1 hw
    rw [implP_tx (hln s hs)]; rfl
  unfold imR
  rw [if_pos hok, hmap]
/-- What both programs answer. -/
def rdsL (t : List UInt8) : List Sted := (imR t).getD []
def rdsC (t : List UInt8) : Int := if (imR t).isSome = true then 0 else 5
theorem call290r {pu : Bool} {H : Heap} {t : List UInt8} (hd : Wd H) (hl : t.length ≤ 1000000) : ∃ x G, Call tab2 pu 290 [str t] H = some (tup [x, .int .i64 (rdsC t)], G) ∧ StX H.length G x (rdsL t) ∧ Pre H G := by
  obtain ⟨r, h, R⟩ := call290 (pu := pu) hd hl
  unfold rdsC rdsL
  cases e : imR t with
  | none =>
    rw [e] at R
    have R : r = (tup [.slice none 0 0, .int .i64 5], H) := R
    subst R
    exact ⟨_, _, h, .inl ⟨rfl, rfl⟩, .refl⟩
  | some l =>
    rw [e] at R
    obtain ⟨x, G, rfl, R⟩ := R
    exact ⟨x, G, h, R⟩
theorem xorI_rc {a b c : Int} (ha : u16' a) (hb : u16' b) (hc : u16' c) : xorI (xorI a b) c = xorI (xorI a c) b := by
  obtain ⟨n, rfl⟩ := Int.eq_ofNat_of_zero_le ha.1
  obtain ⟨m, rfl⟩ := Int.eq_ofNat_of_zero_le hb.1
  obtain ⟨k, rfl⟩ := Int.eq_ofNat_of_zero_le hc.1
  have h1 : n ^^^ m < 2 ^ 16 := Nat.xor_lt_two_pow (by omega) (by omega)
  have h2 : n ^^^ k < 2 ^ 16 := Nat.xor_lt_two_pow (by omega) (by omega)
  rw [xorI_nat (by omega) (by omega), xorI_nat (by omega) (by omega), xorI_nat (by omega) (by omega), xorI_nat (by omega) (by omega)]
  congr 1
  rw [Nat.xor_assoc, Nat.xor_comm m k, ← Nat.xor_assoc]
theorem xorI_cm {a b : Int} (ha : u16' a) (hb : u16' b) : xorI a b = xorI b a := by
  obtain ⟨n, rfl⟩ := Int.eq_ofNat_of_zero_le ha.1
  obtain ⟨m, rfl⟩ := Int.eq_ofNat_of_zero_le hb.1
  rw [xorI_nat (by omega) (by omega), xorI_nat (by omega) (by omega), Nat.xor_comm]
theorem xorI_cc {a b : Int} (ha : u16' a) (hb : u16' b) : xorI (xorI a b) b = a := by
  obtain ⟨n, rfl⟩ := Int.eq_ofNat_of_zero_le ha.1
  obtain ⟨m, rfl⟩ := Int.eq_ofNat_of_zero_le hb.1
  have h1 : n ^^^ m < 2 ^ 16 := Nat.xor_lt_two_pow (by omega) (by omega)
  rw [xorI_nat (by omega) (by omega), xorI_nat (by omega) (by omega), Nat.xor_assoc, Nat.xor_self, Nat.xor_zero]
theorem fr_put {b : List (List Int)} {p k : Nat} {f : List Int} (hp : p < b.length) : fr (b.set p f) k = if k = p then f else fr b k := by
  unfold fr at0
  rw [List.getD_eq_getElem?_getD, List.getD_eq_getElem?_getD]
  by_cases h : k = p
  · subst h; rw [if_pos rfl, List.getElem?_set_self hp]; rfl
  · rw [if_neg h, List.getElem?_set_ne (Ne.symm h)]
theorem par_set {b : List (List Int)} {p y : Nat} {f : List Int} (hw : BkW b) (hf : FrW f) (hp : p < b.length) (hy : y < 12) : ∀ {k : Nat}, k ≤ b.length →
    nth (foldF xorI (zr 12 0) (b.set p f) k) y = if p < k then xorI (xorI (nth (foldF xorI (zr 12 0) b k) y) (nth (fr b p) y)) (nth f y) else nth (foldF xorI (zr 12 0) b k) y
  | 0, _ => by rw [if_neg (by omega), foldF_zero, foldF_zero]
  | k + 1, hk => by
    have ih := par_set hw hf hp hy (k := k) (by omega)
    have hX : u16' (nth (foldF xorI (zr 12 0) b k) y) := foldX_W.nth hy
    have hP := (hw.fr hp).nth hy
    have hF := hf.nth hy
    have hK := (hw.fr (i := k) (by omega)).nth hy
    have e2 : nth (foldF xorI (zr 12 0) b (k + 1)) y = xorI (nth (foldF xorI (zr 12 0) b k) y) (nth (fr b k) y) := by rw [foldF_succ, mixF, nth_tabN hy]
    rw [foldF_succ, mixF, nth_tabN hy, ih, fr_put hp, e2]
    generalize nth (foldF xorI (zr 12 0) b k) y = X at *
    by_cases h1 : k = p
    · subst h1
      rw [if_neg (by omega), if_pos rfl, if_pos (by omega), xorI_cc hX hP]
    · rw [if_neg h1]
      by_cases h2 : p < k
      · rw [if_pos h2, if_pos (by omega), xorI_rc xorI_ok hF hK, xorI_rc hX hP hK]
      · rw [if_neg h2, if_neg (by omega)]
/-- The parity brings a page back. -/
theorem res_set {b : List (List Int)} {p : Nat} {f : List Int} (hw : BkW b) (hf : FrW f) (hp : p < b.length) : resF (b.set p f) (parF b) p = fr b p := by
  refine list12 resF_length (hw.fr hp).len fun y hy => ?_
  have hD : u16' (nth (parF b) y) := foldX_W.nth hy
  have hP := (hw.fr hp).nth hy
  have hF := hf.nth hy
  have hpar : nth (parF (b.set p f)) y = xorI (xorI (nth (parF b) y) (nth (fr b p) y)) (nth f y) := by
    have := par_set hw hf hp hy (k := b.length) (Nat.le_refl _)
    rw [if_pos hp] at this
    unfold parF
    rw [List.length_set]
    exact this
  unfold resF
  rw [mixF, nth_tabN hy, mixF, nth_tabN hy, hpar, fr_put hp, if_pos rfl, xorI_cc xorI_ok hF, xorI_cm hD hP, xorI_cc hP hD]
theorem resB_set {b : List (List Int)} {p : Nat} {f : List Int} (hw : BkW b) (hf : VF f) (hk : okB b = true) (hk2 : okB (b.set p f) = true) (hpf : okF (parF b) = true) (hp : p < b.length) : resB (b.set p f) (parF b) p = b ∧ resC (b.set p f) (parF b) p = 0 := by
  constructor
  · rw [resB, if_pos ⟨hk2, hpf, by omega, by simpa using hp⟩]
    show (b.set p f).set p (resF (b.set p f) (parF b) p) = b
    rw [res_set hw hf.W hp, List.set_set, set_at0 hp]
  · rw [resC, if_pos ⟨hk2, hpf⟩, if_pos ⟨by omega, by simpa using hp⟩]
theorem okB_set {b : List (List Int)} {p : Nat} {f : List Int} (hf : okF f = true) (hk : okB b = true) : okB (b.set p f) = true := by
  simp only [okB, Bool.and_eq_true, decide_eq_true_eq] at hk ⊢
  refine ⟨List.all_eq_true.2 fun g hg => ?_, by simpa using hk.2⟩
  rcases List.mem_or_eq_of_mem_set hg with h | rfl
  · exact List.all_eq_true.1 hk.1 g h
  · exact hf
theorem par_ok {b : List (List Int)} (hw : BkW b) (hk : okB b = true) : okF (parF b) = true := by
  have key : ∀ {k : Nat}, k ≤ b.length → ∀ y, y < 12 → okRow (nth (foldF xorI (zr 12 0) b k) y) = true := by
    intro k
    induction k with
    | zero =>
      intro _ y hy
      rw [foldF_zero]
      exact (VF.zero.row hy).2
    | succ k ih =>
      intro hk' y hy
      rw [foldF_succ, mixF, nth_tabN hy]
      have h1 := okB_fs hk
      exact xorI_row (foldX_W.nth hy) ((hw.fr (by omega)).nth hy) (ih (by omega) y hy) (okF_nth (hw.fr (by omega)) (List.all_eq_true.1 h1 _ (at0_mem (by omega))) hy).2
  exact okF_true parF_length fun y hy => key (Nat.le_refl _) y hy
/-- A book with one page changed, held against its own. -/
theorem unl_self {b : List (List Int)} {n : Nat} (h : n ≤ b.length) : findN (unlB b b) n = -1 := findN_none fun j hj => by
  have g : ¬ b.length ≤ j := by omega
  simp [unlB, g]
theorem unl_set {b : List (List Int)} {p n : Nat} {f : List Int} (hp : p < b.length) (hn : n = b.length) : findN (unlB (b.set p f) b) n = if f = fr b p then -1 else (p : Int) := by
  have h1 : ∀ j, j < b.length → unlB (b.set p f) b j = !decide ((if j = p then f else fr b j) = fr b j) := fun j hj => by
    have g : ¬ b.length ≤ j := by omega
    unfold unlB
    rw [fr_put hp, decide_eq_false (by simpa using g), decide_eq_false g]; rfl
  by_cases hf : f = fr b p
  · rw [if_pos hf]
    refine findN_none fun j hj => ?_
    rw [h1 j (by omega)]
    by_cases h : j = p
    · subst h; simp [hf]
    · simp [h]
  · rw [if_neg hf]
    refine findN_some (by omega) (fun j hj => ?_) ?_
    · rw [h1 j (by omega), if_neg (by omega)]; simp
    · rw [h1 p hp, if_pos rfl]; simp [hf]
theorem same_set {b : List (List Int)} {p : Nat} {f : List Int} (hp : p < b.length) : sameBk b (b.set p f) = decide (f = fr b p) := by
  unfold sameBk
  by_cases hf : f = fr b p
  · rw [decide_eq_true hf, allN_true fun i hi => by rw [fr_put hp]; split <;> (rename_i h; simp [h, hf])]
    simp
  · rw [decide_eq_false hf, allN_false hp (by rw [fr_put hp, if_pos rfl]; exact decide_eq_false fun e => hf e.symm)]
    simp
/-- What it costs to seek, as a sum over the pages that are told. -/
theorem memLos {l : List Sted} {k p m : Nat} : (p : Int) ∈ losL l k m ↔ p = k ∨ (k < p ∧ p ≤ k + m ∧ losB (at0 l p) (losL l k (p - (k + 1))) = true) := by
  induction m with
  | zero => rw [losL_zero]; simp; omega
  | succ m ih =>
    rw [losL_succ]
    by_cases hb : losB (at0 l (k + 1 + m)) (losL l k m) = true
    · rw [if_pos hb, List.mem_append, ih, List.mem_singleton]
      constructor
      · rintro ((h | ⟨h1, h2, h3⟩) | h)
        · exact .inl h
        · exact .inr ⟨h1, by omega, h3⟩
        · have hp : p = k + 1 + m := by omega
          subst hp
          exact .inr ⟨by omega, by omega, by rw [show k + 1 + m - (k + 1) = m by omega]; exact hb⟩
      · rintro (h | ⟨h1, h2, h3⟩)
        · exact .inl (.inl h)
        · by_cases hp : p = k + 1 + m
          · exact .inr (by omega)
          · exact .inl (.inr ⟨h1, by omega, h3⟩)
    · rw [if_neg hb, ih]
      constructor
      · rintro (h | ⟨h1, h2, h3⟩)
        · exact .inl h
        · exact .inr ⟨h1, by omega, h3⟩
      · rintro (h | ⟨h1, h2, h3⟩)
        · exact .inl h
        · by_cases hp : p = k + 1 + m
          · subst hp
            rw [show k + 1 + m - (k + 1) = m by omega] at h3
            exact absurd h3 hb
          · exact .inr ⟨h1, by omega, h3⟩
theorem losR_ok {l : List Sted} (hk : okSts l = true) {k : Nat} (h : k < l.length) : losR l k = losL l k (l.length - (k + 1)) := by
  have : askC l k = 0 := by rw [askC, if_pos hk, if_pos (by omega)]
  rw [losR, if_pos this]; rfl
theorem lost_step {l : List Sted} (hk : okSts l = true) {k p : Nat} (h : k < l.length) (hp : p < l.length) :
    memI (losR l k) p = true ↔ p = k ∨ (k < p ∧ (at0 l p).a ≠ 0 ∧ memI (losR l k) (at0 l p).b.toNat = true) := by
  unfold memI
  rw [decide_eq_true_eq, decide_eq_true_eq, losR_ok hk h, memLos]
  constructor
  · rintro (h1 | ⟨h1, h2, h3⟩)
    · exact .inl h1
    · unfold losB at h3
      simp only [Bool.and_eq_true, memI, decide_eq_true_eq, bne_iff_ne] at h3
      obtain ⟨h4, h5⟩ := h3
      have hb := okSt_b (okSts_get hk hp) h4
      refine .inr ⟨h1, h4, ?_⟩
      obtain ⟨q, hq⟩ := Int.eq_ofNat_of_zero_le hb.1
      rw [hq] at h5 ⊢
      show (q : Int) ∈ _
      rw [memLos] at h5 ⊢
      rcases h5 with h6 | ⟨h6, h7, h8⟩
      · exact .inl h6
      · exact .inr ⟨h6, by omega, h8⟩
  · rintro (h1 | ⟨h1, h4, h5⟩)
    · exact .inl h1
    · refine .inr ⟨h1, by omega, ?_⟩
      unfold losB
      simp only [Bool.and_eq_true, memI, decide_eq_true_eq, bne_iff_ne]
      refine ⟨h4, ?_⟩
      have hb := okSt_b (okSts_get hk hp) h4
      obtain ⟨q, hq⟩ := Int.eq_ofNat_of_zero_le hb.1
      rw [hq] at h5 hb ⊢
      have h5 : (q : Int) ∈ losL l k (l.length - (k + 1)) := h5
      show (q : Int) ∈ _
      rw [memLos] at h5 ⊢
      rcases h5 with h6 | ⟨h6, h7, h8⟩
      · exact .inl h6
      · exact .inr ⟨h6, by omega, h8⟩
def sumLo (l : List Sted) (p : Nat) : Nat → Int
  | 0 => 0
  | k + 1 => sumLo l p k + if memI (losR l k) p = true then stCost (at0 l k) else 0
theorem sumLo_term {l : List Sted} (hk : okSts l = true) {p m : Nat} (hp : p < l.length) (hm : m < l.length) :
    (if memI (losR l m) p = true then stCost (at0 l m) else 0) = (if p = m then stCost (at0 l p) else 0) + if (at0 l p).a = 0 then 0 else if memI (losR l m) (at0 l p).b.toNat = true then stCost (at0 l m) else 0 := by
  have hs := lost_step hk (k := m) (p := p) hm hp
  by_cases hpm : p = m
  · subst hpm
    rw [if_pos (hs.2 (.inl rfl)), if_pos rfl]
    by_cases ha : (at0 l p).a = 0
    · rw [if_pos ha]; omega
    · have hb := okSt_b (okSts_get hk hp) ha
      have hs2 := lost_step hk (k := p) (p := (at0 l p).b.toNat) hm (by omega)
      have hno : ¬ memI (losR l p) (at0 l p).b.toNat = true := fun h => by
        rcases hs2.1 h with h1 | ⟨h1, _⟩ <;> omega
      rw [if_neg ha, if_neg hno]; omega
  · rw [if_neg hpm]
    by_cases ha : (at0 l p).a = 0
    · have hno : ¬ memI (losR l m) p = true := fun h => by
        rcases hs.1 h with h1 | ⟨_, h2, _⟩
        · exact hpm h1
        · exact h2 ha
      rw [if_pos ha, if_neg hno]; omega
    · have hb := okSt_b (okSts_get hk hp) ha
      have hs2 := lost_step hk (k := m) (p := (at0 l p).b.toNat) hm (by omega)
      rw [if_neg ha]
      by_cases hx : memI (losR l m) (at0 l p).b.toNat = true
      · have hge : m < p := by rcases hs2.1 hx with h1 | ⟨h1, _⟩ <;> omega
        rw [if_pos hx, if_pos (hs.2 (.inr ⟨hge, ha, hx⟩))]; omega
      · have hno : ¬ memI (losR l m) p = true := fun h => by
          rcases hs.1 h with h1 | ⟨_, _, h3⟩
          · exact hpm h1
          · exact hx h3
        rw [if_neg hx, if_neg hno]; omega
theorem sumLo_step {l : List Sted} (hk : okSts l = true) {p : Nat} (hp : p < l.length) : ∀ {m : Nat}, m ≤ l.length →
    sumLo l p m = (if p < m then stCost (at0 l p) else 0) + if (at0 l p).a = 0 then 0 else sumLo l (at0 l p).b.toNat m
  | 0, _ => by simp [sumLo]
  | m + 1, hm => by
    rw [sumLo, sumLo_step hk hp (m := m) (by omega), sumLo_term hk hp (m := m) (by omega), sumLo]
    have e : (if p < m + 1 then stCost (at0 l p) else 0) = (if p < m then stCost (at0 l p) else 0) + if p = m then stCost (at0 l p) else 0 := by
      by_cases h1 : p < m
      · rw [if_pos h1, if_pos (by omega), if_neg (by omega)]; omega
      · by_cases h2 : p = m
        · rw [if_neg h1, if_pos (by omega), if_pos h2]; omega
        · rw [if_neg h1, if_neg (by omega), if_neg h2]; omega
    rw [e]
    by_cases ha : (at0 l p).a = 0
    · simp only [if_pos ha]; omega
    · simp only [if_neg ha]; omega
theorem seekP_shift {l : List Sted} {p k : Nat} : seekP l p (k + 1) = seekP l (at0 l p).b.toNat k := by
  induction k with
  | zero => rw [seekP_succ, seekP_zero, seekP_zero]
  | succ k ih => rw [seekP_succ, ih, ← seekP_succ]
theorem seekS_shift {l : List Sted} {p k : Nat} : seekS l p (k + 1) = stCost (at0 l p) + seekS l (at0 l p).b.toNat k := by
  induction k with
  | zero => rw [seekS_succ, seekS_zero, seekS_zero, seekP_shift, seekP_zero]
  | succ k ih => rw [seekS_succ, ih, seekS_succ, seekP_shift]; omega
theorem seek_sum {l : List Sted} (hk : okSts l = true) : ∀ {p : Nat}, p < l.length → ∃ E, E ≤ p ∧ (∀ j, j < E → seekE l p j = false) ∧ seekE l p E = true ∧ seekS l p E = sumLo l p l.length := by
  intro p
  induction p using Nat.strongRecOn with
  | _ p ih =>
    intro hp
    have hs := sumLo_step hk hp (Nat.le_refl _)
    rw [if_pos hp] at hs
    by_cases ha : (at0 l p).a = 0
    · refine ⟨0, Nat.zero_le _, fun j hj => by omega, ?_, ?_⟩
      · unfold seekE; rw [seekP_zero]; simp [ha]
      · rw [hs, if_pos ha, seekS_zero]; omega
    · have hb := okSt_b (okSts_get hk hp) ha
      obtain ⟨E, h1, h2, h3, h4⟩ := ih (at0 l p).b.toNat (by omega) (by omega)
      refine ⟨E + 1, by omega, fun j hj => ?_, ?_, ?_⟩
      · cases j with
        | zero => unfold seekE; rw [seekP_zero]; simpa using ha
        | succ j =>
          have := h2 j (by omega)
          unfold seekE at this ⊢
          rw [seekP_shift]; exact this
      · unfold seekE at h3 ⊢
        rw [seekP_shift]; exact h3
      · rw [seekS_shift, h4, hs, if_neg ha]
theorem seekV_sum {l : List Sted} (hk : okSts l = true) {p : Nat} (hp : p < l.length) : seekV l p = sumLo l p l.length := by
  obtain ⟨E, h1, h2, h3, h4⟩ := seek_sum hk hp
  rw [seekV, findN_some (by omega) h2 h3]
  exact h4
theorem sumLo_ok {l : List Sted} (hk : okSts l = true) (hr : ∀ s ∈ l, s.rows.length ≤ 4) {p : Nat} : ∀ {m : Nat}, m ≤ l.length → 0 ≤ sumLo l p m ∧ sumLo l p m ≤ 3000004 * (m : Int)
  | 0, _ => by simp [sumLo]
  | m + 1, hm => by
    have ih := sumLo_ok hk hr (p := p) (m := m) (by omega)
    have h := stCost_ok (okSt_a (okSts_get hk (i := m) (by omega))) (by have := hr _ (at0_mem (show m < l.length by omega)); omega)
    rw [sumLo]
    split <;> omega
theorem losR_head {l : List Sted} (hk : okSts l = true) {k : Nat} (h : k < l.length) : ∃ r, losR l k = (k : Int) :: r := by
  rw [losR_ok hk h]
  have key : ∀ m, ∃ r, losL l k m = (k : Int) :: r := by
    intro m
    induction m with
    | zero => exact ⟨[], losL_zero⟩
    | succ m ih =>
      obtain ⟨r, e⟩ := ih
      rw [losL_succ]
      split
      · rw [e]; exact ⟨r ++ [((k + 1 + m : Nat) : Int)], rfl⟩
      · exact ⟨r, e⟩
  exact key _
theorem dec_VF {l : List Sted} (hk : okSts l = true) : ∀ f ∈ decL l l.length, VF f := fun f hf => ⟨(decL_ok hk (Nat.le_refl _) f hf).1, (decL_ok hk (Nat.le_refl _) f hf).2⟩
theorem c60_17 {H G : Heap} {y2 x5 x8 : Value} {bs : List Int} {l : List Sted} {D : List (List Int)} {p : Nat} {e : Env} (hP : Pre H G) (b2 : By G y2 bs) (hn2 : bs.length ≤ 1000000) (hD : D = decL l l.length) (hk : okSts l = true) (W : StsW l)
    (b8 : Bk G x8 D) (s5 : StS G x5 l) (hp : p < D.length) (h1 : e 1 = y2) (h5 : e 5 = x5) (h8 : e 8 = x8) (h14 : e 14 = iv .u16 (parF D)) (h16 : e 16 = .int .i64 (p : Int)) :
    WK tab2 H.length false (tailC 17 k60) [] e G (QL H.length H) := by
  have hn : D.length = l.length := by rw [hD]; exact decL_len
  have hw : BkW D := by rw [hD]; exact decW hk
  have hV : ∀ f ∈ D, VF f := by rw [hD]; exact dec_VF hk
  have hkB : okB D = true := by rw [hD]; exact dec_okB hk
  have h40 := okB_len hkB
  have hHG := hP.len
  obtain ⟨G1, hG1⟩ : ∃ G1, G1 = G ++ [(⟨[], 12, 0, false⟩ : Blk)] := ⟨_, rfl⟩
  have P1 : Pre G G1 := by rw [hG1]; exact Pre.one
  have g1 : G1[G.length]? = some ⟨[], 12, 0, false⟩ := by rw [hG1]; exact get_last
  obtain ⟨ver, sB⟩ := app_bk (n0 := H.length) (m := 0) (wb := false) (SlR.pre P1 b8 : Bk G1 x8 D) (by omega) (by omega) hHG g1 rfl
  rw [Nat.zero_add] at sB
  have e0 : ([] : List Value) ++ bkC D = bkC D := rfl
  rw [e0] at sB
  obtain ⟨G2, hG2⟩ : ∃ G2, G2 = G1.set G.length ⟨bkC D, 12, ver, false⟩ := ⟨_, rfl⟩
  rw [← hG2] at sB
  have P2 : Pre G G2 := by rw [hG2]; exact P1.set (Nat.le_refl _)
  have g2 : G2[G.length]? = some ⟨bkC D, 12, ver, false⟩ := by rw [hG2]; exact get_set g1
  obtain ⟨f, c170, Vf⟩ := call170 (pu := true) (b2.pre P2) hn2
  have c170 := up c170
  have hlen : (bkC D).length = D.length * 12 := bkC_length hw
  have hwr := wr_at (n0 := H.length) (wb := false) (off := p * 12) (vs := cs .u16 f) (ver := ver) g2 rfl rfl (by simp [may, hHG]) (by simp [hlen, Vf.W.len]; omega)
  have hbw := bkC_write (fun g hg => (hw g hg).len) hp (k := 0) (vs := f) (by rw [Vf.W.len]; omega)
  rw [Nat.add_zero, wrt_all (by rw [Vf.W.len]; exact (hw.fr hp).len)] at hbw
  simp only [hbw] at hwr
  obtain ⟨E, hE⟩ : ∃ E, E = D.set p f := ⟨_, rfl⟩
  rw [← hE] at hwr
  have hEl : E.length = D.length := by rw [hE]; simp
  have hEV : ∀ g ∈ E, VF g := fun g hg => by
    rw [hE] at hg
    rcases List.mem_or_eq_of_mem_set hg with h | rfl
    · exact hV g h
    · exact Vf
  have hEw : BkW E := fun g hg => (hEV g hg).W
  have hEk : okB E = true := by rw [hE]; exact okB_set Vf.ok hkB
  obtain ⟨G3, hG3⟩ : ∃ G3, G3 = G2.set G.length ⟨bkC E, 12, ver, false⟩ := ⟨_, rfl⟩
  rw [← hG3] at hwr
  have P3 : Pre G G3 := by rw [hG3]; exact P2.set (Nat.le_refl _)
  have b29 : Bk G3 (slc G.length 0 ver D.length D.length) E := bk_of (by rw [hG3]; exact get_set g2) hEV hEl (Nat.le_refl _)
  have ha29 : idxAV 12 (slc G.length 0 ver D.length D.length) (.int .i64 (p : Int)) = some (adr G.length (p * 12) ver) := by rw [idxAV_slc, at_nat hp]; simp
  obtain ⟨x29, hx29⟩ : ∃ x29, x29 = slc G.length 0 ver D.length D.length := ⟨_, rfl⟩
  rw [← hx29] at sB b29 ha29
  obtain ⟨r30, G4, β4, c144, P4, o30⟩ := call144 (b := E) (f := parF D) (p := (p : Int)) hEw foldX_W (by omega) G3 x29 b29
  obtain ⟨q1, q2⟩ := resB_set hw Vf hkB (by rw [← hE]; exact hEk) (par_ok hw hkB) hp
  rw [← hE] at q1 q2
  rw [q2] at c144
  rw [q1] at o30
  have c144 := up c144
  have P34 := P3.trans P4
  have b30 : Bk G4 r30 D := o30.sl
  have b29' : Bk G4 x29 E := SlR.pre P4 b29
  have b8' : Bk G4 x8 D := SlR.pre P34 b8
  have s5' := s5.pre P34
  have c218 := up (call218 (pu := true) b29' hEw (by omega) s5' W)
  have c225 := up (call225 (pu := true) b29' hEw (by omega) s5' W)
  have hbo : bothB E l = true := by rw [bothB, hEk, hk]; rfl
  rw [unlR, if_pos hbo, ← hD, hE, unl_set hp (by rw [List.length_set, ← hn]; omega)] at c218
  rw [chkR, if_pos hbo, ← hD, hE, same_set hp] at c225
  have c91 := up (call91 (pu := true) b30 b8' (by omega) hw)
  obtain ⟨qa, oa, va, a29, r29⟩ := Bk.get b29' hEw (i := p) (by omega)
  obtain ⟨qb, ob, vb, a8, r8⟩ := Bk.get b8' hw (i := p) hp
  have hfe : fr E p = f := by rw [hE, fr_put hp, if_pos rfl]
  rw [hfe] at r29
  have ea : adr G.length (p * 12) ver = adr qa oa va := Option.some.inj (ha29.symm.trans a29)
  cases ea
  have heq := eqV_iv (k := .u16) (n := 12) (f := f) (g := fr D p) Vf.W.len (hw.fr hp).len
  have hfin : finish H.length G4 [.bool true] = (.bool true, H) := by rw [finish_bool, (hP.trans P34).take]
  have hf0 : fill ([] : List Value) [] = some [] := rfl
  have hfl := Vf.W.len
  have hpl : (parF D).length = 12 := parF_length
  by_cases hf : f = fr D p
  · have hd : decide (f = fr D p) = true := decide_eq_true hf
    rw [hd] at heq c225
    rw [if_pos hf] at c218
    have hz : (if (0 : Int) ≤ -1 then tup [.int .i64 (-1), .int .i64 0] else tup [.int .i64 0, .int .i64 6]) = tup [.int .i64 0, .int .i64 6] := if_neg (by omega)
    rw [hz] at c218
    simp [tailC, k60, h8, h16, h1, h5, h14, hf0, rep, ← hG1, sB, c170, ha29, hwr, wbOf, c144, c218, c225, c91, r29, a8, r8, agg_cs, heq, skip, hpl, hfl, QL, hfin]
  · have hd : decide (f = fr D p) = false := decide_eq_false hf
    rw [hd] at heq c225
    rw [if_neg hf, if_pos (by omega)] at c218
    simp [tailC, k60, h8, h16, h1, h5, h14, hf0, rep, ← hG1, sB, c170, ha29, hwr, wbOf, c144, c218, c225, c91, r29, a8, r8, agg_cs, heq, skip, hpl, hfl, QL, hfin]
def U60 : Cd := tailC 17 k60
theorem stepsTx_len {l : List Sted} (W : StsW l) (hk : okSts l = true) (hl : l.length ≤ 5) : (stepsTx l).length ≤ 1000000 := by
  have h := okSts_tx W hk
  have := catT_len (t := fun i => if i < l.length then stepTx (at0 l i) else []) (k := 100000) (fun i => by
    show (if i < l.length then stepTx (at0 l i) else []).length ≤ 100000
    split
    · rename_i hi
      have h := h i hi
      exact Nat.le_trans (stepTx_len h.w (by have := h.n; omega)) (by omega)
    · simp) l.length
  rw [stepsTx_cat] at this
  omega
theorem call60 {H : Heap} {y1 y2 : Value} {b1 b2 : List Int} (hd : Wd H) (h1 : By H y1 b1) (h2 : By H y2 b2) : Call tab2 false 60 [y1, y2] H = some (.bool true, H) := by
  refine Call_wp u60 (.inr rfl) rfl ?_
  show WK tab2 H.length false k60 [] (ini [y1, y2]) H (QL H.length H)
  have c1 := up (call169 (pu := true) h1)
  have c2 := up (call169 (pu := true) h2)
  have hT : k60 = headC 17 k60 U60 := rfl
  rw [hT]
  by_cases g1 : 4096 < b1.length
  · simp [headC, k60, c1, g1, QL, skip]
  by_cases g2 : 4096 < b2.length
  · simp [headC, k60, c1, g1, c2, g2, QL, skip]
  obtain ⟨l, x5, G1, c274, p1, s5, L, hl⟩ := call274 (pu := true) h1 (by omega)
  have c274 := up c274
  have hk := L.ok
  have W := L.W
  obtain ⟨D, hD⟩ : ∃ D, D = decL l l.length := ⟨_, rfl⟩
  have hn : D.length = l.length := by rw [hD]; exact decL_len
  have hw : BkW D := by rw [hD]; exact decW hk
  have hkB : okB D = true := by rw [hD]; exact dec_okB hk
  have eC : depC l = 0 := by rw [depC, if_pos hk]
  have eR : decR l = D := by rw [decR, if_pos hk, hD]
  have c271 := call271 (pu := true) (hd.pre p1) s5 W
  rw [txR', if_pos hk] at c271
  have htl := stepsTx_len W hk hl
  obtain ⟨x6, G2, c290, X6, p2⟩ := call290r (pu := true) (hd.pre p1) htl
  have hL : rdsL (stepsTx l) = l := by unfold rdsL; rw [imR_tx hk]; rfl
  have hC : rdsC (stepsTx l) = 0 := by unfold rdsC; rw [imR_tx hk]; rfl
  rw [hL] at X6
  rw [hC] at c290
  obtain ⟨r8, G3, β8, c203, p3, o8⟩ := rs203 W G2 _ (s5.pre p2)
  rw [eC] at c203
  rw [eR] at o8
  have c203 := up c203
  have b8 : Bk G3 r8 D := o8.sl
  have s5' := s5.pre (p2.trans p3)
  have s6' := X6.sts.pre p3
  have P3 := (p1.trans p2).trans p3
  have hr : ∀ s ∈ l, s.rows.length ≤ 1000000 := fun s hs => by have := L.r s hs; omega
  have c218 := up (call218 (pu := true) b8 hw (by omega) s5' W)
  have hbo : bothB D l = true := by rw [bothB, hkB, hk]; rfl
  rw [unlR, if_pos hbo, ← hD, unl_self (by omega), if_neg (by omega)] at c218
  have c109 := up (call109 (pu := true) b8 hw (by omega))
  have c108 := up (call108 (pu := true) b8 hw (by omega))
  rw [parR, if_pos hkB] at c109 c108
  have c158 := up (call158 (pu := true) s6' s5' (by omega) hr)
  have c160 := up (call160 (pu := true) s6' s5' (by omega) hr)
  rw [sameSts_self] at c158 c160
  have c163 := up (call163 (pu := true) s5' W)
  rw [hk] at c163
  have hpl : (parF D).length = 12 := parF_length
  have heq := eqV_iv (k := .u16) (n := 12) (f := parF D) (g := parF D) hpl hpl
  have hdq : decide (parF D = parF D) = true := decide_eq_true rfl
  rw [hdq] at heq
  have hz := stc_zr (k := .u16) (n := 12) (l := parF D) hpl
  by_cases hl0 : l.length = 0
  · have hl0' : ((l.length : Int) == 0) = true := by simp [hl0]
    simp [headC, k60, c1, g1, c2, g2, c274, c271, c290, c203, c218, c109, c108, c158, c160, c163, heq, zs_cs, agg_cs, hz, hpl, s5'.lenV, hl0, skip, QL, finish_bool, P3.take]
  have hl0' : ((l.length : Int) == 0) = false := beq_false_of_ne (by omega)
  obtain ⟨v, c259, v0, vn⟩ := call259 (pu := true) (n := (l.length : Int)) (h2.pre P3) (by omega) (by omega)
  obtain ⟨p, rfl⟩ := Int.eq_ofNat_of_zero_le v0
  have c259 := up c259
  have hp : p < l.length := by omega
  have hask : ∀ k : Nat, k < l.length → askC l k = 0 := fun k h => by rw [askC, if_pos hk, if_pos (by omega)]
  have c177 := up (call177 (pu := true) (p := (p : Int)) s5' W)
  have c176 := up (call176 (pu := true) (p := (p : Int)) s5' W)
  rw [seekR, if_pos (hask p hp)] at c177 c176
  have hsv : seekV l ((p : Int)).toNat = sumLo l p l.length := seekV_sum hk hp
  rw [hsv] at c177 c176
  obtain ⟨S, hS⟩ : ∃ S, S = sumLo l p l.length := ⟨_, rfl⟩
  rw [← hS] at c177 c176
  have hSC : StsC l := .of W hk
  have hfin0 : ∀ G', Pre G3 G' → Pre H G' := fun G' q => P3.trans q
  simp [headC, k60, c1, g1, c2, g2, c274, c271, c290, c203, c218, c109, c108, c158, c160, c163, heq, zs_cs, agg_cs, hz, hpl, s5'.lenV, hl0', skip, c259, c177, c176]
  refine WP_count 22 l.length _ rfl (fun i e G => e 1 = y2 ∧ e 5 = x5 ∧ e 8 = r8 ∧ e 14 = iv .u16 (parF D) ∧ e 16 = .int .i64 (p : Int) ∧ e 19 = .int .i64 S ∧ e 21 = .int .i64 (sumLo l p i) ∧ Pre G3 G) (by omega) ?_ ?_ (by simp) (by simp [sumLo])
  · rintro i e G _ hi hii e4 h22 ⟨h1e, h5, h8, h14, h16, h19, h21, pG⟩
    obtain ⟨r23, G4, β4, c185, p4, o23⟩ := rs185 (p := (i : Int)) W G _ (s5'.pre pG)
    obtain ⟨r25, G5, β5, c184, p5, o25⟩ := rs184 (p := (i : Int)) W G4 _ ((s5'.pre pG).pre p4)
    rw [hask i hi] at c185 c184
    have c185 := up c185
    have c184 := up c184
    have p45 := p4.trans p5
    obtain ⟨q, off, ver, y0, ha, hr0, hy0⟩ := ((s5'.pre pG).pre p45).get hi
    have cc := up (cost82 (pu := true) hy0 (L.okS hi))
    have s23 := o23.sl.pre p5
    have s25 := o25.sl
    have hrl := losR_len (l := l) (p := (i : Int)) (by omega)
    have c262 := up (call262 (pu := true) s23 s25 hrl)
    have c265 := up (call265 (pu := true) (a := (p : Int)) s25 (by omega))
    obtain ⟨rr, hrr⟩ := losR_head hk hi
    have hpos : 0 < (losR l (i : Int)).length := by rw [hrr]; simp
    obtain ⟨qa, oa, va, a0, ra⟩ := s25.get1 (i := 0) hpos
    rw [elem_i hpos] at ra
    have hn0 : nth (losR l (i : Int)) 0 = (i : Int) := by rw [hrr]; rfl
    rw [hn0] at ra
    have hlne : (((losR l (i : Int)).length : Int) == 0) = false := beq_false_of_ne (by omega)
    have b1 := sumLo_ok hk L.r (p := p) (m := i) (by omega)
    have b2 := sumLo_ok hk L.r (p := p) (m := i + 1) (by omega)
    have hs1 : sumLo l p (i + 1) = sumLo l p i + if memI (losR l i) p = true then stCost (at0 l i) else 0 := rfl
    have hne0 : ((i : Int) != i) = false := by simp
    simp only [stC] at hr0 cc
    have e0 : ((0 : Nat) : Int) = 0 := rfl
    rw [e0] at a0
    cases hm : memI (losR l (i : Int)) (p : Int) with
    | true =>
      rw [hm, if_pos rfl] at hs1
      rw [hm] at c265
      have ew : IntKind.wrap .i64 (sumLo l p i + stCost (at0 l i)) = sumLo l p (i + 1) := by rw [hs1] at b2 ⊢; exact wrap64 (by omega)
      simp [b60_1, h22, h5, s5'.lenV, hii, c185, c184, ha, hr0, cc, c262, c265, s25.lenV, hlne, a0, ra, h16, h21, ew, e4, skip]
      exact ⟨h1e, h8, h14, h19, pG.trans p45⟩
    | false =>
      rw [hm, if_neg (by decide)] at hs1
      rw [hm] at c265
      have ew : sumLo l p i = sumLo l p (i + 1) := by omega
      simp [b60_1, h22, h5, s5'.lenV, hii, c185, c184, ha, hr0, cc, c262, c265, s25.lenV, hlne, a0, ra, h16, h21, e4, skip]
      exact ⟨h1e, h8, h14, h19, ew, pG.trans p45⟩
  · rintro e G _ h22 ⟨h1e, h5, h8, h14, h16, h19, h21, pG⟩
    rw [← hS] at h21
    simp [b60_1, h22, h5, s5'.lenV, h21, h19, skip]
    exact c60_17 (D := D) (p := p) (P3.trans pG) ((h2.pre P3).pre pG) (by omega) hD hk W (SlR.pre pG b8) (s5'.pre pG) (by omega) (by simp [h1e]) (by simp [h5]) (by simp [h8]) (by simp [h14]) (by simp [h16])
end Fb
