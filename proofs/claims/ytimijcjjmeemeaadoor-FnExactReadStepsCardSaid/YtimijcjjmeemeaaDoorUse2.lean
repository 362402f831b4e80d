/- What each function computes. -/
import Derived.Test.YtimijcjjmeemeaaDoorUse1
set_option linter.unusedVariables false
set_option linter.unusedSimpArgs false
namespace Fb
open Go
theorem RwI.push {rs : List (Int × Int)} {i : Nat} {v : Int} (h : RwI rs i) (hv : 1 ≤ v ∧ v ≤ 63) : RwI (rs ++ [((i : Int), v)]) (i + 1) := by
  obtain ⟨h1, h2, h3⟩ := h
  refine ⟨fun m hm => ?_, ?_, by simp; omega⟩
  · rcases List.mem_append.1 hm with hm | hm
    · have := h1 m hm; omega
    · rw [List.mem_singleton] at hm
      subst hm
      simp only []
      omega
  · rw [List.pairwise_append]
    refine ⟨h2, List.pairwise_singleton _ _, fun a ha b hb => ?_⟩
    rw [List.mem_singleton] at hb
    subst hb
    have := h1 a ha
    simp only []
    omega
structure DrL (l : List Sted) : Prop where
  ok : okSts l = true
  r : ∀ s ∈ l, s.rows.length ≤ 4
theorem DrL.push {l : List Sted} {s : Sted} (h : DrL l) (hn : l.length ≤ 10) (hs : okSt s l.length = true) (hr : s.rows.length ≤ 4) : DrL (l ++ [s]) := by
  refine ⟨okSts_of (by simp; omega) fun i hi => ?_, fun t ht => ?_⟩
  · have hi : i < l.length + 1 := by simpa using hi
    rw [at0_app]
    by_cases h1 : i < l.length
    · rw [if_pos h1]; exact okSts_get h.ok h1
    · have : i = l.length := by omega
      subst this
      rw [if_neg h1, if_pos rfl]; exact hs
  · rcases List.mem_append.1 ht with h1 | h1
    · exact h.r t h1
    · rw [List.mem_singleton] at h1; subst h1; exact hr
theorem Dr.fin {n0 P : Nat} {G0 G : Heap} {k κ b ver : Nat} {l : List Sted} {rs : List (Int × Int)} {y : Value} (D : Dr n0 P G0 G k κ b ver l rs y) :
    ∃ b' ver' G'', finish n0 G [slc b 0 ver l.length l.length] = (slc b' 0 ver' l.length l.length, G'') ∧ StD n0 G'' b' ver' l ∧ Src G'' P k ∧ n0 ≤ G''.length ∧ ∀ j, j < n0 → j ≠ P → G''[j]? = G0[j]? := by
  have h0 := D.k0
  have h1 := D.k1
  have hP := D.lt
  have e3 : (G.take n0).length = n0 := by simp; omega
  have hs := D.ls.pre Pre.takes
  obtain ⟨b', ver', G'', f, sd, p⟩ := StD.fin (H := G.take n0) (G := G) (b := b) (ver := ver) (l := l) (rest := []) (by rw [e3]; exact hs) Pre.takes rfl
  rw [e3] at f sd
  have eg : ∀ j, j < n0 → G''[j]? = G[j]? := fun j hj => by
    rw [p.get (by omega), List.getElem?_take, if_pos hj]
  exact ⟨b', ver', G'', f, sd, D.src.mv (eg P hP) fun j hj => eg j (by omega), by have := p.len; omega, fun j hj hp => by rw [eg j hj]; exact D.get j hj hp⟩
theorem StD.low {n0 n1 b ver : Nat} {G : Heap} {l : List Sted} (h : StD n0 G b ver l) (hn : n1 ≤ n0) : StD n1 G b ver l := by
  obtain ⟨ys, β, h⟩ := h; exact ⟨ys, β, h.low hn⟩
structure L56 (G : Heap) (x8 x15 x28 x33 : Value) (D : List (List Int)) (v : Int) : Prop where
  bk : Bk G x8 D
  vs15 : StS G x15 (encB D 40)
  vs28 : StS G x28 (encB D v)
  vs33 : SlR G x33 1 D.length (cs .i64 (encP D v D.length).2)
theorem L56.pre {G G' : Heap} {x8 x15 x28 x33 : Value} {D : List (List Int)} {v : Int} (p : Pre G G') (h : L56 G x8 x15 x28 x33 D v) : L56 G' x8 x15 x28 x33 D v :=
  ⟨SlR.pre p h.bk, h.vs15.pre p, h.vs28.pre p, h.vs33.pre p⟩
/-- The words of the kinds of steps, in a package-level variable (block 0). -/
def wrdL : List (List UInt8) := [[119, 104, 111, 108, 101], [99, 111, 112, 121], [109, 111, 118, 101]]
def Wd (H : Heap) : Prop := H[0]? = some ⟨wrdL.map str, 1, 0, true⟩
theorem Wd.lt {H : Heap} (h : Wd H) : 0 < H.length := (List.getElem?_eq_some_iff.1 h).1
theorem Wd.pre {H G : Heap} (h : Wd H) (p : Pre H G) : Wd G := by unfold Wd; rw [p.get h.lt]; exact h
theorem ptr0 : Value.pointer (some ⟨0, 0, some 0⟩) = adr 0 0 0 := rfl
def wrd (a : Nat) : List UInt8 := wrdL.getD a []
theorem Wd.rd {H : Heap} (h : Wd H) {a : Nat} (ha : a < 3) : rd H 0 a 0 1 = some [str (wrd a)] := by
  rw [rd_at h rfl (by simp [wrdL]; omega)]
  match a, ha with
  | 0, _ => rfl
  | 1, _ => rfl
  | 2, _ => rfl
theorem itoa_len20 {v : Int} (h1 : -9223372036854775808 < v) (h2 : v ≤ 9223372036854775807) : (Lib.itoa v).length ≤ 21 := by
  unfold Lib.itoa
  split
  · have := dec_len20 (n := v.natAbs) (by omega)
    simp; omega
  · have := dec_len20 (n := v.toNat) (by omega)
    omega
def rowTx (s : Sted) : Nat → List UInt8
  | 0 => []
  | j + 1 => rowTx s j ++ ([32] ++ Lib.itoa (rw' s j).1 ++ [58] ++ Lib.itoa (rw' s j).2)
def headTx (s : Sted) : List UInt8 :=
  if s.a = 0 then wrd 0 else if s.a = 1 then wrd 1 ++ ([32] ++ Lib.itoa s.b) else wrd 2 ++ ([32] ++ Lib.itoa s.b) ++ ([32] ++ Lib.itoa s.c ++ [32] ++ Lib.itoa s.d)
def stepTx (s : Sted) : List UInt8 := headTx s ++ rowTx s s.rows.length
theorem okSt_rows2 {s : Sted} {i : Nat} (h : okSt s i = true) : s.rows.length ≤ 12 ∧ ∀ j, j < s.rows.length → 0 ≤ (rw' s j).1 ∧ (rw' s j).1 ≤ 11 ∧ 1 ≤ (rw' s j).2 ∧ (rw' s j).2 ≤ 4095 := by
  simp only [okSt, rowsB, Bool.and_eq_true] at h
  have key : ∀ j, j < s.rows.length → in1 (rw' s j).1 0 11 = true ∧ in1 (rw' s j).2 1 4095 = true ∧ (j = 0 ∨ (rw' s (j - 1)).1 < (rw' s j).1) := fun j hj => by
    have := allN_get (p := rowB s) h.1 hj
    simpa [rowB, and_assoc] using this
  have hr : ∀ j, j < s.rows.length → 0 ≤ (rw' s j).1 ∧ (rw' s j).1 ≤ 11 ∧ 1 ≤ (rw' s j).2 ∧ (rw' s j).2 ≤ 4095 := fun j hj => by
    obtain ⟨h1, h2, _⟩ := key j hj
    simp [in1] at h1 h2
    omega
  have hm : ∀ j : Nat, j < s.rows.length → (j : Int) ≤ (rw' s j).1 := fun j => by
    induction j with
    | zero => intro hj; exact (hr 0 hj).1
    | succ j ih =>
      intro hj
      have h1 := ih (by omega)
      have h2 := (key (j + 1) hj).2.2
      simp at h2
      omega
  refine ⟨?_, hr⟩
  rcases Nat.lt_or_ge 12 s.rows.length with h1 | h1
  · have h2 := hm 12 h1
    have h3 := (hr 12 h1).2.1
    omega
  · exact h1
theorem rowTx_len {s : Sted} (hw : StW s) {j : Nat} (hj : j ≤ s.rows.length) : (rowTx s j).length ≤ 44 * j := by
  induction j with
  | zero => simp [rowTx]
  | succ j ih =>
    have h1 := hw.rows _ (at0_mem (i := j) (by omega))
    have h2 := itoa_len20 (v := (rw' s j).1) (by have := h1.1.1; unfold rw'; omega) (by have := h1.1.2; unfold rw'; omega)
    have h3 := itoa_len20 (v := (rw' s j).2) (by have := h1.2.1; unfold rw'; omega) (by have := h1.2.2; unfold rw'; omega)
    have := ih (by omega)
    simp [rowTx]; omega
theorem wrd_len {a : Nat} : (wrd a).length ≤ 5 := by
  unfold wrd
  match a with
  | 0 => decide
  | 1 => decide
  | 2 => decide
  | a + 3 => simp [wrdL]
theorem headTx_len {s : Sted} (hw : StW s) : (headTx s).length ≤ 80 := by
  have h1 := itoa_len20 (v := s.b) (by have := hw.b.1; omega) (by have := hw.b.2; omega)
  have h2 := itoa_len20 (v := s.c) (by have := hw.c.1; omega) (by have := hw.c.2; omega)
  have h3 := itoa_len20 (v := s.d) (by have := hw.d.1; omega) (by have := hw.d.2; omega)
  have w0 := wrd_len (a := 0)
  have w1 := wrd_len (a := 1)
  have w2 := wrd_len (a := 2)
  unfold headTx
  split
  · omega
  · split <;> simp <;> omega
theorem stepTx_len {s : Sted} (hw : StW s) (hn : s.rows.length ≤ 1000) : (stepTx s).length ≤ 100000 := by
  have h1 := headTx_len hw
  have h2 := rowTx_len hw (Nat.le_refl _)
  unfold stepTx
  simp; omega
theorem add_t {a b : List UInt8} (ha : a.length ≤ 1000000000) (hb : b.length ≤ 1000000000) : binop .add (str a) (str b) = some (str (a ++ b)) := add_s (by omega)
def QS (n0 : Nat) (t : List UInt8) (H : Heap) : Ex → Env → Heap → Prop := fun x e' H' => (∀ i, x ≠ .exit i) ∧ (resVs e' H' [.t 2]).map (finish n0 H') = some (str t, H)
/-- The text of a step, in the program's stepText. -/
theorem call465 {pu : Bool} {H : Heap} {y : Value} {s : Sted} (hd : Wd H) (h : Rw H y s) (hw : StW s) (ha : 0 ≤ s.a ∧ s.a ≤ 2) (hn : s.rows.length ≤ 1000) : Call tab pu 465 [agg (stC s y)] H = some (str (stepTx s), H) := by
  refine Call_wp t465 (.inr rfl) rfl ?_
  have lb := itoa_len20 (v := s.b) (by have := hw.b.1; omega) (by have := hw.b.2; omega)
  have lc := itoa_len20 (v := s.c) (by have := hw.c.1; omega) (by have := hw.c.2; omega)
  have ld := itoa_len20 (v := s.d) (by have := hw.d.1; omega) (by have := hw.d.2; omega)
  have wb : IntKind.wrap .i64 s.b = s.b := wrap64 (by have := hw.b; unfold i8 at this; omega)
  have wc : IntKind.wrap .i64 s.c = s.c := wrap64 (by have := hw.c; unfold i8 at this; omega)
  have wd : IntKind.wrap .i64 s.d = s.d := wrap64 (by have := hw.d; unfold i8 at this; omega)
  have cb := call379 (pu := true) (n := s.b) (H := H) (by have := hw.b.1; omega) (by have := hw.b.2; omega)
  have cc := call379 (pu := true) (n := s.c) (H := H) (by have := hw.c.1; omega) (by have := hw.c.2; omega)
  have cd := call379 (pu := true) (n := s.d) (H := H) (by have := hw.d.1; omega) (by have := hw.d.2; omega)
  have loop : ∀ e : Env, e 1 = agg (stC s y) → e 3 = str (headTx s) → WK tab H.length false (tailC 4 k465) [] e H (QS H.length (stepTx s) H) := by
    intro e h1 h3
    have hlv := SlR.lenV h
    simp only [stC] at h1
    simp [tailC, k465, h1, ldc5e, hlv]
    refine WP_forH 39 s.rows.length _ rfl (by omega) (fun j e => e 37 = y ∧ e 38 = .int .i64 (s.rows.length : Int) ∧ e 3 = str (headTx s ++ rowTx s j)) ?_ ?_ (by simp) (by simp [h3, rowTx])
    · rintro j e hj hjj e4 h39 ⟨h37, h38, h3⟩
      obtain ⟨q, off, ver, hx, hr, _, _⟩ := Rw.at h hj
      have hb := hw.rows _ (at0_mem (i := j) hj)
      obtain ⟨u, hu⟩ : ∃ u, u = (rw' s j).1 := ⟨_, rfl⟩
      obtain ⟨v, hv⟩ : ∃ v, v = (rw' s j).2 := ⟨_, rfl⟩
      have hub : i8 u := by rw [hu]; exact hb.1
      have hvb : u16' v := by rw [hv]; exact hb.2
      have lu := itoa_len20 (v := u) (by have := hub.1; omega) (by have := hub.2; omega)
      have lv := itoa_len20 (v := v) (by have := hvb.1; omega) (by have := hvb.2; omega)
      have wu : IntKind.wrap .i64 u = u := wrap64 (by unfold i8 at hub; omega)
      have wv : IntKind.wrap .i64 v = v := wrap64 (by unfold u16' at hvb; omega)
      have cu := call379 (pu := true) (n := u) (H := H) (by have := hub.1; omega) (by have := hub.2; omega)
      have cv := call379 (pu := true) (n := v) (H := H) (by have := hvb.1; omega) (by have := hvb.2; omega)
      have l1 := headTx_len hw
      have l2 := rowTx_len hw (j := j) (by omega)
      rw [← hu, ← hv] at hr
      have a1 : binop .add (.string ⟨#[32]⟩) (str (Lib.itoa u)) = some (str ([32] ++ Lib.itoa u)) := add_t (a := [32]) (by simp) (by omega)
      have a2 : binop .add (str ([32] ++ Lib.itoa u)) (.string ⟨#[58]⟩) = some (str ([32] ++ Lib.itoa u ++ [58])) := add_t (b := [58]) (by simp; omega) (by simp)
      have a3 : binop .add (str ([32] ++ Lib.itoa u ++ [58])) (str (Lib.itoa v)) = some (str ([32] ++ Lib.itoa u ++ [58] ++ Lib.itoa v)) := add_t (by simp; omega) (by omega)
      have a4 : binop .add (str (headTx s ++ rowTx s j)) (str ([32] ++ Lib.itoa u ++ [58] ++ Lib.itoa v)) = some (str (headTx s ++ rowTx s (j + 1))) := by
        rw [add_t (by simp; omega) (by simp; omega), rowTx, ← hu, ← hv, List.append_assoc]
      have q0 : stc (agg [.int .i8 0, .int .u16 0]) 0 [.int .i8 u, .int .u16 v] = some (agg [.int .i8 u, .int .u16 v]) := rfl
      have q1 : ldc 1 false (agg [.int .i8 u, .int .u16 v]) 0 = some (.int .i8 u) := rfl
      have q2 : ldc 1 false (agg [.int .i8 u, .int .u16 v]) 1 = some (.int .u16 v) := rfl
      simp only [List.cons_append, List.nil_append, List.append_assoc] at a1 a2 a3 a4
      simp [b465_1, h39, h37, h38, h3, hjj, hx, hr, q0, q1, q2, wu, wv, cu, cv, a1, a2, a3, a4, e4]
    · rintro e h39 ⟨h37, h38, h3⟩
      simp [b465_1, h39, h38, h3, stepTx, QS]
  have hT : k465 = headC 4 k465 (tailC 4 k465) := rfl
  show WK tab H.length false k465 [] (ini [agg (stC s y)]) H (QS H.length (stepTx s) H)
  rw [hT]
  generalize tailC 4 k465 = T at loop
  have w0 := wrd_len (a := 0)
  have w1 := wrd_len (a := 1)
  have w2 := wrd_len (a := 2)
  by_cases h0 : s.a = 0
  · have hr := hd.rd (a := 0) (by omega)
    have hh : headTx s = wrd 0 := by unfold headTx; rw [if_pos h0]
    have hat : at' 3 (.int .i8 (0 : Int)) = some 0 := rfl
    simp [headC, k465, stC, ldc5a, ldc5b, ldc5c, ldc5d, ldc5e, h0, hat, ptr0, hr]
    exact loop _ (by simp [stC, h0]) (by simp [hh])
  by_cases h1 : s.a = 1
  · have hr := hd.rd (a := 1) (by omega)
    have hh : headTx s = wrd 1 ++ ([32] ++ Lib.itoa s.b) := by unfold headTx; rw [if_neg h0, if_pos h1]
    have a1 : binop .add (.string ⟨#[32]⟩) (str (Lib.itoa s.b)) = some (str ([32] ++ Lib.itoa s.b)) := add_t (a := [32]) (by simp) (by omega)
    have a2 : binop .add (str (wrd 1)) (str ([32] ++ Lib.itoa s.b)) = some (str (headTx s)) := by rw [hh]; exact add_t (by omega) (by simp; omega)
    simp only [List.cons_append, List.nil_append, List.append_assoc] at a1 a2
    have hat : at' 3 (.int .i8 (1 : Int)) = some 1 := rfl
    simp [headC, k465, stC, ldc5a, ldc5b, ldc5c, ldc5d, ldc5e, h1, hat, ptr0, hr, wb, cb, a1, a2]
    exact loop _ (by simp [stC, h1]) (by simp)
  · have h2 : s.a = 2 := by omega
    have hr := hd.rd (a := 2) (by omega)
    have hh : headTx s = wrd 2 ++ ([32] ++ Lib.itoa s.b) ++ ([32] ++ Lib.itoa s.c ++ [32] ++ Lib.itoa s.d) := by unfold headTx; rw [if_neg h0, if_neg h1]
    have a1 : binop .add (.string ⟨#[32]⟩) (str (Lib.itoa s.b)) = some (str ([32] ++ Lib.itoa s.b)) := add_t (a := [32]) (by simp) (by omega)
    have a2 : binop .add (str (wrd 2)) (str ([32] ++ Lib.itoa s.b)) = some (str (wrd 2 ++ ([32] ++ Lib.itoa s.b))) := add_t (by omega) (by simp; omega)
    have a3 : binop .add (.string ⟨#[32]⟩) (str (Lib.itoa s.c)) = some (str ([32] ++ Lib.itoa s.c)) := add_t (a := [32]) (by simp) (by omega)
    have a4 : binop .add (str ([32] ++ Lib.itoa s.c)) (.string ⟨#[32]⟩) = some (str ([32] ++ Lib.itoa s.c ++ [32])) := add_t (b := [32]) (by simp; omega) (by simp)
    have a5 : binop .add (str ([32] ++ Lib.itoa s.c ++ [32])) (str (Lib.itoa s.d)) = some (str ([32] ++ Lib.itoa s.c ++ [32] ++ Lib.itoa s.d)) := add_t (by simp; omega) (by omega)
    have a6 : binop .add (str (wrd 2 ++ ([32] ++ Lib.itoa s.b))) (str ([32] ++ Lib.itoa s.c ++ [32] ++ Lib.itoa s.d)) = some (str (headTx s)) := by rw [hh]; exact add_t (by simp; omega) (by simp; omega)
    simp only [List.cons_append, List.nil_append, List.append_assoc] at a1 a2 a3 a4 a5 a6
    have hat : at' 3 (.int .i8 (2 : Int)) = some 2 := rfl
    simp [headC, k465, stC, ldc5a, ldc5b, ldc5c, ldc5d, ldc5e, h2, hat, ptr0, hr, wb, wc, wd, cb, cc, cd, a1, a2, a3, a4, a5, a6]
    exact loop _ (by simp [stC, h2]) (by simp)
theorem itoa_nat {n : Nat} : Lib.itoa (n : Int) = Lib.decDigits n := by unfold Lib.itoa; rw [if_neg (by omega), Int.toNat_natCast]
/-- A step that a text tells: not less than 0 where the spec writes no sign. -/
structure TxS (s : Sted) : Prop where
  w : StW s
  a : 0 ≤ s.a ∧ s.a ≤ 2
  b : 0 ≤ s.b
  n : s.rows.length ≤ 12
  r : ∀ j, j < s.rows.length → 0 ≤ (rw' s j).1 ∧ (rw' s j).1 ≤ 11 ∧ 1 ≤ (rw' s j).2 ∧ (rw' s j).2 ≤ 4095
theorem okSt_tx {s : Sted} {i : Nat} (h : okSt s i = true) (hw : StW s) : TxS s := by
  obtain ⟨h1, h2⟩ := okSt_rows2 h
  refine ⟨hw, okSt_a h, ?_, h1, h2⟩
  by_cases h0 : s.a = 0
  · simp only [okSt, kindB, Bool.and_eq_true] at h
    obtain ⟨_, h⟩ := h
    rw [if_pos (by simp [h0])] at h
    simp at h
    omega
  · exact (okSt_b h h0).1
/-- The text of steps. -/
def stepsTx (l : List Sted) : List UInt8 := catT (fun i => stepTx (at0 l i)) l.length
theorem okSts_tx {l : List Sted} (hw : StsW l) (hk : okSts l = true) : ∀ i, i < l.length → TxS (at0 l i) := fun i hi => okSt_tx (okSts_get hk hi) (hw.w _ (at0_mem hi))
theorem slR_slice {H : Heap} {y : Value} {esz n : Nat} {vs : List Value} (h : SlR H y esz n vs) : ∃ q mc, y = .slice q n mc := by
  rcases h.is with ⟨rfl, rfl⟩ | ⟨b, off, ver, cap, rfl, _⟩
  · exact ⟨_, _, rfl⟩
  · exact ⟨_, _, rfl⟩
theorem stT {H : Heap} {x : Value} {l : List Sted} (hd : Wd H) (h : StS H x l) (hw : StsW l) (hk : okSts l = true) :
    StT tab H x l.length (fun i => if i < l.length then stepTx (at0 l i) else []) := by
  have c163 := call163 (pu := true) h hw
  rw [hk] at c163
  refine ⟨hw.n, c163, fun i => ?_, ?_⟩
  · by_cases hi : i < l.length
    · rw [if_pos hi]
      have t := okSts_tx hw hk i hi
      have := stepTx_len t.w (by have := t.n; omega)
      omega
    · rw [if_neg hi]; simp
  · obtain ⟨p, cap, hx⟩ : ∃ p cap, x = .slice p l.length cap := by
      obtain ⟨vs, h1, _⟩ := h
      exact slR_slice h1
    refine ⟨p, cap, hx, fun i hi => ?_⟩
    obtain ⟨q, o, v, y, ha, hrd, hrw⟩ := h.get hi
    have t := okSts_tx hw hk i hi
    obtain ⟨yq, ymc, hy⟩ := slR_slice hrw
    have hx2 : ∃ b off ver, p = some ⟨b, off, some ver⟩ := by
      obtain ⟨vs, h1, _⟩ := h
      rcases h1.is with ⟨e, e2⟩ | ⟨b, off, ver, cap', e, _⟩
      · omega
      · rw [hx] at e; cases e; exact ⟨_, _, _, rfl⟩
    obtain ⟨b, off, ver, rfl⟩ := hx2
    have hx3 : x = slc b off ver l.length cap := hx
    rw [hx3, idxAV_slc, at_nat hi] at ha
    have e : adr b (off + i * 5) ver = adr q o v := Option.some.inj ha
    cases e
    subst hy
    have c := call465 (pu := true) hd hrw t.w t.a (by have := t.n; omega)
    refine ⟨_, _, _, _, _, _, _, _, _, _, rfl, hrd, ?_⟩
    rw [if_pos hi]
    exact c
theorem stepsTx_cat {l : List Sted} : catT (fun i => if i < l.length then stepTx (at0 l i) else []) l.length = stepsTx l := catT_congr fun i hi => by rw [if_pos hi]
def txR' (l : List Sted) : List UInt8 := if okSts l = true then stepsTx l else []
theorem call271 {H : Heap} {x : Value} {l : List Sted} (hd : Wd H) (h : StS H x l) (hw : StsW l) {pu : Bool} : Call tab2 pu 271 [x] H = some (str (txR' l), H) := by
  rw [Call_ext t271 (.inr rfl)]
  cases hk : okSts l with
  | true =>
    rw [ext271_yes (stT hd h hw hk), stepsTx_cat, txR', if_pos hk]
  | false =>
    have c := call163 (pu := true) h hw
    rw [hk] at c
    rw [ext271_no c, txR', if_neg (by simp [hk])]
/-- Where a word stands. -/
def idxL (w : List UInt8) : List (List UInt8) → Nat → Int
  | [], _ => -1
  | v :: r, i => if w = v then i else idxL w r (i + 1)
theorem idxL_at {w : List UInt8} : ∀ {l : List (List UInt8)} {i k : Nat}, k < l.length → (∀ j, j < k → l.getD j [] ≠ w) → l.getD k [] = w → idxL w l i = ((i + k : Nat) : Int)
  | [], _, _, h, _, _ => absurd h (Nat.not_lt_zero _)
  | v :: r, i, 0, _, _, h => by
    rw [idxL, if_pos (by simpa using h.symm)]; rfl
  | v :: r, i, k + 1, hk, hj, h => by
    rw [idxL, if_neg (fun e => hj 0 (by omega) (by simpa using e.symm)), idxL_at (k := k) (by simpa using hk) (fun j hjk => by have := hj (j + 1) (by omega); simpa using this) (by simpa using h)]
    congr 1; omega
theorem idxL_none {w : List UInt8} : ∀ {l : List (List UInt8)} {i : Nat}, (∀ j, j < l.length → l.getD j [] ≠ w) → idxL w l i = -1
  | [], _, _ => rfl
  | v :: r, i, h => by
    rw [idxL, if_neg (fun e => h 0 (by simp) (by simpa using e.symm))]
    exact idxL_none fun j hj => by have := h (j + 1) (by simp; omega); simpa using this
theorem call559 {pu : Bool} {G : Heap} {x : Value} {l : List (List UInt8)} {w : List UInt8} (hx : SlR G x 1 l.length (l.map str)) (hn : l.length ≤ 1000000) : Call tab pu 559 [x, str w] G = some (.int .i64 (idxL w l 0), G) := by
  refine Call_wp t559 (.inr rfl) rfl ?_
  simp [c559, k559, hx.lenV]
  refine WP_forH 8 l.length _ rfl (by omega) (fun i e => e 0 = x ∧ e 1 = str w ∧ e 7 = .int .i64 (l.length : Int) ∧ ∀ j, j < i → l.getD j [] ≠ w) ?_ ?_ (by simp) (by simp)
  · rintro i e hi hii e4 h8 ⟨h0, h1, h7, hall⟩
    obtain ⟨q, off, ver, ha, hr⟩ := strs_get hx hi
    obtain ⟨v, hv⟩ : ∃ v, v = l.getD i [] := ⟨_, rfl⟩
    rw [← hv] at hr
    have hq := eqV_s (a := w) (b := v)
    by_cases e : w = v
    · have hd : decide (w = v) = true := decide_eq_true e
      rw [hd] at hq
      have hidx := idxL_at (i := 0) hi hall (hv.symm.trans e.symm)
      rw [Nat.zero_add] at hidx
      simp [b559_1, h8, h0, h1, h7, hii, ha, hr, hq, hidx]
    · have hd : decide (w = v) = false := decide_eq_false e
      rw [hd] at hq
      have hall' : ∀ j, j < i + 1 → l.getD j [] ≠ w := fun j hj => by
        by_cases hji : j = i
        · subst hji; intro h; exact e (h.symm.trans hv.symm)
        · exact hall j (by omega)
      simp [b559_1, h8, h0, h1, h7, hii, ha, hr, hq, e4]
      intro j hj
      have := hall' j hj
      simpa using this
  · rintro e h8 ⟨h0, h1, h7, hall⟩
    have hidx := idxL_none (i := 0) hall
    simp [b559_1, h8, h7, hidx]
/-- Which kind of step a word tells. -/
def hdN (w : List UInt8) : Int := idxL w wrdL 0
def nmK (a : Int) : Nat := if a = 0 then 0 else if a = 1 then 1 else 3
def nmAt (ws : List (List UInt8)) (i : Nat) : Option Int := rdIn (ws.getD (i + 1) []) (-12) 40
def rwI (w : List UInt8) : Option (Int × Int) := if (cutc 58 w).2.2 = true then mv2 (rdIn (cutc 58 w).1 0 11) (rdIn (cutc 58 w).2.1 1 4095) else none
def nmV (ws : List (List UInt8)) (k i : Nat) : Int := if i < k then (nmAt ws i).getD 0 else 0
def rwD (w : List UInt8) : Int × Int := (rwI w).getD (0, 0)
/-- All is well in a line's words. -/
def ipOk (ws : List (List UInt8)) (k : Nat) : Prop := k + 1 ≤ ws.length ∧ (∀ i, i < k → (nmAt ws i).isSome = true) ∧ ∀ w ∈ ws.drop (k + 1), (rwI w).isSome = true
instance {ws : List (List UInt8)} {k : Nat} : Decidable (ipOk ws k) := by unfold ipOk; infer_instance
def ipS (ws : List (List UInt8)) (a : Int) : Sted := ⟨a, nmV ws (nmK a) 0, nmV ws (nmK a) 1, nmV ws (nmK a) 2, (ws.drop (nmK a + 1)).map rwD⟩
/-- The step that the program's readStep makes of a line's words. -/
def implP (ws : List (List UInt8)) : Option Sted :=
  if hdN (ws.getD 0 []) < 0 then none else if ipOk ws (nmK (hdN (ws.getD 0 []))) then some (ipS ws (hdN (ws.getD 0 []))) else none
theorem hdN_cases (w : List UInt8) : hdN w = -1 ∨ hdN w = 0 ∨ hdN w = 1 ∨ hdN w = 2 := by
  unfold hdN wrdL idxL idxL idxL idxL
  split
  · exact .inr (.inl rfl)
  · split
    · exact .inr (.inr (.inl rfl))
    · split
      · exact .inr (.inr (.inr rfl))
      · exact .inl rfl
theorem GrN.setBase {A G : Heap} {y : Value} {esz n P : Nat} {vs : List Value} {k : Blk} (g : GrN A G y esz n vs) (hP : P < A.length) : GrN (A.set P k) (G.set P k) y esz n vs := by
  rcases g with ⟨b, ver, e1, e2, e3, e4, q⟩ | ⟨e1, e2, e3, q⟩
  · exact .inl ⟨b, ver, e1, by rw [List.getElem?_set_ne (by omega)]; exact e2, by simpa using e3, e4, set_pre q hP⟩
  · exact .inr ⟨e1, e2, e3, set_pre q hP⟩
theorem finish_keep2 {n0 : Nat} {G : Heap} {l : List Value} {v : Value} (h : l.all (old0 n0) = false) : finish n0 G [agg l, v] = (tup [agg l, v], G) := by
  have e1 : old1 n0 (agg l) = false := by
    show l.toArray.toList.all (old0 n0) = false
    simpa using h
  have : pack n0 G [agg l, v] [] [] = none := by
    rw [pack, if_neg (by rw [e1]; decide)]; rfl
  unfold finish; rw [this]; rfl
def zS0 : Value := agg [.int .i8 0, .int .i8 0, .int .i8 0, .int .i8 0, .slice none 0 0]
/-- What readStep hands back. -/
def R486 (H : Heap) (o : Option Sted) (r : Value × Heap) : Prop := match o with
  | some s => ∃ y G, r = (tup [agg (stC s y), .bool true], G) ∧ GrN H G y 2 s.rows.length (chsC s.rows)
  | none => r = (tup [zS0, .bool false], H)
def Q486 (n0 : Nat) (H : Heap) (o : Option Sted) : Ex → Env → Heap → Prop := fun x e' H' => (∀ i, x ≠ .exit i) ∧ ∃ r, (resVs e' H' [.v 2 5 true, .t 3]).map (finish n0 H') = some r ∧ R486 H o r
def stB5 (a : Int) (f : Nat → Int) (y : Value) : List Value := [.int .i8 a, .int .i8 (f 0), .int .i8 (f 1), .int .i8 (f 2), y]
def M486 (H : Heap) (ws : List (List UInt8)) (a : Int) (f : Nat → Int) (y : Value) : Heap :=
  H ++ [⟨ws.map str, 1, 0, false⟩, ⟨stB5 a f y, 1, 0, false⟩, ⟨[adr (H.length + 1) 1 0, adr (H.length + 1) 2 0, adr (H.length + 1) 3 0], 1, 0, false⟩]
theorem M486_len {H : Heap} {ws : List (List UInt8)} {a : Int} {f : Nat → Int} {y : Value} : (M486 H ws a f y).length = H.length + 3 := by simp [M486]
theorem M486_pre {H : Heap} {ws : List (List UInt8)} {a : Int} {f : Nat → Int} {y : Value} : Pre H (M486 H ws a f y) := ⟨_, rfl⟩
theorem M486_0 {H : Heap} {ws : List (List UInt8)} {a : Int} {f : Nat → Int} {y : Value} : (M486 H ws a f y)[H.length]? = some ⟨ws.map str, 1, 0, false⟩ := by
  rw [M486, List.getElem?_append_right (Nat.le_refl _), Nat.sub_self]; rfl
theorem M486_1 {H : Heap} {ws : List (List UInt8)} {a : Int} {f : Nat → Int} {y : Value} : (M486 H ws a f y)[H.length + 1]? = some ⟨stB5 a f y, 1, 0, false⟩ := by
  rw [M486, List.getElem?_append_right (by omega), show H.length + 1 - H.length = 1 by omega]; rfl
theorem M486_2 {H : Heap} {ws : List (List UInt8)} {a : Int} {f : Nat → Int} {y : Value} : (M486 H ws a f y)[H.length + 2]? = some ⟨[adr (H.length + 1) 1 0, adr (H.length + 1) 2 0, adr (H.length + 1) 3 0], 1, 0, false⟩ := by
  rw [M486, List.getElem?_append_right (by omega), show H.length + 2 - H.length = 2 by omega]; rfl
theorem M486_set {H : Heap} {ws : List (List UInt8)} {a : Int} {f g : Nat → Int} {y y' : Value} : (M486 H ws a f y).set (H.length + 1) ⟨stB5 a g y', 1, 0, false⟩ = M486 H ws a g y' := by
  rw [M486, List.set_append_right _ _ (by omega), show H.length + 1 - H.length = 1 by omega]; rfl
theorem ws_rd {G : Heap} {b : Nat} {ws : List (List UInt8)} (hg : G[b]? = some ⟨ws.map str, 1, 0, false⟩) {i : Nat} (hi : i < ws.length) : rd G b i 0 1 = some [str (ws.getD i [])] := by
  rw [rd_at hg rfl (by simp; omega)]
  congr 1
  rw [List.drop_eq_getElem_cons (by simpa using hi)]
  simp [hi]
/-- The rows, and what is handed back. -/
theorem c486_8 {H : Heap} {ws : List (List UInt8)} {a : Int} {k : Nat} {f : Nat → Int} {e : Env} (hk : k = nmK a) (hkw : k + 1 ≤ ws.length) (hn : ws.length ≤ 1000001) (hw : ∀ i, (ws.getD i []).length ≤ 1000000) (hf : f 0 = nmV ws k 0 ∧ f 1 = nmV ws k 1 ∧ f 2 = nmV ws k 2)
    (hnm : ∀ i, i < k → (nmAt ws i).isSome = true) (h2 : e 2 = zS0) (h4 : e 4 = slc H.length 0 0 ws.length ws.length) (h6 : e 6 = adr (H.length + 1) 0 0) (h7 : e 7 = slc (H.length + 2) 0 0 k 3) :
    WK tab H.length false (tailC 8 k486) [] e (M486 H ws a f (.slice none 0 0)) (Q486 H.length H (if ipOk ws k then some (ipS ws a) else none)) := by
  have w1 : IntKind.wrap .i64 ((k : Int) + 1) = ((k + 1 : Nat) : Int) := by rw [wrap64 (by omega)]; omega
  have hsl := slcAV_lo1 (H := M486 H ws a f (.slice none 0 0)) (b := H.length) (n := ws.length) (cap := ws.length) (lo := k + 1) M486_0 rfl rfl (by omega)
  unfold zS0 at h2
  simp [tailC, k486, h4, h7, w1, hsl, -Int.natCast_add]
  refine WP_count 79 (ws.length - (k + 1)) _ rfl (fun j e G => e 2 = zS0 ∧ e 6 = adr (H.length + 1) 0 0 ∧ e 77 = slc H.length (k + 1) 0 (ws.length - (k + 1)) (ws.length - (k + 1)) ∧ e 78 = .int .i64 ((ws.length - (k + 1) : Nat) : Int) ∧
    (∀ w ∈ (ws.drop (k + 1)).take j, (rwI w).isSome = true) ∧ ∃ y, GrN (M486 H ws a f y) G y 2 j (chsC (((ws.drop (k + 1)).take j).map rwD))) (by omega) ?_ ?_ (by simp)
    ⟨by simp [h2, zS0], by simp [h6], by simp, by simp, by simp, .slice none 0 0, .inr ⟨rfl, rfl, by simp [chsC, rowsC], .refl⟩⟩
  · rintro j e G _ hj hjj e4 h79 ⟨h2, h6, h77, h78, hall, y, hg⟩
    have p := hg.pre
    have gW : G[H.length]? = some ⟨ws.map str, 1, 0, false⟩ := by rw [p.get (by rw [M486_len]; omega)]; exact M486_0
    have gP : G[H.length + 1]? = some ⟨stB5 a f y, 1, 0, false⟩ := by rw [p.get (by rw [M486_len]; omega)]; exact M486_1
    have pH : Pre H G := M486_pre.trans p
    have ha : idxAV 1 (slc H.length (k + 1) 0 (ws.length - (k + 1)) (ws.length - (k + 1))) (.int .i64 (j : Int)) = some (adr H.length (k + 1 + j) 0) := by
      rw [idxAV_slc, at_nat hj]; simp
    have hr := ws_rd gW (i := k + 1 + j) (by omega)
    obtain ⟨w, hwd⟩ : ∃ w, w = ws.getD (k + 1 + j) [] := ⟨_, rfl⟩
    rw [← hwd] at hr
    have hwl : w.length ≤ 1000000 := by rw [hwd]; exact hw _
    have htk : (ws.drop (k + 1)).take (j + 1) = (ws.drop (k + 1)).take j ++ [w] := by
      rw [List.take_add_one, List.getElem?_drop, hwd]
      have : k + 1 + j < ws.length := by omega
      simp [this]
    have hmem : w ∈ ws.drop (k + 1) := by
      rw [hwd, List.mem_iff_getElem?]
      have hlt : k + 1 + j < ws.length := by omega
      exact ⟨j, by rw [List.getElem?_drop, List.getD_eq_getElem?_getD, List.getElem?_eq_getElem hlt]; rfl⟩
    obtain ⟨l1, l2⟩ := cut_len 58 w
    have c1 := call377 (pu := false) (c := 58) (H := G) hwl
    obtain ⟨u, c2, hu⟩ := call378 (pu := true) (l := (cutc 58 w).1) (lo := 0) (hi := 11) (H := G) (by omega) (by omega) (by omega)
    obtain ⟨v, c3, hv⟩ := call378 (pu := true) (l := (cutc 58 w).2.1) (lo := 1) (hi := 4095) (H := G) (by omega) (by omega) (by omega)
    have hel : elder H.length false G (tup [str (cutc 58 w).1, str (cutc 58 w).2.1, .bool (cutc 58 w).2.2], G) = some (tup [str (cutc 58 w).1, str (cutc 58 w).2.1, .bool (cutc 58 w).2.2], G) := elder_same rfl
    have hbad : (rwI w).isSome = false → ¬ ipOk ws k := fun h hc => by
      have := hc.2.2 w hmem
      rw [h] at this; cases this
    have hfin : ∀ (h : (rwI w).isSome = false), R486 H (if ipOk ws k then some (ipS ws a) else none) (finish H.length G [agg [.int .i8 0, .int .i8 0, .int .i8 0, .int .i8 0, .slice none 0 0], .bool false]) := fun h => by
      rw [finish_2 rfl old1_bool, if_neg (hbad h), pH.take]; rfl
    unfold zS0 at h2
    have hf0 : fill [.int .i8 0, .int .i8 0, .int .i8 0, .int .i8 0, .slice none 0 0] [] = some [.int .i8 0, .int .i8 0, .int .i8 0, .int .i8 0, .slice none 0 0] := rfl
    cases b1 : (cutc 58 w).2.2 with
    | false =>
      have hno : (rwI w).isSome = false := by unfold rwI; rw [if_neg (by rw [b1]; decide)]; rfl
      rw [b1] at c1 hel
      simp [b486_2, h79, h77, h78, h6, hjj, ha, hr, c1, hel, wbOf, c2, c3, skip, Q486, stc5, h2, hf0]
      exact hfin hno
    | true =>
      have hrw : rwI w = mv2 (rdIn (cutc 58 w).1 0 11) (rdIn (cutc 58 w).2.1 1 4095) := by unfold rwI; rw [if_pos b1]
      rw [b1] at c1 hel
      cases b2 : rdIn (cutc 58 w).1 0 11 with
      | none =>
        rw [b2] at c2
        have hno : (rwI w).isSome = false := by rw [hrw, b2]; rfl
        simp [b486_2, h79, h77, h78, h6, hjj, ha, hr, c1, hel, wbOf, c2, c3, skip, Q486, stc5, h2, hf0]
        exact hfin hno
      | some u' =>
        obtain rfl := hu u' b2
        rw [b2] at c2
        cases b3 : rdIn (cutc 58 w).2.1 1 4095 with
        | none =>
          rw [b3] at c3
          have hno : (rwI w).isSome = false := by rw [hrw, b2, b3]; rfl
          simp [b486_2, h79, h77, h78, h6, hjj, ha, hr, c1, hel, wbOf, c2, c3, Q486, stc5, h2, hf0]
          exact hfin hno
        | some v' =>
          obtain rfl := hv v' b3
          rw [b3] at c3
          have hrs : rwI w = some (u, v) := by rw [hrw, b2, b3]; rfl
          obtain ⟨_, u1, u2⟩ := (rdIn_iff (by omega) (by omega)).1 b2
          obtain ⟨_, v1, v2⟩ := (rdIn_iff (by omega) (by omega)).1 b3
          have wu : IntKind.wrap .i8 u = u := wrap8 (by omega)
          have wv : IntKind.wrap .u16 v = v := wrapu16 (by omega)
          have r4 : rd G (H.length + 1) 4 0 1 = some [y] := by rw [rd_at gP rfl (by simp [stB5])]; rfl
          have hf1 : fill [.int .i8 0, .int .u16 0] [(0, 1, .int .i8 u), (1, 1, .int .u16 v)] = some (chC (u, v)) := rfl
          have hf2 := fill_one (z := [.int .i8 0, .int .u16 0]) (v := agg (chC (u, v))) (esz := 2) rfl rfl
          obtain ⟨y', G', hpush, hg'⟩ := hg.push0 (n0 := H.length) (c := chC (u, v)) (bytes := 4) (by rw [M486_len]; omega) rfl (by have : roomMax = 140737488355328 := rfl; omega) (wb := false)
          have p' := hg'.pre
          have gP' : G'[H.length + 1]? = some ⟨stB5 a f y, 1, 0, false⟩ := by rw [p'.get (by rw [M486_len]; omega)]; exact M486_1
          have hwr := wr_at (n0 := H.length) (wb := false) (off := 4) (vs := [y']) (ver := 0) gP' rfl rfl (by simp [may]) (by simp [stB5])
          have hsp : splice (stB5 a f y) 4 [y'] = stB5 a f y' := rfl
          simp only [hsp] at hwr
          have hg2 := hg'.setBase (P := H.length + 1) (k := ⟨stB5 a f y', 1, 0, false⟩) (by rw [M486_len]; omega)
          rw [M486_set, chsC_push] at hg2
          have hcy : cellsOf y' = [y'] := by
            rcases hg' with ⟨_, _, rfl, _⟩ | ⟨rfl, _⟩ <;> rfl
          have hrd : rwD w = (u, v) := by unfold rwD; rw [hrs]; rfl
          have hmap : ((ws.drop (k + 1)).take j).map rwD ++ [(u, v)] = ((ws.drop (k + 1)).take (j + 1)).map rwD := by rw [htk, List.map_append, List.map_cons, hrd]; rfl
          rw [hmap] at hg2
          have hall2 : ∀ w' ∈ (ws.drop (k + 1)).take (j + 1), (rwI w').isSome = true := fun w' hw' => by
            rw [htk] at hw'
            rcases List.mem_append.1 hw' with h | h
            · exact hall w' h
            · rw [List.mem_singleton] at h; rw [h, hrs]; rfl
          simp [b486_2, h79, h77, h78, h6, hjj, ha, hr, c1, hel, wbOf, c2, c3, wu, wv, r4, hf1, hf2, hpush, hwr, hcy, e4]
          exact ⟨by simp [h2, zS0], hall2, y', by rw [← List.map_drop, ← List.map_take]; exact hg2⟩
  · rintro e G _ h79 ⟨h2, h6, h77, h78, hall, y, hg⟩
    have p := hg.pre
    have gP : G[H.length + 1]? = some ⟨stB5 a f y, 1, 0, false⟩ := by rw [p.get (by rw [M486_len]; omega)]; exact M486_1
    have hdl : (ws.drop (k + 1)).take (ws.length - (k + 1)) = ws.drop (k + 1) := List.take_of_length_le (by simp)
    rw [hdl] at hall hg
    have hok : ipOk ws k := ⟨hkw, hnm, hall⟩
    have r5 : rd G (H.length + 1) 0 0 5 = some (stB5 a f y) := by rw [rd_at gP rfl (by simp [stB5])]; rfl
    have hst : stB5 a f y = stC (ipS ws a) y := by
      unfold stB5 stC ipS
      rw [← hk, hf.1, hf.2.1, hf.2.2]
    unfold zS0 at h2
    have hlen : (ipS ws a).rows.length = ws.length - (k + 1) := by simp [ipS, ← hk]
    have hgy : GrN H G y 2 (ipS ws a).rows.length (chsC (ipS ws a).rows) := by
      rw [hlen]
      have : (ipS ws a).rows = (ws.drop (k + 1)).map rwD := by simp [ipS, ← hk]
      rw [this]
      exact hg.low M486_pre
    rw [hst] at r5
    have hs5 : stc (agg [.int .i8 0, .int .i8 0, .int .i8 0, .int .i8 0, .slice none 0 0]) 0 (stC (ipS ws a) y) = some (agg (stC (ipS ws a) y)) := rfl
    have hc5 : cellsOf (agg (stC (ipS ws a) y)) = stC (ipS ws a) y := by simp [cellsOf, agg]
    obtain ⟨r, hr1, hr2⟩ : ∃ r, finish H.length G [agg (stC (ipS ws a) y), .bool true] = r ∧ R486 H (some (ipS ws a)) r := by
      rcases hgy with hy | ⟨rfl, e1, e2, q⟩
      · have ho : old0 H.length y = false := by
          obtain ⟨b, ver, rfl, _, h, _⟩ := hy
          rw [old0_slc]; simp; omega
        exact ⟨_, finish_keep2 (by simp [stC, ho]), y, G, rfl, .inl hy⟩
      · have ho : old1 H.length (agg (stC (ipS ws a) (.slice none 0 0))) = true := rfl
        refine ⟨_, finish_2 ho old1_bool, _, _, rfl, ?_⟩
        rw [q.take]
        exact .inr ⟨rfl, e1, e2, .refl⟩
    rw [if_pos hok]
    simp only [stC] at hr1 r5
    simp [b486_2, h79, h78, h6, h2, r5, stc5, Q486, hr1, hr2]
theorem spl_lens (c : UInt8) (l : List UInt8) : ∀ i, ((spl c [] l).getD i []).length ≤ l.length := fun i => by
  by_cases h : i < (spl c [] l).length
  · have hm : (spl c [] l).getD i [] ∈ spl c [] l := by simp [h]
    simpa using spl_len c l [] _ hm
  · rw [List.getD_eq_getElem?_getD, List.getElem?_eq_none (by omega)]; simp
theorem stB5_put {ws : List (List UInt8)} {a v : Int} {i : Nat} {y : Value} (hi : i < 3) (hv : nmAt ws i = some v) : splice (stB5 a (nmV ws i) y) (i + 1) [.int .i8 v] = stB5 a (nmV ws (i + 1)) y := by
  match i, hi with
  | 0, _ => simp [stB5, nmV, splice, hv]
  | 1, _ => simp [stB5, nmV, splice, hv]
  | 2, _ => simp [stB5, nmV, splice, hv]
theorem c486_7 {H : Heap} {ws : List (List UInt8)} {a : Int} {k : Nat} {e : Env} (hk : k = nmK a) (hk3 : k ≤ 3) (hkw : k + 1 ≤ ws.length) (hn : ws.length ≤ 1000001) (hw : ∀ i, (ws.getD i []).length ≤ 1000000)
    (h2 : e 2 = zS0) (h4 : e 4 = slc H.length 0 0 ws.length ws.length) (h6 : e 6 = adr (H.length + 1) 0 0) (h7 : e 7 = slc (H.length + 2) 0 0 k 3) :
    WK tab H.length false (tailC 7 k486) [] e (M486 H ws a (nmV ws 0) (.slice none 0 0)) (Q486 H.length H (if ipOk ws k then some (ipS ws a) else none)) := by
  have hT : tailC 7 k486 = headC 1 (tailC 7 k486) (tailC 8 k486) := rfl
  rw [hT]
  obtain ⟨T, hTT⟩ : ∃ T, T = tailC 8 k486 := ⟨_, rfl⟩
  rw [← hTT]
  unfold zS0 at h2
  simp [headC, tailC, k486, h7]
  refine WP_count 51 k _ rfl (fun i e G => e 2 = zS0 ∧ e 4 = slc H.length 0 0 ws.length ws.length ∧ e 6 = adr (H.length + 1) 0 0 ∧ e 7 = slc (H.length + 2) 0 0 k 3 ∧ e 49 = slc (H.length + 2) 0 0 k 3 ∧ e 50 = .int .i64 (k : Int) ∧
    (∀ j, j < i → (nmAt ws j).isSome = true) ∧ G = M486 H ws a (nmV ws i) (.slice none 0 0)) (by omega) ?_ ?_ (by simp) ⟨by simp [h2, zS0], by simp [h4], by simp [h6], by simp [h7], by simp, by simp, by simp, by simp⟩
  · rintro i e G _ hi hii e4' h51 ⟨h2, h4, h6, h7, h49, h50, hall, hG⟩
    have ha : idxAV 1 (slc (H.length + 2) 0 0 k 3) (.int .i64 (i : Int)) = some (adr (H.length + 2) i 0) := by rw [idxAV_slc, at_nat hi]; simp
    have hr : rd G (H.length + 2) i 0 1 = some [adr (H.length + 1) (i + 1) 0] := by
      rw [hG, rd_at M486_2 rfl (by simp; omega)]
      match i, show i < 3 by omega with
      | 0, _ => rfl
      | 1, _ => rfl
      | 2, _ => rfl
    have w1 : IntKind.wrap .i64 ((i : Int) + 1) = ((i + 1 : Nat) : Int) := by rw [wrap64 (by omega)]; omega
    have ha2 : idxAV 1 (slc H.length 0 0 ws.length ws.length) (.int .i64 ((i + 1 : Nat) : Int)) = some (adr H.length (i + 1) 0) := by rw [idxAV_slc, at_nat (by omega)]; simp
    have hr2 : rd G H.length (i + 1) 0 1 = some [str (ws.getD (i + 1) [])] := by rw [hG]; exact ws_rd M486_0 (by omega)
    obtain ⟨w, hwd⟩ : ∃ w, w = ws.getD (i + 1) [] := ⟨_, rfl⟩
    rw [← hwd] at hr2
    have hwl : w.length ≤ 1000000 := by rw [hwd]; exact hw _
    obtain ⟨v, c1, hv⟩ := call378 (pu := true) (l := w) (lo := -12) (hi := 40) (H := G) hwl (by omega) (by omega)
    have hnm : nmAt ws i = rdIn w (-12) 40 := by rw [hwd]; rfl
    have hf0 : fill [.int .i8 0, .int .i8 0, .int .i8 0, .int .i8 0, .slice none 0 0] [] = some [.int .i8 0, .int .i8 0, .int .i8 0, .int .i8 0, .slice none 0 0] := rfl
    have pH : Pre H G := by rw [hG]; exact M486_pre
    unfold zS0 at h2
    cases b : rdIn w (-12) 40 with
    | none =>
      rw [b] at c1
      have hno : ¬ ipOk ws k := fun hc => by
        have := hc.2.1 i hi
        rw [hnm, b] at this; cases this
      have hfin : R486 H (if ipOk ws k then some (ipS ws a) else none) (finish H.length G [agg [.int .i8 0, .int .i8 0, .int .i8 0, .int .i8 0, .slice none 0 0], .bool false]) := by
        rw [finish_2 rfl old1_bool, if_neg hno, pH.take]; rfl
      simp only [Option.isSome_none] at c1
      simp [b486_1, h51, h49, h50, hii, ha, hr, w1, -Int.natCast_add, h4, ha2, hr2, c1, Q486, stc5, h2, hf0]
      exact hfin
    | some v' =>
      obtain rfl := hv v' b
      rw [b] at c1
      obtain ⟨_, v1, v2⟩ := (rdIn_iff (by omega) (by omega)).1 b
      have wv : IntKind.wrap .i8 v = v := wrap8 (by omega)
      have gP : G[H.length + 1]? = some ⟨stB5 a (nmV ws i) (.slice none 0 0), 1, 0, false⟩ := by rw [hG]; exact M486_1
      have hwr := wr_at (n0 := H.length) (wb := false) (off := i + 1) (vs := [.int .i8 v]) (ver := 0) gP rfl rfl (by simp [may]) (by simp [stB5]; omega)
      have hsp := stB5_put (a := a) (y := .slice none 0 0) (show i < 3 by omega) (hnm.trans b)
      simp only [hsp] at hwr
      rw [hG, M486_set, ← hG] at hwr
      have hall2 : ∀ j, j < i + 1 → (nmAt ws j).isSome = true := fun j hj => by
        by_cases h : j = i
        · subst h; rw [hnm, b]; rfl
        · exact hall j (by omega)
      simp only [Option.isSome_some] at c1
      simp [b486_1, h51, h49, h50, hii, ha, hr, w1, -Int.natCast_add, h4, ha2, hr2, c1, wv, hwr, wbOf, e4']
      exact ⟨by omega, by simp [h2, zS0], by simp [h6], by simp [h7], hall2⟩
  · rintro e G _ h51 ⟨h2, h4, h6, h7, h49, h50, hall, rfl⟩
    simp [b486_1, h51, h50]
    rw [hTT]
    exact c486_8 hk hkw hn hw ⟨rfl, rfl, rfl⟩ hall (by simp [h2]) (by simp [h4]) (by simp [h6]) (by simp [h7])
theorem call486 {pu : Bool} {H : Heap} {l : List UInt8} (hd : Wd H) (hl : l.length ≤ 1000000) : ∃ r, Call tab pu 486 [str l] H = some r ∧ R486 H (implP (spl 32 [] l)) r := by
  refine Call_ex t486 (.inr rfl) rfl ?_
  show WK tab H.length false k486 [] (ini [str l]) H (Q486 H.length H (implP (spl 32 [] l)))
  obtain ⟨ws, hws⟩ : ∃ ws, ws = spl 32 [] l := ⟨_, rfl⟩
  have c1 := call485 (pu := false) (c := 32) (H := H) hl
  have hcnt : ws.length ≤ 1000001 := by
    have := spl_count 32 l []
    rw [hws]; omega
  have hpos : 1 ≤ ws.length := by
    rcases Nat.eq_zero_or_pos ws.length with h | h
    · exact absurd (List.length_eq_zero_iff.1 h) (by rw [hws]; exact spl_ne 32 l [])
    · exact h
  have hw : ∀ i, (ws.getD i []).length ≤ 1000000 := fun i => by rw [hws]; have := spl_lens 32 l i; omega
  rw [← hws] at c1 ⊢
  obtain ⟨H1, hH1⟩ : ∃ H1, H1 = H ++ [(⟨ws.map str, 1, 0, false⟩ : Blk)] := ⟨_, rfl⟩
  rw [← hH1] at c1
  have p1 : Pre H H1 := by rw [hH1]; exact Pre.one
  have hel : elder H.length false H (slc H.length 0 0 ws.length ws.length, H1) = some (slc H.length 0 0 ws.length ws.length, H1) := elder_same (by rw [p1.take, List.take_length])
  have gW : H1[H.length]? = some ⟨ws.map str, 1, 0, false⟩ := by rw [hH1]; exact get_last
  have h0 : rd H1 H.length 0 0 1 = some [str (ws.getD 0 [])] := ws_rd gW (by omega)
  have ha0 : idxAV 1 (slc H.length 0 0 ws.length ws.length) (.int .i64 0) = some (adr H.length 0 0) := by rw [idxAV_slc]; show Option.map _ (at' ws.length (.int .i64 ((0 : Nat) : Int))) = _; rw [at_nat (by omega)]; simp
  have hd1 := hd.pre p1
  have hsP : slcPV H1 3 1 (adr 0 0 0) = some (slc 0 0 0 3 3) := by
    show (match H1[0]? with
      | some k => if 0 = k.ver ∧ k.esz = 1 ∧ 0 + 3 * 1 ≤ k.cells.length then some (slc 0 0 0 3 3) else none
      | none => none) = _
    rw [show H1[0]? = some ⟨wrdL.map str, 1, 0, true⟩ from hd1]
    rfl
  have hsl : SlR H1 (slc 0 0 0 3 3) 1 wrdL.length (wrdL.map str) := ⟨rfl, .inr ⟨0, 0, 0, 3, rfl, Nat.le_refl _, by rw [rd_at hd1 rfl (by simp [wrdL])]; rfl, _, hd1, rfl, rfl⟩⟩
  have c2 := call559 (pu := true) (w := ws.getD 0 []) hsl (by decide)
  obtain ⟨w0, hw0⟩ : ∃ w0, w0 = ws.getD 0 [] := ⟨_, rfl⟩
  rw [← hw0] at h0 c2
  have hh : idxL w0 wrdL 0 = hdN w0 := rfl
  rw [hh] at c2
  have hf0 : fill [.int .i8 0, .int .i8 0, .int .i8 0, .int .i8 0, .slice none 0 0] [] = some [.int .i8 0, .int .i8 0, .int .i8 0, .int .i8 0, .slice none 0 0] := rfl
  have hP : implP ws = if hdN w0 < 0 then none else if ipOk ws (nmK (hdN w0)) then some (ipS ws (hdN w0)) else none := by rw [hw0]; rfl
  obtain ⟨a, hadef⟩ : ∃ a, a = hdN w0 := ⟨_, rfl⟩
  have hac := hdN_cases w0
  rw [← hadef] at hP hac c2
  have hfinN : ∀ G, Pre H G → R486 H none (finish H.length G [agg [.int .i8 0, .int .i8 0, .int .i8 0, .int .i8 0, .slice none 0 0], .bool false]) := fun G p => by
    rw [finish_2 rfl old1_bool, p.take]; rfl
  rw [hP]
  by_cases hneg : a < 0
  · rw [if_pos hneg]
    have ha1 : a = -1 := by omega
    subst ha1
    simp [k486, c1, hel, wbOf, ptr0, hsP, ha0, h0, c2, Q486, stc5, hf0]
    exact hfinN _ p1
  · rw [if_neg hneg]
    have hT : k486 = headC 7 k486 (tailC 7 k486) := rfl
    rw [hT]
    obtain ⟨T, hTT⟩ : ∃ T, T = tailC 7 k486 := ⟨_, rfl⟩
    rw [← hTT]
    obtain ⟨k, hk⟩ : ∃ k, k = nmK a := ⟨_, rfl⟩
    have hk3 : k ≤ 3 := by rw [hk]; unfold nmK; split; · omega
                           split <;> omega
    have wa : IntKind.wrap .i8 a = a := wrap8 (by omega)
    have hf1 : fill [.int .i8 0, .int .i8 0, .int .i8 0, .int .i8 0, .slice none 0 0] [(0, 1, .int .i8 a)] = some (stB5 a (nmV ws 0) (.slice none 0 0)) := rfl
    obtain ⟨H2, hH2⟩ : ∃ H2, H2 = H1 ++ [(⟨[.int .i8 0, .int .i8 0, .int .i8 0, .int .i8 0, .slice none 0 0], 1, 0, false⟩ : Blk)] := ⟨_, rfl⟩
    have l1 : H1.length = H.length + 1 := by rw [hH1]; simp
    have g2 : H2[H.length + 1]? = some ⟨[.int .i8 0, .int .i8 0, .int .i8 0, .int .i8 0, .slice none 0 0], 1, 0, false⟩ := by rw [hH2, ← l1]; exact get_last
    have hwr := wr_at (n0 := H.length) (wb := false) (off := 0) (vs := stB5 a (nmV ws 0) (.slice none 0 0)) (ver := 0) g2 rfl rfl (by simp [may]) (by simp [stB5])
    have hsp : splice [.int .i8 0, .int .i8 0, .int .i8 0, .int .i8 0, .slice none 0 0] 0 (stB5 a (nmV ws 0) (.slice none 0 0)) = stB5 a (nmV ws 0) (.slice none 0 0) := rfl
    simp only [hsp] at hwr
    obtain ⟨H3, hH3⟩ : ∃ H3, H3 = H2.set (H.length + 1) ⟨stB5 a (nmV ws 0) (.slice none 0 0), 1, 0, false⟩ := ⟨_, rfl⟩
    rw [← hH3] at hwr
    have l3 : H3.length = H.length + 2 := by rw [hH3, hH2, hH1]; simp
    have hM : H3 ++ [⟨[adr (H.length + 1) 1 0, adr (H.length + 1) 2 0, adr (H.length + 1) 3 0], 1, 0, false⟩] = M486 H ws a (nmV ws 0) (.slice none 0 0) := by
      rw [hH3, hH2, ← l1, List.set_append_right _ _ (Nat.le_refl _), hH1, M486]; simp
    have hf3 : fill [.pointer none, .pointer none, .pointer none] [(0, 1, adr (H.length + 1) 1 0), (1, 1, adr (H.length + 1) 2 0), (2, 1, adr (H.length + 1) 3 0)] = some [adr (H.length + 1) 1 0, adr (H.length + 1) 2 0, adr (H.length + 1) 3 0] := rfl
    have hidx : idxV 3 1 false (agg [.int .i64 0, .int .i64 1, .int .i64 3]) (.int .i64 a) = some (.int .i64 (k : Int)) := by
      rcases hac with h | h | h | h
      · omega
      · subst h; rw [hk]; rfl
      · subst h; rw [hk]; rfl
      · subst h; rw [hk]; rfl
    have hf4 : fill [.int .i64 0, .int .i64 0, .int .i64 0] [(0, 1, .int .i64 0), (1, 1, .int .i64 1), (2, 1, .int .i64 3)] = some [.int .i64 0, .int .i64 1, .int .i64 3] := rfl
    have hslk := slcAV_hi (H := M486 H ws a (nmV ws 0) (.slice none 0 0)) (b := H.length + 2) (off := 0) (ver := 0) (len := 3) (cap := 3) (esz := 1) (hi := k) (kk := .i64) M486_2 rfl rfl hk3
    have wk : IntKind.wrap .i64 ((k : Int) + 1) = ((k + 1 : Nat) : Int) := by rw [wrap64 (by omega)]; omega
    have hcs : cellsOf (agg (stB5 a (nmV ws 0) (.slice none 0 0))) = stB5 a (nmV ws 0) (.slice none 0 0) := by simp [cellsOf, agg]
    have hl5 : (stB5 a (nmV ws 0) (.slice none 0 0)).length = 5 := rfl
    by_cases hlen : ws.length < k + 1
    · have hlt : (ws.length : Int) < ((k + 1 : Nat) : Int) := by omega
      have hno : ¬ ipOk ws k := fun hc => by have := hc.1; omega
      rw [← hk, if_neg hno]
      simp [headC, k486, c1, hel, wbOf, ptr0, hsP, ha0, h0, c2, hneg, wa, hf1, ← hH2, l1, hwr, hcs, hl5, hf3, hM, l3, hf4, hidx, hslk, rep, wk, -Int.natCast_add, hlt, Q486, stc5, hf0]
      exact hfinN _ M486_pre
    · have hlt : ¬ (ws.length : Int) < ((k + 1 : Nat) : Int) := by omega
      simp [headC, k486, c1, hel, wbOf, ptr0, hsP, ha0, h0, c2, hneg, wa, hf1, ← hH2, l1, hwr, hcs, hl5, hf3, hM, l3, hf4, hidx, hslk, rep, wk, -Int.natCast_add, hlt]
      rw [hTT, ← hk]
      exact c486_7 hk hk3 (by omega) hcnt hw (by simp; rfl) (by simp) (by simp) (by simp)
theorem implP_W {ws : List (List UInt8)} {s : Sted} (h : implP ws = some s) : StW s ∧ s.rows.length + 1 ≤ ws.length ∧ 0 ≤ s.a ∧ s.a ≤ 2 := by
  unfold implP at h
  have hac := hdN_cases (ws.getD 0 [])
  generalize hdN (ws.getD 0 []) = a at h hac
  split at h
  · cases h
  · rename_i hneg
    split at h
    · rename_i hok
      cases h
      have hnv : ∀ i, -12 ≤ nmV ws (nmK a) i ∧ nmV ws (nmK a) i ≤ 40 := fun i => by
        unfold nmV
        split
        · rename_i hi
          have := hok.2.1 i hi
          cases hv : nmAt ws i with
          | none => rw [hv] at this; cases this
          | some v =>
            have := ((rdIn_iff (by omega) (by omega)).1 (show rdIn (ws.getD (i + 1) []) (-12) 40 = some v from hv)).2
            simp; omega
        · omega
      have h0 := hnv 0
      have h1 := hnv 1
      have h2 := hnv 2
      refine ⟨⟨⟨by simp only [ipS]; omega, by simp only [ipS]; omega⟩, ⟨by simp only [ipS]; omega, by simp only [ipS]; omega⟩, ⟨by simp only [ipS]; omega, by simp only [ipS]; omega⟩, ⟨by simp only [ipS]; omega, by simp only [ipS]; omega⟩, fun m hm => ?_⟩, ?_, by simp only [ipS]; omega, by simp only [ipS]; omega⟩
      · simp only [ipS] at hm
        obtain ⟨w, hw, rfl⟩ := List.mem_map.1 hm
        have hs := hok.2.2 w hw
        unfold rwD
        cases hr : rwI w with
        | none => rw [hr] at hs; cases hs
        | some m =>
          unfold rwI at hr
          split at hr
          · unfold mv2 at hr
            split at hr
            · rename_i u v hu hv
              cases hr
              have g1 := ((rdIn_iff (by omega) (by omega)).1 hu).2
              have g2 := ((rdIn_iff (by omega) (by omega)).1 hv).2
              simp only [Option.getD_some]
              exact ⟨⟨by omega, by omega⟩, by omega, by omega⟩
            · cases hr
          · cases hr
      · have := hok.1
        simp [ipS]; omega
    · cases h
theorem take_at' {α : Type} {d : α} {L : List α} {i : Nat} (hi : i < L.length) : L.take (i + 1) = L.take i ++ [L.getD i d] := by
  rw [List.take_add_one, List.getElem?_eq_getElem hi, List.getD_eq_getElem?_getD, List.getElem?_eq_getElem hi]; rfl
def lnP (l : List UInt8) : Option Sted := implP (spl 32 [] l)
def lnD (l : List UInt8) : Sted := (lnP l).getD default
/-- The lines of a text. -/
def rdL (t : List UInt8) : List (List UInt8) := (spl 10 [] t).dropLast
def imOk (t : List UInt8) : Prop := (∀ l ∈ rdL t, (lnP l).isSome = true) ∧ okSts ((rdL t).map lnD) = true ∧ stepsTx ((rdL t).map lnD) = t
instance {t : List UInt8} : Decidable (imOk t) := by unfold imOk; infer_instance
/-- The steps that the program reads. -/
def imR (t : List UInt8) : Option (List Sted) := if imOk t then some ((rdL t).map lnD) else none
def RsR (H : Heap) (r : Value × Heap) : Option (List Sted) → Prop
  | some l => ∃ x G, r = (tup [x, .int .i64 0], G) ∧ StX H.length G x l ∧ Pre H G
  | none => r = (tup [.slice none 0 0, .int .i64 5], H)
theorem call290 {pu : Bool} {H : Heap} {t : List UInt8} (hd : Wd H) (hl : t.length ≤ 1000000) : ∃ r, Call tab2 pu 290 [str t] H = some r ∧ RsR H r (imR t) := by
  refine Call_ex u290 (.inr rfl) rfl ?_
  obtain ⟨ls, hls⟩ : ∃ ls, ls = spl 10 [] t := ⟨_, rfl⟩
  have hcnt : ls.length ≤ 1000001 := by
    have := spl_count 10 t []
    rw [hls]; omega
  have hpos : 1 ≤ ls.length := by
    rcases Nat.eq_zero_or_pos ls.length with h | h
    · exact absurd (List.length_eq_zero_iff.1 h) (by rw [hls]; exact spl_ne 10 t [])
    · exact h
  have hw : ∀ i, (ls.getD i []).length ≤ 1000000 := fun i => by rw [hls]; have := spl_lens 10 t i; omega
  obtain ⟨H1, hH1⟩ : ∃ H1, H1 = H ++ [(⟨[], 5, 0, false⟩ : Blk)] := ⟨_, rfl⟩
  have p1 : Pre H H1 := by rw [hH1]; exact Pre.one
  have l1 : H1.length = H.length + 1 := by rw [hH1]; simp
  have c1 := call485 (pu := false) (c := 10) (H := H1) hl
  rw [← hls] at c1
  obtain ⟨H2, hH2⟩ : ∃ H2, H2 = H1 ++ [(⟨ls.map str, 1, 0, false⟩ : Blk)] := ⟨_, rfl⟩
  rw [← hH2, l1] at c1
  have c1 := up c1
  have p2 : Pre H1 H2 := by rw [hH2]; exact Pre.one
  have hel : elder H.length false H1 (slc (H.length + 1) 0 0 ls.length ls.length, H2) = some (slc (H.length + 1) 0 0 ls.length ls.length, H2) := elder_same (by rw [(p1.trans p2).take, p1.take])
  have gL : H2[H.length + 1]? = some ⟨ls.map str, 1, 0, false⟩ := by rw [hH2, ← l1]; exact get_last
  have hsl := slcAV_hi (H := H2) (b := H.length + 1) (off := 0) (ver := 0) (len := ls.length) (cap := ls.length) (esz := 1) (hi := ls.length - 1) (kk := .i64) gL rfl rfl (by omega)
  have w1 : IntKind.wrap .i64 ((ls.length : Int) - 1) = ((ls.length - 1 : Nat) : Int) := by rw [wrap64 (by omega)]; omega
  have hD0 : StD H.length H2 H.length 0 [] := by
    have := StD.new (n0 := H.length) (G := H) (Nat.le_refl _)
    rw [← hH1] at this
    exact this.pre p2
  have hrl : rdL t = ls.take (ls.length - 1) := by rw [rdL, ← hls, List.dropLast_eq_take]
  have hf : fill ([] : List Value) [] = some [] := rfl
  have hfinN : ∀ G, Pre H G → ∃ r, finish H.length G [.slice none 0 0, .int .i64 5] = r ∧ RsR H r none := fun G p => by
    refine ⟨_, finish_2 old1_nil old1_int, ?_⟩
    rw [p.take]; rfl
  simp [c290, k290, hf, rep, ← hH1, c1, hel, wbOf, w1, hsl]
  refine WP_count 19 (ls.length - 1) _ rfl (fun i e G => e 0 = str t ∧ e 2 = .slice none 0 0 ∧ e 17 = slc (H.length + 1) 0 0 (ls.length - 1) ls.length ∧ e 18 = .int .i64 ((ls.length - 1 : Nat) : Int) ∧ ∃ ver, e 4 = slc H.length 0 ver i i ∧ Pre H G ∧
    StD H.length G H.length ver ((ls.take i).map lnD) ∧ G[H.length + 1]? = some ⟨ls.map str, 1, 0, false⟩ ∧ ∀ l ∈ ls.take i, (lnP l).isSome = true) (by omega) ?_ ?_ (by simp)
    ⟨by simp, by simp, by simp, by simp, 0, by simp, p1.trans p2, by simpa using hD0, gL, by simp⟩
  · rintro i e G _ hi hii e4' h19 ⟨h0, h2, h17, h18, ver, h4, pG, hS, gL, hall⟩
    have ha : idxAV 1 (slc (H.length + 1) 0 0 (ls.length - 1) ls.length) (.int .i64 (i : Int)) = some (adr (H.length + 1) i 0) := by rw [idxAV_slc, at_nat hi]; simp
    have hr := ws_rd gL (i := i) (by omega)
    obtain ⟨w, hwd⟩ : ∃ w, w = ls.getD i [] := ⟨_, rfl⟩
    rw [← hwd] at hr
    have hwl : w.length ≤ 1000000 := by rw [hwd]; exact hw _
    obtain ⟨r, c2, R⟩ := call486 (pu := true) (hd.pre pG) hwl
    have htk : ls.take (i + 1) = ls.take i ++ [w] := by rw [take_at' (by omega : i < ls.length), hwd]
    have hlen : ((ls.take i).map lnD).length = i := by simp; omega
    cases hp : implP (spl 32 [] w) with
    | none =>
      rw [hp] at R
      have R : r = (tup [zS0, .bool false], G) := R
      subst R
      have c2 := up c2
      have hno : imR t = none := by
        unfold imR
        rw [if_neg]
        intro hc
        have := hc.1 w (by
          rw [hrl, hwd]
          have hlt : i < (ls.take (ls.length - 1)).length := by simp; omega
          have : (ls.take (ls.length - 1))[i]? = some (ls.getD i []) := by
            rw [List.getElem?_take, if_pos (by omega), List.getD_eq_getElem?_getD, List.getElem?_eq_getElem (by omega)]; rfl
          exact List.mem_of_getElem? this)
        unfold lnP at this
        rw [hp] at this; cases this
      obtain ⟨r', e1, R'⟩ := hfinN G pG
      rw [hno]
      unfold zS0 at c2
      simp [b290_1, h19, h17, h18, hii, ha, hr, c2, stc5, e1, R']
    | some s =>
      rw [hp] at R
      obtain ⟨y, G2, rfl, hy⟩ := R
      have c2 := up c2
      have pG2 := hy.pre
      obtain ⟨G3, hpush, hS3, hkeep, hpre⟩ := hS.push pG2 hy pG.len (by rw [hlen]; have : roomMax = 140737488355328 := rfl; omega) (wb := false)
      rw [hlen] at hpush
      have hs : lnD w = s := by unfold lnD lnP; rw [hp]; rfl
      have gL2 : G2[H.length + 1]? = some ⟨ls.map str, 1, 0, false⟩ := by rw [pG2.get (List.getElem?_eq_some_iff.1 gL).1]; exact gL
      have hS4 : StD H.length G3 H.length (ver + 1) ((ls.take (i + 1)).map lnD) := by
        rw [htk, List.map_append, List.map_cons, hs]; exact hS3
      have hall4 : ∀ l ∈ ls.take (i + 1), (lnP l).isSome = true := fun l hl => by
        rw [htk] at hl
        rcases List.mem_append.1 hl with h | h
        · exact hall l h
        · rw [List.mem_singleton] at h; subst h; unfold lnP; rw [hp]; rfl
      have hcy : cellsOf y = [y] := by rcases hy with ⟨_, _, rfl, _⟩ | ⟨rfl, _⟩ <;> rfl
      have hf2 := fill_one (z := [.int .i8 0, .int .i8 0, .int .i8 0, .int .i8 0, .slice none 0 0]) (v := agg (stC s y)) (esz := 5) rfl rfl
      have hcs : cellsOf (agg (stC s y)) = stC s y := by simp [cellsOf, agg]
      rw [hcs] at hf2
      simp only [stC] at c2 hf2 hpush
      simp [b290_1, h19, h17, h18, hii, ha, hr, c2, stc5, ldc5, h4, hf2, hpush, wbOf, e4']
      exact ⟨h0, h2, ver + 1, rfl, hpre H (pG.trans pG2) (Nat.le_refl _), by simpa using hS4, hkeep _ _ (by omega) gL2, hall4⟩
  · rintro e G _ h19 ⟨h0, h2, h17, h18, ver, h4, pG, hS, gL, hall⟩
    rw [← hrl] at hS hall
    obtain ⟨l, hldef⟩ : ∃ l, l = (rdL t).map lnD := ⟨_, rfl⟩
    have hlen : l.length = ls.length - 1 := by rw [hldef, hrl]; simp
    rw [← hldef] at hS
    have hsts := hS.sts
    rw [hlen] at hsts
    have hW : StsW l := by
      refine ⟨fun s hs => ?_, by omega, fun s hs => ?_⟩ <;>
      · rw [hldef] at hs
        obtain ⟨w, hw', rfl⟩ := List.mem_map.1 hs
        have hsome := hall w hw'
        unfold lnD lnP
        unfold lnP at hsome
        cases hp : implP (spl 32 [] w) with
        | none => rw [hp] at hsome; cases hsome
        | some s =>
          obtain ⟨g1, g2, _⟩ := implP_W hp
          first
          | exact g1
          | (have h3 := spl_count 32 w []
             have h4 : w.length ≤ 1000000 := by
               rw [hrl] at hw'
               obtain ⟨i, hi, e⟩ := List.getElem_of_mem (List.mem_of_mem_take hw')
               have := hw i
               rw [List.getD_eq_getElem?_getD, List.getElem?_eq_getElem hi] at this
               simp only [Option.getD_some] at this
               rw [e] at this; exact this
             show s.rows.length ≤ 1000000
             omega)
    have c163 := up (call163 (pu := true) hsts hW)
    have c271 := call271 (pu := true) (hd.pre pG) hsts hW
    obtain ⟨rn, en, Rn⟩ := hfinN G pG
    have hq := eqV_s (a := txR' l) (b := t)
    cases hk : okSts l with
    | false =>
      rw [hk] at c163
      have hno : imR t = none := by
        unfold imR
        rw [if_neg]
        intro hc
        have := hc.2.1
        rw [← hldef, hk] at this; cases this
      rw [hno]
      simp [b290_1, h19, h18, h4, c163, skip, en, Rn]
    | true =>
      rw [hk] at c163
      rw [txR', if_pos hk] at c271 hq
      by_cases he : stepsTx l = t
      · have hyes : imR t = some l := by
          unfold imR
          rw [if_pos ⟨hall, by rw [← hldef]; exact hk, by rw [← hldef]; exact he⟩, ← hldef]
        obtain ⟨b', ver', G', e1, hS', hP'⟩ := hS.fin pG (rest := [.int .i64 0]) rfl
        rw [hlen] at e1
        have hdq : decide (stepsTx l = t) = true := decide_eq_true he
        rw [hdq] at hq
        rw [hyes]
        have hR : RsR H (tup [slc b' 0 ver' (ls.length - 1) (ls.length - 1), .int .i64 0], G') (some l) := ⟨_, G', rfl, .inr ⟨b', ver', by rw [hlen], hS'⟩, hP'⟩
        simp [b290_1, h19, h18, h4, h0, c163, c271, hq, e1, hR]
      · have hno : imR t = none := by
          unfold imR
          rw [if_neg]
          intro hc
          exact he (by rw [hldef]; exact hc.2.2)
        have hdq : decide (stepsTx l = t) = false := decide_eq_false he
        rw [hdq] at hq
        rw [hno]
        simp [b290_1, h19, h18, h4, h0, c163, c271, hq, en, Rn]
def rowW (m : Int × Int) : List UInt8 := Lib.itoa m.1 ++ [58] ++ Lib.itoa m.2
def numW (s : Sted) : List (List UInt8) := if s.a = 0 then [] else if s.a = 1 then [Lib.itoa s.b] else [Lib.itoa s.b, Lib.itoa s.c, Lib.itoa s.d]
/-- The words of a step. -/
def wordsS (s : Sted) : List (List UInt8) := wrd s.a.toNat :: (numW s ++ s.rows.map rowW)
theorem tail_app {sep : List UInt8} {a b : List (List UInt8)} : Lib.joinTail sep (a ++ b) = Lib.joinTail sep a ++ Lib.joinTail sep b := by simp [Lib.joinTail]
theorem take_at0' {L : List (Int × Int)} {i : Nat} (hi : i < L.length) : L.take (i + 1) = L.take i ++ [at0 L i] := by
  rw [List.take_add_one, List.getElem?_eq_getElem hi]
  simp [at0, hi]
theorem rowTx_tail {s : Sted} : ∀ {j : Nat}, j ≤ s.rows.length → rowTx s j = Lib.joinTail [32] ((s.rows.take j).map rowW)
  | 0, _ => by simp [rowTx, Lib.joinTail]
  | j + 1, hj => by
    rw [rowTx, rowTx_tail (by omega), take_at0' (by omega : j < s.rows.length), List.map_append, tail_app]
    simp [Lib.joinTail, rowW, rw']
theorem stepTx_join {s : Sted} (ha : 0 ≤ s.a ∧ s.a ≤ 2) : stepTx s = Lib.join (wordsS s) [32] := by
  rw [wordsS, Lib.join_cons, tail_app, stepTx, rowTx_tail (Nat.le_refl _), List.take_length]
  have : headTx s = wrd s.a.toNat ++ Lib.joinTail [32] (numW s) := by
    unfold headTx numW
    by_cases h0 : s.a = 0
    · rw [if_pos h0, if_pos h0, h0]; simp [Lib.joinTail]
    · by_cases h1 : s.a = 1
      · rw [if_neg h0, if_neg h0, if_pos h1, if_pos h1, h1]; simp [Lib.joinTail]
      · have h2 : s.a = 2 := by omega
        rw [if_neg h0, if_neg h0, if_neg h1, if_neg h1, h2]; simp [Lib.joinTail]
  rw [this, List.append_assoc]
theorem wrd_no (a : Nat) (ha : a < 3) : (32 : UInt8) ∉ wrd a ∧ (10 : UInt8) ∉ wrd a := by
  match a, ha with
  | 0, _ => decide
  | 1, _ => decide
  | 2, _ => decide
theorem itoa_sep (v : Int) : (32 : UInt8) ∉ Lib.itoa v ∧ (10 : UInt8) ∉ Lib.itoa v ∧ (58 : UInt8) ∉ Lib.itoa v :=
  ⟨itoa_no (by decide) (by decide), itoa_no (by decide) (by decide), itoa_no (by decide) (by decide)⟩
theorem rowW_no (m : Int × Int) : (32 : UInt8) ∉ rowW m ∧ (10 : UInt8) ∉ rowW m := by
  have h1 := itoa_sep m.1
  have h2 := itoa_sep m.2
  unfold rowW
  simp [h1, h2]
theorem numW_itoa {s : Sted} : ∀ w ∈ numW s, ∃ v, w = Lib.itoa v := by
  intro w hw
  unfold numW at hw
  split at hw
  · cases hw
  · split at hw
    · rw [List.mem_singleton] at hw; exact ⟨_, hw⟩
    · simp at hw
      rcases hw with h | h | h <;> exact ⟨_, h⟩
theorem words_no {s : Sted} (ha : 0 ≤ s.a ∧ s.a ≤ 2) : ∀ w ∈ wordsS s, (32 : UInt8) ∉ w ∧ (10 : UInt8) ∉ w := by
  intro w hw
  rcases List.mem_cons.1 hw with h | h
  · rw [h]; exact wrd_no _ (by omega)
  · rcases List.mem_append.1 h with h | h
    · obtain ⟨v, rfl⟩ := numW_itoa w h
      exact ⟨(itoa_sep v).1, (itoa_sep v).2.1⟩
    · obtain ⟨m, _, rfl⟩ := List.mem_map.1 h
      exact rowW_no m
theorem spl_step {s : Sted} (ha : 0 ≤ s.a ∧ s.a ≤ 2) : spl 32 [] (stepTx s) = wordsS s := by
  rw [stepTx_join ha]
  exact spl_join 32 (by simp [wordsS]) fun w hw => (words_no ha w hw).1
theorem rwI_W {m : Int × Int} (h : 0 ≤ m.1 ∧ m.1 ≤ 11 ∧ 1 ≤ m.2 ∧ m.2 ≤ 4095) : rwI (rowW m) = some m := by
  have hc : cutc 58 (rowW m) = (Lib.itoa m.1, Lib.itoa m.2, true) := by
    unfold rowW
    rw [List.append_assoc, List.singleton_append]
    exact cut_at 58 _ _ (itoa_sep m.1).2.2
  unfold rwI
  rw [hc]
  dsimp only
  rw [if_pos rfl, (rdIn_iff (by omega) (by omega)).2 ⟨rfl, by omega, by omega⟩, (rdIn_iff (by omega) (by omega)).2 ⟨rfl, by omega, by omega⟩]
  rfl
/-- What a step must be to be told by a line. -/
structure LnS (s : Sted) : Prop where
  a : 0 ≤ s.a ∧ s.a ≤ 2
  b : -12 ≤ s.b ∧ s.b ≤ 40
  c : -12 ≤ s.c ∧ s.c ≤ 40
  d : -12 ≤ s.d ∧ s.d ≤ 40
  z0 : s.a = 0 → s.b = 0
  z1 : s.a ≠ 2 → s.c = 0 ∧ s.d = 0
  r : ∀ m ∈ s.rows, 0 ≤ m.1 ∧ m.1 ≤ 11 ∧ 1 ≤ m.2 ∧ m.2 ≤ 4095
theorem okSt_ln {s : Sted} {i : Nat} (h : okSt s i = true) (hi : i ≤ 40) : LnS s := by
  obtain ⟨_, hr⟩ := okSt_rows2 h
  have ha := okSt_a h
  have hrm : ∀ m ∈ s.rows, 0 ≤ m.1 ∧ m.1 ≤ 11 ∧ 1 ≤ m.2 ∧ m.2 ≤ 4095 := fun m hm => by
    obtain ⟨j, hj, rfl⟩ := mem_at0 hm
    exact hr j hj
  simp only [okSt, kindB, Bool.and_eq_true] at h
  obtain ⟨_, h⟩ := h
  by_cases h0 : s.a = 0
  · rw [if_pos (by simp [h0])] at h
    simp [stillB] at h
    exact ⟨ha, by omega, by omega, by omega, fun _ => h.1, fun _ => h.2, hrm⟩
  · rw [if_neg (by simp [h0])] at h
    by_cases h1 : s.a = 1
    · rw [if_pos (by simp [h1])] at h
      simp [stillB, in1] at h
      exact ⟨ha, by omega, by omega, by omega, fun e => absurd e h0, fun _ => h.2, hrm⟩
    · have h2 : s.a = 2 := by omega
      rw [if_neg (by simp [h1]), if_pos (by simp [h2])] at h
      simp [in1] at h
      exact ⟨ha, by omega, by omega, by omega, fun e => absurd e h0, fun e => absurd h2 e, hrm⟩
theorem hdN_wrd {a : Int} (ha : 0 ≤ a ∧ a ≤ 2) : hdN (wrd a.toNat) = a := by
  have : a = 0 ∨ a = 1 ∨ a = 2 := by omega
  rcases this with h | h | h <;> subst h <;> rfl
theorem numW_len {s : Sted} : (numW s).length = nmK s.a := by
  unfold numW nmK
  split
  · rfl
  · split <;> rfl
/-- A step's line is read as that step. -/
theorem implP_tx {s : Sted} (h : LnS s) : lnP (stepTx s) = some s := by
  unfold lnP
  rw [spl_step h.a]
  have hd : hdN ((wordsS s).getD 0 []) = s.a := hdN_wrd h.a
  have hk := numW_len (s := s)
  have hdrop : (wordsS s).drop (nmK s.a + 1) = s.rows.map rowW := by
    rw [wordsS, List.drop_succ_cons, ← hk, List.drop_left]
  have hat : ∀ i, i < nmK s.a → (wordsS s).getD (i + 1) [] = (numW s).getD i [] := fun i hi => by
    rw [wordsS, List.getD_cons_succ, List.getD_eq_getElem?_getD, List.getElem?_append_left (by omega), ← List.getD_eq_getElem?_getD]
  have hrd : ∀ v : Int, -12 ≤ v ∧ v ≤ 40 → rdIn (Lib.itoa v) (-12) 40 = some v := fun v hv => (rdIn_iff (by omega) (by omega)).2 ⟨rfl, hv.1, hv.2⟩
  have hb := h.b
  have hc := h.c
  have hdd := h.d
  have hnm : ∀ i, i < nmK s.a → nmAt (wordsS s) i = some (if i = 0 then s.b else if i = 1 then s.c else s.d) := fun i hi => by
    unfold nmAt
    rw [hat i hi]
    unfold numW
    unfold nmK at hi
    by_cases h0 : s.a = 0
    · rw [if_pos h0] at hi; omega
    · rw [if_neg h0] at hi ⊢
      by_cases h1 : s.a = 1
      · rw [if_pos h1] at hi ⊢
        obtain rfl : i = 0 := by omega
        exact hrd _ hb
      · rw [if_neg h1] at hi ⊢
        match i, hi with
        | 0, _ => exact hrd _ hb
        | 1, _ => exact hrd _ hc
        | 2, _ => exact hrd _ hdd
  have hok : ipOk (wordsS s) (nmK s.a) := by
    refine ⟨by rw [wordsS, List.length_cons, List.length_append, hk]; omega, fun i hi => by rw [hnm i hi]; rfl, fun w hw => ?_⟩
    rw [hdrop] at hw
    obtain ⟨m, hm, rfl⟩ := List.mem_map.1 hw
    rw [rwI_W (h.r m hm)]; rfl
  unfold implP
  rw [hd, if_neg (by have := h.a; omega), if_pos hok]
  congr 1
  have e0 : nmV (wordsS s) (nmK s.a) 0 = s.b := by
    unfold nmV
    split
    · rename_i hi; rw [hnm 0 hi]; rfl
    · rename_i hi
      by_cases h0 : s.a = 0
      · exact (h.z0 h0).symm
      · exfalso; unfold nmK at hi; rw [if_neg h0] at hi; split at hi <;> omega
  have e1 : nmV (wordsS s) (nmK s.a) 1 = s.c := by
    unfold nmV
    split
    · rename_i hi; rw [hnm 1 hi]; rfl
    · rename_i hi
      by_cases h2 : s.a = 2
      · exfalso; unfold nmK at hi; rw [h2] at hi; simp at hi
      · exact (h.z1 h2).1.symm
  have e2 : nmV (wordsS s) (nmK s.a) 2 = s.d := by
    unfold nmV
    split
    · rename_i hi; rw [hnm 2 hi]; rfl
    · rename_i hi
      by_cases h2 : s.a = 2
      · exfalso; unfold nmK at hi; rw [h2] at hi; simp at hi
      · exact (h.z1 h2).2.symm
  have er : ((wordsS s).drop (nmK s.a + 1)).map rwD = s.rows := by
    rw [hdrop, List.map_map]
    have : ∀ m ∈ s.rows, (rwD ∘ rowW) m = m := fun m hm => by
      show (rwI (rowW m)).getD (0, 0) = m
      rw [rwI_W (h.r m hm)]; rfl
    rw [List.map_congr_left this, List.map_id']
  unfold ipS
  rw [e0, e1, e2, er]
theorem stepTx_no {s : Sted} (ha : 0 ≤ s.a ∧ s.a ≤ 2) : (10 : UInt8) ∉ stepTx s := by
  rw [stepTx_join ha]
  have key : ∀ r : List (List UInt8), (∀ w ∈ r, (10 : UInt8) ∉ w) → (10 : UInt8) ∉ Lib.joinTail [32] r := fun r h hm => by
    unfold Lib.joinTail at hm
    rw [List.mem_flatten] at hm
    obtain ⟨l, hl, h10⟩ := hm
    obtain ⟨w, hw, rfl⟩ := List.mem_map.1 hl
    rcases List.mem_append.1 h10 with e | e
    · simp at e
    · exact h w hw e
  have hw := words_no ha
  rw [wordsS, Lib.join_cons]
  intro hm
  rcases List.mem_append.1 hm with e | e
  · exact (hw _ (by simp [wordsS])).2 e
  · exact key _ (fun w hw' => (hw w (by rw [wordsS]; exact List.mem_cons_of_mem _ hw')).2) e
/-- The lines of steps. -/
theorem spl_cat {t : Nat → List UInt8} : ∀ {n : Nat}, (∀ i, i < n → (10 : UInt8) ∉ t i) → spl 10 [] (catT t n) = (List.range n).map t ++ [[]]
  | 0, _ => rfl
  | n + 1, h => by
    have ih := spl_cat (n := n) fun i hi => h i (by omega)
    have key : ∀ (l cur m : List UInt8) (L : List (List UInt8)), spl 10 cur l = L ++ [[]] → (10 : UInt8) ∉ m → spl 10 cur (l ++ (m ++ [10])) = L ++ [m, []] := by
      intro l
      induction l with
      | nil =>
        intro cur m L hL hm
        rw [spl] at hL
        have : L = [] ∧ cur = [] := by
          cases L with
          | nil => simp at hL; exact ⟨rfl, hL⟩
          | cons a L => simp at hL
        obtain ⟨rfl, rfl⟩ := this
        have : spl 10 [] (m ++ [10]) = [m, []] := by
          have := spl_join 10 (l := [m, []]) (by simp) (by simp; exact hm)
          rw [Lib.join_cons] at this
          simpa [Lib.joinTail] using this
        simpa using this
      | cons x l ih =>
        intro cur m L hL hm
        rw [spl] at hL
        rw [List.cons_append, spl]
        split
        · rename_i hx
          rw [if_pos hx] at hL
          cases L with
          | nil =>
            simp at hL
            exact absurd hL.2 (spl_ne 10 l [])
          | cons a L =>
            simp at hL
            obtain ⟨rfl, hL⟩ := hL
            rw [ih [] m L hL hm]; rfl
        · rename_i hx
          rw [if_neg hx] at hL
          exact ih _ m L hL hm
    rw [catT, key _ [] (t n) _ ih (h n (by omega)), List.range_succ, List.map_append]
    simp
theorem spl_steps {l : List Sted} (h : ∀ i, i < l.length → 0 ≤ (at0 l i).a ∧ (at0 l i).a ≤ 2) : rdL (stepsTx l) = l.map stepTx := by
  unfold rdL stepsTx
  rw [spl_cat fun i hi => stepTx_no (h i hi), List.dropLast_concat]
  apply List.ext_getElem?
  intro i
  by_cases hi : i < l.length
  · simp [at0, hi]
  · rw [List.getElem?_eq_none (by simp; omega), List.getElem?_eq_none (by simp; omega)]
theorem map_id_of {α : Type} {f : α → α} {l : List α} (h : ∀ a ∈ l, f a = a) : l.map f = l := by
  rw [List.map_congr_left h, List.map_id']
/-- What is written is read again. -/
theorem imR_tx {l : List Sted} (h : okSts l = true) : imR (stepsTx l) = some l := by
  have hn := okSts_len h
  have ha : ∀ i, i < l.length → 0 ≤ (at0 l i).a ∧ (at0 l i).a ≤ 2 := fun i hi => okSt_a (okSts_get h hi)
  have hln : ∀ s ∈ l, LnS s := fun s hs => by
    obtain ⟨i, hi, rfl⟩ := mem_at0 hs
    exact okSt_ln (okSts_get h hi) (by omega)
  have hrd := spl_steps ha
  have hmap : (rdL (stepsTx l)).map lnD = l := by
    rw [hrd, List.map_map]
    refine map_id_of fun s hs => ?_
    show (lnP (stepTx s)).getD default = s
    rw [implP_tx (hln s hs)]; rfl
  have hok : imOk (stepsTx l) := by
    refine ⟨fun w hw => ?_, by rw [hmap]; exact h, by rw [hmap]⟩
    rw [hrd] at hw
    obtain ⟨s, hs, rfl⟩ := List.mem_map.1 hw
    rw [implP_tx (hln s hs)]; rfl
  unfold imR
  rw [if_pos hok, hmap]
theorem numL_lt {l : List UInt8} {n : Nat} (h : numL l = some n) : n < 10000000000 := by
  have hl := (numL_iff.1 h).2
  unfold numL at h
  split at h
  · cases h
  · split at h
    · rename_i hd
      cases h
      have h1 := dval_lt l 0 1 (fun c hc => List.all_eq_true.1 hd c hc) (by omega)
      have h2 : 10 ^ l.length ≤ 10 ^ 10 := Nat.pow_le_pow_right (by omega) hl
      have h3 : (10 : Nat) ^ 10 = 10000000000 := rfl
      omega
    · cases h
/-- A number with a sign, as the spec reads it. -/
def sgnP (w : List UInt8) : Option Int := match w with
  | 45 :: r => match numL r with
    | some n => if 0 < n then some (-(n : Int)) else none
    | none => none
  | _ => Option.map (fun n : Nat => (n : Int)) (numL w)
def sg40 (w : List UInt8) : Option Int := match sgnP w with
  | some v => if -12 ≤ v ∧ v ≤ 40 then some v else none
  | none => none
theorem sgnP_dig {w : List UInt8} {c : UInt8} {r : List UInt8} (h : w = c :: r) (hc : c ≠ 45) : sgnP w = Option.map (fun n : Nat => (n : Int)) (numL w) := by
  subst h
  unfold sgnP
  split
  · rename_i e; cases e; exact absurd rfl hc
  · rfl
theorem sg40_rd (w : List UInt8) : sg40 w = rdIn w (-12) 40 := by
  apply Option.ext
  intro v
  rw [rdIn_iff (by omega) (by omega)]
  unfold sg40
  constructor
  · intro h
    split at h
    · rename_i u hu
      split at h
      · rename_i hr
        cases h
        refine ⟨?_, hr⟩
        unfold sgnP at hu
        split at hu
        · rename_i r
          split at hu
          · rename_i n hn
            split at hu
            · rename_i hpos
              cases hu
              obtain ⟨e, _⟩ := numL_iff.1 hn
              unfold Lib.itoa
              rw [if_pos (by omega), e, show (-(n : Int)).natAbs = n by omega]
            · cases hu
          · cases hu
        · obtain ⟨n, hn, hv⟩ := Option.map_eq_some_iff.1 hu
          subst hv
          rw [itoa_nat]
          exact (numL_iff.1 hn).1
      · cases h
    · cases h
  · rintro ⟨rfl, h1, h2⟩
    by_cases hneg : v < 0
    · have e : Lib.itoa v = 45 :: Lib.decDigits v.natAbs := by unfold Lib.itoa; rw [if_pos hneg]
      have hn : numL (Lib.decDigits v.natAbs) = some v.natAbs := numL_iff.2 ⟨rfl, dec_len (by omega)⟩
      rw [e]
      unfold sgnP
      simp only [hn]
      rw [if_pos (by omega)]
      dsimp only
      rw [show (-((v.natAbs : Nat) : Int)) = v by omega, if_pos ⟨h1, h2⟩]
    · obtain ⟨n, rfl⟩ := Int.eq_ofNat_of_zero_le (show 0 ≤ v by omega)
      have hn : numL (Lib.decDigits n) = some n := numL_iff.2 ⟨rfl, dec_len (by omega)⟩
      have hne : Lib.decDigits n ≠ [] := dec_ne n
      obtain ⟨c, r, hcr⟩ : ∃ c r, Lib.decDigits n = c :: r := by
        cases h : Lib.decDigits n with
        | nil => exact absurd h hne
        | cons c r => exact ⟨c, r, rfl⟩
      have hc : c ≠ 45 := fun e => by
        have := dec_dig n c (by rw [hcr]; simp)
        rw [e] at this
        revert this; decide
      rw [itoa_nat, sgnP_dig hcr hc, hn]
      dsimp only [Option.map_some]
      rw [if_pos ⟨h1, h2⟩]
theorem call557 {pu : Bool} {H : Heap} {w : List UInt8} (hl : w.length ≤ 1000000) : ∃ v b, Call tab pu 557 [str w] H = some (tup [.int .i64 v, .bool b], H) ∧ (sg40 w = none → b = false ∨ ¬ (-12 ≤ v ∧ v ≤ 40)) ∧ ∀ u, sg40 w = some u → b = true ∧ v = u := by
  cases w with
  | nil =>
    have c := call484 (pu := true) (l := []) (H := H)
    have hn : numL [] = none := rfl
    rw [hn] at c
    refine ⟨0, false, Call_wp t557 (.inr rfl) rfl ?_, fun _ => .inl rfl, fun u hu => ?_⟩
    · simp [c557, k557, c, skip]
    · rw [sg40_rd] at hu; have := ((rdIn_iff (by omega) (by omega)).1 hu).1; exact absurd this.symm (itoa_ne u)
  | cons x r =>
    have hidx : idxsV (str (x :: r)) (.int .i64 0) = some (.int .u8 x.toNat) := idxsV_s (l := x :: r) (v := .int .i64 ((0 : Nat) : Int)) (at_nat (by simp))
    by_cases hx : x = 45
    · subst hx
      have hsl : slcsV (str (45 :: r)) (some (.int .i64 1)) none = some (str r) := by
        rw [slcsV_s (a := 1) (b := (45 :: r).length) (by simp only [bnds, bnd]; rw [if_pos (by simp; omega)]; rfl)]
        simp
      have hidx2 : idxsV (str (45 :: r)) (.int .i64 0) = some (.int .u8 45) := hidx
      have c := call484 (pu := true) (l := r) (H := H)
      cases hn : numL r with
      | none =>
        rw [hn] at c
        refine ⟨0, false, Call_wp t557 (.inr rfl) rfl ?_, fun _ => .inl rfl, fun u hu => ?_⟩
        · simp [c557, k557, ev1_idxs, ev1_slcs, hidx2, hsl, c, skip]
        · unfold sg40 sgnP at hu; simp only [hn] at hu; cases hu
      | some n =>
        rw [hn] at c
        obtain ⟨e, hlen⟩ := numL_iff.1 hn
        have hnb : n < 10000000000 := numL_lt hn
        have wn : IntKind.wrap .i64 (-(n : Int)) = -(n : Int) := wrap64 (by omega)
        refine ⟨-(n : Int), decide (0 < n), Call_wp t557 (.inr rfl) rfl ?_, fun h => ?_, fun u hu => ?_⟩
        · have hd : decide ((0 : Int) < n) = decide (0 < n) := decide_eq_decide.2 (by omega)
          simp [c557, k557, ev1_idxs, ev1_slcs, hidx2, hsl, c, wn, hd]
        · by_cases hp : 0 < n
          · right
            unfold sg40 sgnP at h
            simp only [hn] at h
            rw [if_pos hp] at h
            dsimp only at h
            split at h
            · cases h
            · assumption
          · left; exact decide_eq_false hp
        · unfold sg40 sgnP at hu
          simp only [hn] at hu
          by_cases hp : 0 < n
          · rw [if_pos hp] at hu
            dsimp only at hu
            split at hu
            · cases hu; exact ⟨decide_eq_true hp, rfl⟩
            · cases hu
          · rw [if_neg hp] at hu; cases hu
    · have hne : ¬ ((x.toNat : Int) = 45) := fun e => hx (by
        apply UInt8.toNat_inj.1
        show x.toNat = 45
        omega)
      have hnb : (((x.toNat : Nat) : Int) == 45) = false := by simp; omega
      have c := call484 (pu := true) (l := x :: r) (H := H)
      have hs := sgnP_dig (w := x :: r) rfl hx
      cases hn : numL (x :: r) with
      | none =>
        rw [hn] at c
        refine ⟨0, false, Call_wp t557 (.inr rfl) rfl ?_, fun _ => .inl rfl, fun u hu => ?_⟩
        · simp [c557, k557, ev1_idxs, hidx, hnb, c]
        · unfold sg40 at hu; rw [hs, hn] at hu; cases hu
      | some n =>
        rw [hn] at c
        refine ⟨(n : Int), true, Call_wp t557 (.inr rfl) rfl ?_, fun h => ?_, fun u hu => ?_⟩
        · simp [c557, k557, ev1_idxs, hidx, hnb, c]
        · right
          unfold sg40 at h
          rw [hs, hn] at h
          dsimp only [Option.map_some] at h
          split at h
          · cases h
          · assumption
        · unfold sg40 at hu
          rw [hs, hn] at hu
          dsimp only [Option.map_some] at hu
          split at hu
          · cases hu; exact ⟨rfl, rfl⟩
          · cases hu
theorem hdN_spec (w : List UInt8) : (hdN w = -1 ∧ ∀ j, j < 3 → wrd j ≠ w) ∨ ∃ a : Nat, a < 3 ∧ hdN w = a ∧ wrd a = w ∧ ∀ j, j < a → wrd j ≠ w := by
  by_cases h0 : wrd 0 = w
  · exact .inr ⟨0, by omega, by rw [← h0]; rfl, h0, fun j hj => by omega⟩
  by_cases h1 : wrd 1 = w
  · exact .inr ⟨1, by omega, by rw [← h1]; rfl, h1, fun j hj => by obtain rfl : j = 0 := by omega
                                                                   exact h0⟩
  by_cases h2 : wrd 2 = w
  · refine .inr ⟨2, by omega, by rw [← h2]; rfl, h2, fun j hj => ?_⟩
    rcases (show j = 0 ∨ j = 1 by omega) with rfl | rfl
    · exact h0
    · exact h1
  · refine .inl ⟨?_, fun j hj => ?_⟩
    · unfold hdN
      exact idxL_none fun j hj => by
        have hj : j < 3 := hj
        rcases (show j = 0 ∨ j = 1 ∨ j = 2 by omega) with rfl | rfl | rfl
        · exact h0
        · exact h1
        · exact h2
    · rcases (show j = 0 ∨ j = 1 ∨ j = 2 by omega) with rfl | rfl | rfl
      · exact h0
      · exact h1
      · exact h2
/-- The head of a line is well. -/
def hdOk (ws : List (List UInt8)) : Prop := 0 ≤ hdN (ws.getD 0 []) ∧ nmK (hdN (ws.getD 0 [])) + 1 ≤ ws.length ∧ ∀ i, i < nmK (hdN (ws.getD 0 [])) → (nmAt ws i).isSome = true
instance {ws : List (List UInt8)} : Decidable (hdOk ws) := by unfold hdOk; infer_instance
def P483 (G : Heap) (P : Nat) (ws : List (List UInt8)) (r : Value × Heap) : Prop :=
  if hdOk ws then r = (.int .i64 ((nmK (hdN (ws.getD 0 [])) + 1 : Nat) : Int), G.set P ⟨stB5 (hdN (ws.getD 0 [])) (nmV ws (nmK (hdN (ws.getD 0 [])))) (.slice none 0 0), 1, 0, false⟩)
  else ∃ cells, r = (.int .i64 0, G.set P ⟨cells, 1, 0, false⟩)
def Q483 (n0 : Nat) (G : Heap) (P : Nat) (ws : List (List UInt8)) : Ex → Env → Heap → Prop := fun x e' H' => (∀ i, x ≠ .exit i) ∧ ∃ r, (resVs e' H' [.t 4]).map (finish n0 H') = some r ∧ P483 G P ws r
theorem stc3_put {ws : List (List UInt8)} {v : Int} {i : Nat} (hi : i < 3) (hv : nmAt ws i = some v) :
    stc (agg [.int .i64 (nmV ws i 0), .int .i64 (nmV ws i 1), .int .i64 (nmV ws i 2)]) i [.int .i64 v] = some (agg [.int .i64 (nmV ws (i + 1) 0), .int .i64 (nmV ws (i + 1) 1), .int .i64 (nmV ws (i + 1) 2)]) := by
  match i, hi with
  | 0, _ => simp [stc, agg, splice, nmV, hv]
  | 1, _ => simp [stc, agg, splice, nmV, hv]
  | 2, _ => simp [stc, agg, splice, nmV, hv]
theorem nmV_i8 {ws : List (List UInt8)} {k i : Nat} (h : ∀ j, j < k → (nmAt ws j).isSome = true) : -12 ≤ nmV ws k i ∧ nmV ws k i ≤ 40 := by
  unfold nmV
  split
  · rename_i hi
    have := h i hi
    cases hv : nmAt ws i with
    | none => rw [hv] at this; cases this
    | some v =>
      have := ((rdIn_iff (by omega) (by omega)).1 (show rdIn (ws.getD (i + 1) []) (-12) 40 = some v from hv)).2
      simp; omega
  · omega
/-- The numbers, and the step's fields. -/
theorem c483_7 {G : Heap} {P b : Nat} {ws : List (List UInt8)} {a : Int} {k : Nat} {e : Env} (hk : k = nmK a) (ha : a = hdN (ws.getD 0 [])) (h0a : 0 ≤ a ∧ a ≤ 2) (hkw : k + 1 ≤ ws.length) (hb : G[b]? = some ⟨ws.map str, 1, 0, false⟩) (hbP : b ≠ P) (hn : ws.length ≤ 1000001)
    (hw : ∀ i, (ws.getD i []).length ≤ 1000000) (hP : G[P]? = some ⟨stB5 0 (fun _ => 0) (.slice none 0 0), 1, 0, false⟩)
    (h0 : e 0 = slc b 0 0 ws.length ws.length) (h1 : e 1 = adr P 0 0) (h5 : e 5 = agg [.int .i64 1, .int .i64 2, .int .i64 4]) (h7 : e 7 = .int .i64 a) :
    WK tab G.length true (tailC 6 k483) [] e (G ++ [⟨wrdL.map str, 1, 0, false⟩]) (Q483 G.length G P ws) := by
  have hPl : P < G.length := (List.getElem?_eq_some_iff.1 hP).1
  have hbl : b < G.length := (List.getElem?_eq_some_iff.1 hb).1
  obtain ⟨G1, hG1⟩ : ∃ G1, G1 = G ++ [(⟨wrdL.map str, 1, 0, false⟩ : Blk)] := ⟨_, rfl⟩
  have p1 : Pre G G1 := by rw [hG1]; exact Pre.one
  have gP1 : G1[P]? = some ⟨stB5 0 (fun _ => 0) (.slice none 0 0), 1, 0, false⟩ := by rw [p1.get hPl]; exact hP
  have gb1 : G1[b]? = some ⟨ws.map str, 1, 0, false⟩ := by rw [p1.get hbl]; exact hb
  have wa : IntKind.wrap .i8 a = a := wrap8 (by omega)
  have hwr0 := wr_at (n0 := G.length) (wb := true) (off := 0) (vs := [.int .i8 a]) (ver := 0) gP1 rfl rfl (by simp [may]) (by simp [stB5])
  have hsp0 : splice (stB5 0 (fun _ => 0) (.slice none 0 0)) 0 [.int .i8 a] = stB5 a (fun _ => 0) (.slice none 0 0) := rfl
  simp only [hsp0] at hwr0
  obtain ⟨G2, hG2⟩ : ∃ G2, G2 = G1.set P ⟨stB5 a (fun _ => 0) (.slice none 0 0), 1, 0, false⟩ := ⟨_, rfl⟩
  rw [← hG2] at hwr0
  have gP2 : G2[P]? = some ⟨stB5 a (fun _ => 0) (.slice none 0 0), 1, 0, false⟩ := by rw [hG2]; exact get_set gP1
  have gb2 : G2[b]? = some ⟨ws.map str, 1, 0, false⟩ := by rw [hG2, List.getElem?_set_ne (Ne.symm hbP)]; exact gb1
  have hset : ∀ c : List Value, ((G1.set P ⟨c, 1, 0, false⟩).take G.length) = G.set P ⟨c, 1, 0, false⟩ := fun c => by
    rw [hG1, List.set_append_left _ _ hPl]
    exact List.take_left' (by simp)
  have hcnt : ldc 1 false (agg [.int .i64 1, .int .i64 2, .int .i64 4]) a.toNat = some (.int .i64 ((k + 1 : Nat) : Int)) := by
    rw [hk]
    rcases (show a = 0 ∨ a = 1 ∨ a = 2 by omega) with rfl | rfl | rfl <;> rfl
  have hat : at' 3 (.int .i64 a) = some a.toNat := by
    rcases (show a = 0 ∨ a = 1 ∨ a = 2 by omega) with rfl | rfl | rfl <;> rfl
  have hk3 : k ≤ 3 := by rw [hk]; unfold nmK; split; · omega
                         split <;> omega
  have hlt : ¬ (ws.length : Int) < ((k + 1 : Nat) : Int) := by omega
  have ha3 : ¬ a = 3 := by omega
  have hz3 : fill [.int .i64 0, .int .i64 0, .int .i64 0] [] = some [.int .i64 0, .int .i64 0, .int .i64 0] := rfl
  have hs3 : stc (agg [.int .i64 0, .int .i64 0, .int .i64 0]) 0 [.int .i64 0, .int .i64 0, .int .i64 0] = some (agg [.int .i64 0, .int .i64 0, .int .i64 0]) := rfl
  rw [← hG1]
  simp [tailC, k483, h0, h1, h5, h7, hcnt, hat, hlt, ha3, wa, hwr0, wbOf, hz3, hs3, -Int.natCast_add]
  refine WK_loop (fun i e G' => e 0 = slc b 0 0 ws.length ws.length ∧ e 1 = adr P 0 0 ∧ e 5 = agg [.int .i64 1, .int .i64 2, .int .i64 4] ∧ e 7 = .int .i64 a ∧ e 9 = .int .i64 ((i + 1 : Nat) : Int) ∧ e 8 = agg [.int .i64 (nmV ws i 0), .int .i64 (nmV ws i 1), .int .i64 (nmV ws i 2)] ∧
    G' = G2 ∧ ∀ j, j < i → (nmAt ws j).isSome = true) k ?_ (Nat.zero_le _) ⟨by simp [h0], by simp [h1], by simp [h5], by simp [h7], by simp, by simp; rfl, rfl, by simp⟩
  rintro i e G' _ hi ⟨h0, h1, h5, h7, h9, h8, rfl, hall⟩
  by_cases hik : i = k
  · subst hik
    have hnl : ¬ (((i + 1 : Nat) : Int) < ((i + 1 : Nat) : Int)) := by omega
    have hok : hdOk ws := by
      refine ⟨by rw [← ha]; exact h0a.1, by rw [← ha, ← hk]; exact hkw, fun j hj => ?_⟩
      rw [← ha, ← hk] at hj
      exact hall j hj
    have b0 := nmV_i8 (i := 0) hall
    have b1 := nmV_i8 (i := 1) hall
    have b2 := nmV_i8 (i := 2) hall
    obtain ⟨u0, hu0⟩ : ∃ u, u = nmV ws i 0 := ⟨_, rfl⟩
    obtain ⟨u1, hu1⟩ : ∃ u, u = nmV ws i 1 := ⟨_, rfl⟩
    obtain ⟨u2, hu2⟩ : ∃ u, u = nmV ws i 2 := ⟨_, rfl⟩
    rw [← hu0] at b0 h8
    rw [← hu1] at b1 h8
    rw [← hu2] at b2 h8
    have w0 : IntKind.wrap .i8 u0 = u0 := wrap8 (by omega)
    have w1 : IntKind.wrap .i8 u1 = u1 := wrap8 (by omega)
    have w2 : IntKind.wrap .i8 u2 = u2 := wrap8 (by omega)
    have q0 : ldc 1 false (agg [.int .i64 u0, .int .i64 u1, .int .i64 u2]) 0 = some (.int .i64 u0) := rfl
    have q1 : ldc 1 false (agg [.int .i64 u0, .int .i64 u1, .int .i64 u2]) 1 = some (.int .i64 u1) := rfl
    have q2 : ldc 1 false (agg [.int .i64 u0, .int .i64 u1, .int .i64 u2]) 2 = some (.int .i64 u2) := rfl
    have x1 := wr_at (n0 := G.length) (wb := true) (off := 1) (vs := [.int .i8 u0]) (ver := 0) gP2 rfl rfl (by simp [may]) (by simp [stB5])
    obtain ⟨G3, hG3⟩ : ∃ G3, G3 = G'.set P ⟨[.int .i8 a, .int .i8 u0, .int .i8 0, .int .i8 0, .slice none 0 0], 1, 0, false⟩ := ⟨_, rfl⟩
    have s1 : splice (stB5 a (fun _ => 0) (.slice none 0 0)) 1 [.int .i8 u0] = [.int .i8 a, .int .i8 u0, .int .i8 0, .int .i8 0, .slice none 0 0] := rfl
    simp only [s1, ← hG3] at x1
    have gP3 : G3[P]? = some ⟨[.int .i8 a, .int .i8 u0, .int .i8 0, .int .i8 0, .slice none 0 0], 1, 0, false⟩ := by rw [hG3]; exact get_set gP2
    have x2 := wr_at (n0 := G.length) (wb := true) (off := 2) (vs := [.int .i8 u1]) (ver := 0) gP3 rfl rfl (by simp [may]) (by simp)
    obtain ⟨G4, hG4⟩ : ∃ G4, G4 = G3.set P ⟨[.int .i8 a, .int .i8 u0, .int .i8 u1, .int .i8 0, .slice none 0 0], 1, 0, false⟩ := ⟨_, rfl⟩
    have s2 : splice [.int .i8 a, .int .i8 u0, .int .i8 0, .int .i8 0, .slice none 0 0] 2 [.int .i8 u1] = [.int .i8 a, .int .i8 u0, .int .i8 u1, .int .i8 0, .slice none 0 0] := rfl
    simp only [s2, ← hG4] at x2
    have gP4 : G4[P]? = some ⟨[.int .i8 a, .int .i8 u0, .int .i8 u1, .int .i8 0, .slice none 0 0], 1, 0, false⟩ := by rw [hG4]; exact get_set gP3
    have x3 := wr_at (n0 := G.length) (wb := true) (off := 3) (vs := [.int .i8 u2]) (ver := 0) gP4 rfl rfl (by simp [may]) (by simp)
    obtain ⟨G5, hG5⟩ : ∃ G5, G5 = G4.set P ⟨[.int .i8 a, .int .i8 u0, .int .i8 u1, .int .i8 u2, .slice none 0 0], 1, 0, false⟩ := ⟨_, rfl⟩
    have s3 : splice [.int .i8 a, .int .i8 u0, .int .i8 u1, .int .i8 0, .slice none 0 0] 3 [.int .i8 u2] = [.int .i8 a, .int .i8 u0, .int .i8 u1, .int .i8 u2, .slice none 0 0] := rfl
    simp only [s3, ← hG5] at x3
    have hG5' : G5 = G1.set P ⟨[.int .i8 a, .int .i8 u0, .int .i8 u1, .int .i8 u2, .slice none 0 0], 1, 0, false⟩ := by rw [hG5, hG4, hG3, hG2]; simp
    have hR : P483 G P ws (.int .i64 ((i + 1 : Nat) : Int), G5.take G.length) := by
      unfold P483
      rw [if_pos hok, hG5', hset, ← ha, ← hk, hu0, hu1, hu2]
      rfl
    have t0 : at' 3 (.int .i64 0) = some 0 := rfl
    have t1 : at' 3 (.int .i64 1) = some 1 := rfl
    have t2 : at' 3 (.int .i64 2) = some 2 := rfl
    simp [b483_2, h9, h5, h7, hat, hcnt, t0, t1, t2, -Int.natCast_add, hnl, h1, h8, q0, q1, q2, w0, w1, w2, x1, x2, x3, wbOf, Q483]
    exact hR
  · have hlt2 : (((i + 1 : Nat) : Int) < ((k + 1 : Nat) : Int)) := by omega
    have ha2 : idxAV 1 (slc b 0 0 ws.length ws.length) (.int .i64 ((i + 1 : Nat) : Int)) = some (adr b (i + 1) 0) := by rw [idxAV_slc, at_nat (by omega)]; simp
    have hr2 : rd G' b (i + 1) 0 1 = some [str (ws.getD (i + 1) [])] := ws_rd gb2 (by omega)
    obtain ⟨w, hwd⟩ : ∃ w, w = ws.getD (i + 1) [] := ⟨_, rfl⟩
    rw [← hwd] at hr2
    have hwl : w.length ≤ 1000000 := by rw [hwd]; exact hw _
    obtain ⟨v, bb, c1, hv0, hv1⟩ := call557 (pu := true) (H := G') hwl
    have hnm : nmAt ws i = sg40 w := by rw [hwd, sg40_rd]; rfl
    have w1 : IntKind.wrap .i64 (((i + 1 : Nat) : Int) - 1) = (i : Int) := by rw [wrap64 (by omega)]; omega
    have w2 : IntKind.wrap .i64 (((i + 1 : Nat) : Int) + 1) = ((i + 1 + 1 : Nat) : Int) := by rw [wrap64 (by omega)]; omega
    have hat2 : at' 3 (.int .i64 (i : Int)) = some i := at_nat (by omega)
    cases hs : sg40 w with
    | none =>
      have hno : ¬ hdOk ws := fun hc => by
        have := hc.2.2 i (by rw [← ha, ← hk]; omega)
        rw [hnm, hs] at this; cases this
      have hR : P483 G P ws (.int .i64 0, G'.take G.length) := by
        unfold P483
        rw [if_neg hno, hG2, hset]
        exact ⟨_, rfl⟩
      rcases hv0 hs with h | h
      · subst h
        simp [b483_2, h9, h5, h7, hat, hcnt, -Int.natCast_add, hlt2, h0, ha2, hr2, c1, skip, Q483]
        exact hR
      · have hd : decide (-12 ≤ v ∧ v ≤ 40) = false := decide_eq_false h
        cases bb <;> simp [b483_2, h9, h5, h7, hat, hcnt, -Int.natCast_add, hlt2, h0, ha2, hr2, c1, skip, call304, hd, Q483] <;> exact hR
    | some u =>
      obtain ⟨rfl, rfl⟩ := hv1 u hs
      have hrg : -12 ≤ v ∧ v ≤ 40 := by rw [sg40_rd] at hs; exact ((rdIn_iff (by omega) (by omega)).1 hs).2
      have hd : decide (-12 ≤ v ∧ v ≤ 40) = true := decide_eq_true hrg
      have hst := stc3_put (ws := ws) (v := v) (i := i) (by omega) (hnm.trans hs)
      have hall2 : ∀ j, j < i + 1 → (nmAt ws j).isSome = true := fun j hj => by
        by_cases h : j = i
        · subst h; rw [hnm, hs]; rfl
        · exact hall j (by omega)
      simp [b483_2, h9, h5, h7, hat, hcnt, -Int.natCast_add, hlt2, h0, ha2, hr2, c1, call304, hd, w1, hat2, h8, hst, w2]
      exact ⟨by omega, by simp [h1], hall2⟩
end Fb
