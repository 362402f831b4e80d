/- What each function computes. -/
import Derived.Test.YtholaggmhhjjkabUse1
set_option linter.unusedVariables false
set_option linter.unusedSimpArgs false
namespace Fb
open Go
theorem sz219 {H : Heap} {x : Value} {l : List Pt} (hs : PtS H x l) (hn : l.length ≤ 9223372036854775807) (hr : ∀ s ∈ l, s.ks.length ≤ 9223372036854775807) {left : Int} (h0 : 0 ≤ left) (h1 : left ≤ 1000000) :
    ∃ v, Call tab true 219 [x, .int .i64 left] H = some (.int .i64 v, H) ∧ v ≤ left ∧ (0 ≤ v → l.length ≤ 1000000 ∧ ∀ s ∈ l, s.ks.length ≤ 1000000) := by
  have key : ∃ r, Call tab true 219 [x, .int .i64 left] H = some r ∧ ∃ v, r = (.int .i64 v, H) ∧ v ≤ left ∧ (0 ≤ v → l.length ≤ 1000000 ∧ ∀ s ∈ l, s.ks.length ≤ 1000000) := by
    refine Call_ex t219 (.inr rfl) rfl ?_
    have e1 : IntKind.wrap .i64 (left - l.length) = left - l.length := wrap64 (by omega)
    by_cases h2 : left - (l.length : Int) < 0
    · simp [c219, k219, hs.lenV, e1, h2]
      omega
    · simp [c219, k219, hs.lenV, e1, h2]
      refine WP_forH 5 l.length _ rfl (by omega) (fun i e => e 0 = x ∧ ∃ v, e 1 = .int .i64 v ∧ 0 ≤ v ∧ v ≤ left ∧ ∀ j, j < i → (at0 l j).ks.length ≤ 1000000) ?_ ?_ (by simp) ⟨by simp, _, by simp; rfl, by omega, by omega, fun j hj => by omega⟩
      · rintro i e hi hlt e4 h5 ⟨h0e, v, h1e, hv0, hv1, hj⟩
        obtain ⟨q, off, ver, y, ha, hrd, hrw⟩ := hs.get hi
        have hsz := call205 (pu := true) hrw (hr _ (at0_mem hi)) hv0 (by omega)
        by_cases h3 : v - ((at0 l i).ks.length : Int) < 0
        · rw [if_pos h3] at hsz
          simp [b219_1, h5, h0e, h1e, hlt, hs.lenV, ha, hrd, hsz]
          omega
        · rw [if_neg h3] at hsz
          simp [b219_1, h5, h0e, h1e, hlt, hs.lenV, ha, hrd, hsz, h3, e4]
          exact ⟨by omega, by omega, upto_succ hj (by omega)⟩
      · rintro e h5 ⟨h0e, v, h1e, hv0, hv1, hj⟩
        simp [b219_1, h5, h0e, h1e, hs.lenV]
        exact ⟨hv1, fun _ => ⟨by omega, fun s hs' => by
          obtain ⟨i, hi, rfl⟩ := List.getElem_of_mem hs'
          have := hj i hi
          rwa [show at0 l i = l[i] from Option.some.inj ((at0_get hi).symm.trans (List.getElem?_eq_getElem hi))] at this⟩⟩
  obtain ⟨r, hc, v, rfl, h⟩ := key
  exact ⟨v, hc, h⟩
def ky (ks : List Ky) (i : Nat) : Ky := at0 ks i
def kyB (ks : List Ky) (j : Nat) : Bool := ((in1 (ky ks j).1 0 200 && in1 (ky ks j).2.1 (-24) 24) && in1 (ky ks j).2.2 (-24) 24) && (decide (j = 0) || decide ((ky ks (j - 1)).1 < (ky ks j).1))
def okTk (ks : List Ky) : Bool := allN (kyB ks) ks.length && in1 ks.length 1 20
def okPt (s : Pt) : Bool := (okF s.f && okTk s.ks) && in1 s.e 0 3
def okPts (l : List Pt) : Bool := allN (fun i => okPt (at0 l i)) l.length
abbrev KyW (ks : List Ky) : Prop := ∀ k ∈ ks, (-32768 ≤ k.1 ∧ k.1 ≤ 32767) ∧ i8 k.2.1 ∧ i8 k.2.2
theorem KyW.at {ks : List Ky} (h : KyW ks) {i : Nat} (hi : i < ks.length) : (-32768 ≤ (ky ks i).1 ∧ (ky ks i).1 ≤ 32767) ∧ i8 (ky ks i).2.1 ∧ i8 (ky ks i).2.2 := h _ (at0_mem hi)
theorem Kr.at {H : Heap} {y : Value} {ks : List Ky} (h : SlR H y 3 ks.length (kysC ks)) {j : Nat} (hj : j < ks.length) : ∃ q off ver, idxAV 3 y (.int .i64 (j : Int)) = some (adr q off ver) ∧ rd H q off ver 3 = some (kyC (ky ks j)) ∧
    rd H q off ver 1 = some [.int .i16 (ky ks j).1] ∧ rd H q (off + 1) ver 1 = some [.int .i8 (ky ks j).2.1] ∧ rd H q (off + 2) ver 1 = some [.int .i8 (ky ks j).2.2] := by
  obtain ⟨q, off, ver, h1, h2⟩ := SlR.get1 h hj
  rw [kysC_elem hj] at h2
  have r0 := rd_part h2 (o := 0) (m := 1) (by omega)
  have r1 := rd_part h2 (o := 1) (m := 1) (by omega)
  have r2 := rd_part h2 (o := 2) (m := 1) (by omega)
  rw [Nat.add_zero] at r0
  exact ⟨q, off, ver, h1, h2, r0, r1, r2⟩
theorem call432 {pu : Bool} {H : Heap} {t : Int} : Call tab pu 432 [.int .i64 t] H = some (.bool (in1 t 0 200), H) := by
  refine Call_wp t432 (.inr rfl) rfl ?_
  simp [c432, k432, in304]
theorem call435 {pu : Bool} {H : Heap} {t : Int} : Call tab pu 435 [.int .i64 t] H = some (.bool (in1 t 0 200), H) := by
  refine Call_wp t435 (.inr rfl) rfl ?_
  simp [c435, k435, in295]
theorem call605 {pu : Bool} {H : Heap} {t : Int} : Call tab pu 605 [.int .i64 t] H = some (.bool (in1 t (-24) 24), H) := by
  refine Call_wp t605 (.inr rfl) rfl ?_
  simp [c605, k605, in304]
theorem call551 {pu : Bool} {H : Heap} {t : Int} : Call tab pu 551 [.int .i64 t] H = some (.bool (in1 t (-24) 24), H) := by
  refine Call_wp t551 (.inr rfl) rfl ?_
  simp [c551, k551, in295]
theorem call574 {pu : Bool} {H : Heap} {t : Int} : Call tab pu 574 [.int .i64 t] H = some (.bool (in1 t 0 3), H) := by
  refine Call_wp t574 (.inr rfl) rfl ?_
  simp [c574, k574, in304]
theorem call462 {pu : Bool} {H : Heap} {t : Int} : Call tab pu 462 [.int .i64 t] H = some (.bool (in1 t 0 3), H) := by
  refine Call_wp t462 (.inr rfl) rfl ?_
  simp [c462, k462, in295]
theorem call575 {pu : Bool} {H : Heap} {y : Value} {ks : List Ky} (h : SlR H y 3 ks.length (kysC ks)) (hw : KyW ks) (hn : ks.length ≤ 1000000) : Call tab pu 575 [y] H = some (.bool (okTk ks), H) := by
  refine Call_wp t575 (.inr rfl) rfl ?_
  simp [c575, k575]
  refine WP_forH 3 ks.length _ rfl (by omega) (fun i e => e 0 = y ∧ ∀ j, j < i → kyB ks j = true) ?_ ?_ (by simp) ⟨by simp, fun j hj => by omega⟩
  · rintro i e hi hii e4 h3 ⟨h0, hj⟩
    obtain ⟨q, off, ver, ha, _, r0, r1, r2⟩ := Kr.at h hi
    obtain ⟨b1, b2, b3⟩ := hw.at hi
    have w1 : IntKind.wrap .i64 (ky ks i).1 = (ky ks i).1 := wrap64 (by omega)
    have w2 : IntKind.wrap .i64 (ky ks i).2.1 = (ky ks i).2.1 := wrap64 (by omega)
    have w3 : IntKind.wrap .i64 (ky ks i).2.2 = (ky ks i).2.2 := wrap64 (by omega)
    have bad : kyB ks i = false → okTk ks = false := fun hb => by unfold okTk; rw [allN_false hi hb]; rfl
    have hB : kyB ks i = (((in1 (ky ks i).1 0 200 && in1 (ky ks i).2.1 (-24) 24) && in1 (ky ks i).2.2 (-24) 24) && (decide (i = 0) || decide ((ky ks (i - 1)).1 < (ky ks i).1))) := rfl
    cases k1 : in1 (ky ks i).1 0 200 with
    | false =>
      rw [k1] at hB
      simp [b575_1, h3, h0, SlR.lenV h, hii, ha, r0, w1, call432, k1, skip, bad hB]
    | true =>
      cases k2 : in1 (ky ks i).2.1 (-24) 24 with
      | false =>
        rw [k1, k2] at hB
        simp [b575_1, h3, h0, SlR.lenV h, hii, ha, r0, r1, w1, w2, call432, k1, call605, k2, skip, bad hB]
      | true =>
        cases k3 : in1 (ky ks i).2.2 (-24) 24 with
        | false =>
          rw [k1, k2, k3] at hB
          simp [b575_1, h3, h0, SlR.lenV h, hii, ha, r0, r1, r2, w1, w2, w3, call432, k1, call605, k2, k3, bad hB]
        | true =>
          rw [k1, k2, k3] at hB
          by_cases hi0 : i = 0
          · subst hi0
            have hB' : kyB ks 0 = true := by rw [hB]; simp
            simp at h3 ha hii e4
            simp [b575_1, h3, h0, SlR.lenV h, hii, ha, r0, r1, r2, w1, w2, w3, call432, k1, call605, k2, k3, skip, e4]
            exact hB'
          · obtain ⟨m, rfl⟩ : ∃ m, i = m + 1 := ⟨i - 1, by omega⟩
            obtain ⟨q', off', ver', ha', _, r0', _, _⟩ := Kr.at h (j := m) (by omega)
            have e5 : IntKind.wrap .i64 (((m + 1 : Nat) : Int) - 1) = (m : Int) := by rw [wrap64 (by omega)]; omega
            have hpos : (0 : Int) < ((m + 1 : Nat) : Int) := by omega
            by_cases hlt : (ky ks m).1 < (ky ks (m + 1)).1
            · have hB' : kyB ks (m + 1) = true := by rw [hB]; simp [hlt]
              have hnle : ¬ (ky ks (m + 1)).1 ≤ (ky ks m).1 := by omega
              simp [b575_1, h3, h0, SlR.lenV h, hii, hpos, e5, ha, ha', r0, r1, r2, r0', w1, w2, w3, call432, k1, call605, k2, k3, hnle, e4, -Int.natCast_add]
              exact upto_succ hj hB'
            · have hB' : kyB ks (m + 1) = false := by rw [hB]; simp [hlt]
              have hle : (ky ks (m + 1)).1 ≤ (ky ks m).1 := by omega
              simp [b575_1, h3, h0, SlR.lenV h, hii, hpos, e5, ha, ha', r0, r1, r2, r0', w1, w2, w3, call432, k1, call605, k2, k3, hle, bad hB', -Int.natCast_add]
  · rintro e h3 ⟨h0, hj⟩
    have : okTk ks = in1 ks.length 1 20 := by unfold okTk; rw [allN_true hj]; rfl
    simp [b575_1, h3, h0, SlR.lenV h, in304, this]
theorem call461 {pu : Bool} {H : Heap} {y : Value} {ks : List Ky} (h : SlR H y 3 ks.length (kysC ks)) (hw : KyW ks) (hn : ks.length ≤ 1000000) : Call tab pu 461 [y] H = some (.bool (okTk ks), H) := by
  refine Call_wp t461 (.inr rfl) rfl ?_
  simp [c461, k461, SlR.lenV h]
  refine WP_forH 7 ks.length _ rfl (by omega) (fun i e => e 0 = y ∧ e 5 = y ∧ e 6 = .int .i64 ks.length ∧ ∀ j, j < i → kyB ks j = true) ?_ ?_ (by simp) ⟨by simp, by simp, by simp, fun j hj => by omega⟩
  · rintro i e hi hii e4 h7 ⟨h0, h5, h6, hj⟩
    obtain ⟨q, off, ver, ha, hr, _⟩ := Kr.at h hi
    obtain ⟨b1, b2, b3⟩ := hw.at hi
    have w1 : IntKind.wrap .i64 (ky ks i).1 = (ky ks i).1 := wrap64 (by omega)
    have w2 : IntKind.wrap .i64 (ky ks i).2.1 = (ky ks i).2.1 := wrap64 (by omega)
    have w3 : IntKind.wrap .i64 (ky ks i).2.2 = (ky ks i).2.2 := wrap64 (by omega)
    have bad : kyB ks i = false → okTk ks = false := fun hb => by unfold okTk; rw [allN_false hi hb]; rfl
    have hB : kyB ks i = (((in1 (ky ks i).1 0 200 && in1 (ky ks i).2.1 (-24) 24) && in1 (ky ks i).2.2 (-24) 24) && (decide (i = 0) || decide ((ky ks (i - 1)).1 < (ky ks i).1))) := rfl
    simp only [kyC] at hr
    cases k1 : in1 (ky ks i).1 0 200 with
    | false =>
      rw [k1] at hB
      simp [b461_1, h7, h0, h5, h6, hii, ha, hr, stc3, ldc3a, ldc3b, ldc3c, w1, call435, k1, skip, bad hB]
    | true =>
      cases k2 : in1 (ky ks i).2.1 (-24) 24 with
      | false =>
        rw [k1, k2] at hB
        simp [b461_1, h7, h0, h5, h6, hii, ha, hr, stc3, ldc3a, ldc3b, ldc3c, w1, w2, call435, call551, k1, k2, skip, bad hB]
      | true =>
        cases k3 : in1 (ky ks i).2.2 (-24) 24 with
        | false =>
          rw [k1, k2, k3] at hB
          simp [b461_1, h7, h0, h5, h6, hii, ha, hr, stc3, ldc3a, ldc3b, ldc3c, w1, w2, w3, call435, call551, k1, k2, k3, skip, bad hB]
        | true =>
          rw [k1, k2, k3] at hB
          by_cases hi0 : i = 0
          · subst hi0
            have hB' : kyB ks 0 = true := by rw [hB]; simp
            simp at h7 ha hii e4
            simp [b461_1, h7, h0, h5, h6, hii, ha, hr, stc3, ldc3a, ldc3b, ldc3c, w1, w2, w3, call435, call551, k1, k2, k3, skip, e4]
            exact hB'
          · obtain ⟨m, rfl⟩ : ∃ m, i = m + 1 := ⟨i - 1, by omega⟩
            obtain ⟨q', off', ver', ha', _, r0', _, _⟩ := Kr.at h (j := m) (by omega)
            have e5 : IntKind.wrap .i64 (((m + 1 : Nat) : Int) - 1) = (m : Int) := by rw [wrap64 (by omega)]; omega
            have hpos : (0 : Int) < ((m + 1 : Nat) : Int) := by omega
            by_cases hlt : (ky ks m).1 < (ky ks (m + 1)).1
            · have hB' : kyB ks (m + 1) = true := by rw [hB]; simp [hlt]
              have hnle : ¬ (ky ks (m + 1)).1 ≤ (ky ks m).1 := by omega
              simp [b461_1, h7, h0, h5, h6, hii, hpos, e5, ha, ha', hr, r0', stc3, ldc3a, ldc3b, ldc3c, w1, w2, w3, call435, call551, k1, k2, k3, hnle, e4, -Int.natCast_add]
              exact upto_succ hj hB'
            · have hB' : kyB ks (m + 1) = false := by rw [hB]; simp [hlt]
              have hle : (ky ks (m + 1)).1 ≤ (ky ks m).1 := by omega
              simp [b461_1, h7, h0, h5, h6, hii, hpos, e5, ha, ha', hr, r0', stc3, ldc3a, ldc3b, ldc3c, w1, w2, w3, call435, call551, k1, k2, k3, hle, bad hB', -Int.natCast_add]
  · rintro e h7 ⟨h0, h5, h6, hj⟩
    have : okTk ks = in1 ks.length 1 20 := by unfold okTk; rw [allN_true hj]; rfl
    simp [b461_1, h7, h0, h6, SlR.lenV h, in295, this]
theorem call263 {pu : Bool} {H : Heap} {s : Pt} {y : Value} (hy : Kr H y s) (hw : PtW s) (hn : s.ks.length ≤ 1000000) : Call tab pu 263 [agg (ptC s y)] H = some (.bool (okPt s), H) := by
  refine Call_wp t263 (.inr rfl) rfl ?_
  have hl := s.len
  have c1 := call234 (pu := true) (H := H) hl
  have c2 := call461 (pu := true) hy hw.ks hn
  have he := hw.e
  have w1 : IntKind.wrap .i64 s.e = s.e := wrap64 (by omega)
  cases k1 : okF s.f with
  | false => simp [c263, k263, ptC, ldP0 hl, c1, k1, skip, okPt]
  | true =>
    cases k2 : okTk s.ks with
    | false => simp [c263, k263, ptC, ldP0 hl, ldP13 hl, c1, k1, c2, k2, skip, okPt]
    | true => simp [c263, k263, ptC, ldP0 hl, ldP12 hl, ldP13 hl, c1, k1, c2, k2, w1, call462, okPt]
theorem s578 : tab 578 = some (.fn (ixFC 14 true)) := t578
theorem s541 : tab 541 = some (.fn (ctFC 578)) := t541
theorem call542 {pu : Bool} {H : Heap} {s : Pt} {y : Value} (hy : Kr H y s) (hw : PtW s) (hn : s.ks.length ≤ 1000000) : Call tab pu 542 [agg (ptC s y)] H = some (.bool (!okPt s), H) := by
  refine Call_wp t542 (.inr rfl) rfl ?_
  have c1 := call263 (pu := true) hy hw hn
  simp only [ptC] at c1 ⊢
  simp [c542, k542, ldPall s.len, c1]
structure PtsW (l : List Pt) : Prop where
  w : ∀ s ∈ l, PtW s
  n : l.length ≤ 1000000
  r : ∀ s ∈ l, s.ks.length ≤ 1000000
theorem call425 {pu : Bool} {H : Heap} {x : Value} {l : List Pt} (hs : PtS H x l) (hw : PtsW l) : Call tab pu 425 [x] H = some (.bool (okPts l), H) := by
  refine Call_wp t425 (.inr rfl) rfl ?_
  obtain ⟨vs, h1, h2⟩ := hs
  have hc := ctF_call s541 s578 (pu := true) (F := .func (.func 542) #[] #[]) (p := fun i => !okPt (at0 l i)) h1 (by have := hw.n; omega) fun i hi => by
    obtain ⟨y, e1, e2⟩ := h2 i hi
    exact ⟨agg (ptC (at0 l i) y), by rw [e1]; rfl, by simp [call542 e2 (hw.w _ (at0_mem hi)) (hw.r _ (at0_mem hi))]⟩
  simp [c425, k425, hc, anyN_not, okPts]
/-- A part in memory. -/
structure PtR (H : Heap) (q off ver : Nat) (s : Pt) (y : Value) : Prop where
  rf : rd H q off ver 12 = some (cs .u16 s.f)
  re : rd H q (off + 12) ver 1 = some [.int .i8 s.e]
  ry : rd H q (off + 13) ver 1 = some [y]
  rk : Kr H y s
theorem PtR.of {H : Heap} {q off ver : Nat} {s : Pt} {y : Value} (h : rd H q off ver 14 = some (ptC s y)) (hk : Kr H y s) : PtR H q off ver s y := by
  have hl := s.len
  have g1 := rd_part h (o := 0) (m := 12) (by omega)
  have g2 := rd_part h (o := 12) (m := 1) (by omega)
  have g3 := rd_part h (o := 13) (m := 1) (by omega)
  unfold ptC at g1 g2 g3
  rw [show 12 = 12 + 0 from rfl, ptT_at hl] at g2
  rw [show 13 = 12 + 1 from rfl, ptT_at hl] at g3
  rw [Nat.add_zero, List.drop_zero] at g1
  unfold ptT at g1
  rw [List.take_left' (by simp [hl])] at g1
  exact ⟨g1, g2, g3, hk⟩
theorem PtR.pre {H G : Heap} {q off ver : Nat} {s : Pt} {y : Value} (p : Pre H G) (h : PtR H q off ver s y) : PtR G q off ver s y := ⟨p.rd h.rf, p.rd h.re, p.rd h.ry, SlR.pre p h.rk⟩
theorem call537 {pu : Bool} {H : Heap} {q off ver : Nat} {s : Pt} {y : Value} (hr : PtR H q off ver s y) (hw : PtW s) (hn : s.ks.length ≤ 1000000) : Call tab pu 537 [adr q off ver] H = some (.bool (okPt s), H) := by
  refine Call_wp t537 (.inr rfl) rfl ?_
  have c1 := call359 (pu := true) s.len hr.rf
  have c2 := call575 (pu := true) hr.rk hw.ks hn
  have he := hw.e
  have w1 : IntKind.wrap .i64 s.e = s.e := wrap64 (by omega)
  cases k1 : okF s.f with
  | false => simp [c537, k537, c1, k1, skip, okPt]
  | true =>
    cases k2 : in1 s.e 0 3 with
    | false => simp [c537, k537, c1, k1, hr.re, w1, call574, k2, skip, okPt]
    | true => simp [c537, k537, c1, k1, hr.re, hr.ry, w1, call574, k2, c2, okPt]
theorem call421 {pu : Bool} {H : Heap} {x : Value} {l : List Pt} {b : Bool} (hs : PtS H x l) (hw : PtsW l) : Call tab pu 421 [x, .bool b] H = some (.int .i64 (if okPts l = true then if b = true then if 6 < l.length then 3 else 0 else 2 else 1), H) := by
  refine Call_wp t421 (.inr rfl) rfl ?_
  have hn := hw.n
  simp [c421, k421]
  refine WP_forH 5 l.length _ rfl (by omega) (fun i e => e 0 = x ∧ e 1 = .bool b ∧ ∀ j, j < i → okPt (at0 l j) = true) ?_ ?_ (by simp) ⟨by simp, by simp, fun j hj => by omega⟩
  · rintro i e hi hii e4 h5 ⟨h0, h1, hj⟩
    obtain ⟨q, off, ver, y, ha, hr, hk⟩ := hs.get hi
    have c1 := call537 (pu := true) (PtR.of hr hk) (hw.w _ (at0_mem hi)) (hw.r _ (at0_mem hi))
    cases hk : okPt (at0 l i) with
    | true =>
      rw [hk] at c1
      simp [b421_1, h5, h0, h1, hs.lenV, hii, ha, c1, e4]
      exact upto_succ hj hk
    | false =>
      rw [hk] at c1
      have : okPts l = false := allN_false hi hk
      simp [b421_1, h5, h0, h1, hs.lenV, hii, ha, c1, this]
  · rintro e h5 ⟨h0, h1, hj⟩
    have : okPts l = true := allN_true hj
    have e6 : (6 < (l.length : Int)) ↔ 6 < l.length := by omega
    cases b with
    | false => simp [b421_1, h5, h0, h1, hs.lenV, this]
    | true =>
      by_cases h6 : 6 < l.length
      · have h6' : 6 < (l.length : Int) := by omega
        simp [b421_1, h5, h0, h1, hs.lenV, this, h6, h6']
      · have h6' : ¬ 6 < (l.length : Int) := by omega
        simp [b421_1, h5, h0, h1, hs.lenV, this, h6, h6']
/- Shares. -/
def shV (e a s : Int) : Int :=
  if e = 0 then a * 1000 / s else if e = 1 then a * a * 1000 / (s * s) else if e = 2 then 1000 - (s - a) * (s - a) * 1000 / (s * s)
  else if 2 * a < s then 2 * a * a * 1000 / (s * s) else 1000 - 2 * (s - a) * (s - a) * 1000 / (s * s)
theorem mulB {a b A B : Int} (ha : 0 ≤ a ∧ a ≤ A) (hb : 0 ≤ b ∧ b ≤ B) : 0 ≤ a * b ∧ a * b ≤ A * B := by
  refine ⟨Int.mul_nonneg ha.1 hb.1, ?_⟩
  have h1 : a * b ≤ A * b := Int.mul_le_mul_of_nonneg_right ha.2 hb.1
  have h2 : A * b ≤ A * B := Int.mul_le_mul_of_nonneg_left hb.2 (by omega)
  omega
theorem quoB {p q : Int} (hp : 0 ≤ p) (hq : 0 < q) (h : p ≤ 1000 * q) : 0 ≤ p / q ∧ p / q ≤ 1000 := ⟨Int.ediv_nonneg hp (by omega), Int.ediv_le_of_le_mul hq h⟩
theorem shV_ok {e a s : Int} (h0 : 0 ≤ a) (h1 : a ≤ s) (hs : 0 < s) : 0 ≤ shV e a s ∧ shV e a s ≤ 1000 := by
  have hss : 0 < s * s := Int.mul_pos hs hs
  unfold shV
  split
  · exact quoB (by omega) hs (by omega)
  · have k1 := mulB ⟨h0, h1⟩ ⟨h0, h1⟩
    have k2 := mulB (a := s - a) (A := s) ⟨by omega, by omega⟩ (b := s - a) (B := s) ⟨by omega, by omega⟩
    split
    · exact quoB (by omega) hss (by omega)
    · split
      · have := quoB (p := (s - a) * (s - a) * 1000) (q := s * s) (by omega) hss (by omega)
        omega
      · split
        · have k3 := mulB (a := 2 * a) (A := s) ⟨by omega, by omega⟩ (b := a) (B := s) ⟨h0, h1⟩
          exact quoB (by omega) hss (by omega)
        · have k3 := mulB (a := 2 * (s - a)) (A := s) ⟨by omega, by omega⟩ (b := s - a) (B := s) ⟨by omega, by omega⟩
          have := quoB (p := 2 * (s - a) * (s - a) * 1000) (q := s * s) (by omega) hss (by omega)
          omega
theorem shV_zero {e s : Int} (hs : 0 < s) : shV e 0 s = 0 := by
  have hss : 0 < s * s := Int.mul_pos hs hs
  have h1 : s * s * 1000 / (s * s) = 1000 := by rw [Int.mul_comm]; exact Int.mul_ediv_cancel _ (by omega)
  unfold shV
  split
  · simp
  · split
    · simp
    · split
      · rw [Int.sub_zero, h1]; rfl
      · rw [if_pos (by omega)]; simp
theorem wr6 {p : Int} (h : 0 ≤ p ∧ p ≤ 1000000000) : IntKind.wrap .i64 p = p := wrap64 (by omega)
theorem call576 {pu : Bool} {H : Heap} {e a s : Int} (he : 0 ≤ e ∧ e ≤ 3) (h0 : 0 ≤ a) (h1 : a ≤ s) (hs : 0 < s) (hs2 : s ≤ 200) : Call tab pu 576 [.int .i64 e, .int .i64 a, .int .i64 s] H = some (.int .i64 (shV e a s), H) := by
  refine Call_wp t576 (.inr rfl) rfl ?_
  have hss : 0 < s * s := Int.mul_pos hs hs
  have hv := shV_ok (e := e) h0 h1 hs
  have k0 := mulB (a := s) (A := 200) ⟨by omega, hs2⟩ (b := s) (B := 200) ⟨by omega, hs2⟩
  have k1 := mulB (a := a) (A := 200) ⟨h0, by omega⟩ (b := a) (B := 200) ⟨h0, by omega⟩
  have k2 := mulB (a := s - a) (A := 200) ⟨by omega, by omega⟩ (b := s - a) (B := 200) ⟨by omega, by omega⟩
  have k3 := mulB (a := 2 * a) (A := 400) ⟨by omega, by omega⟩ (b := a) (B := 200) ⟨h0, by omega⟩
  have k4 := mulB (a := 2 * (s - a)) (A := 400) ⟨by omega, by omega⟩ (b := s - a) (B := 200) ⟨by omega, by omega⟩
  have w0 := wr6 (p := s - a) (by omega)
  have w1 := wr6 (p := s * s) (by omega)
  have w2 := wr6 (p := a * 1000) (by omega)
  have w3 := wr6 (p := a * a) (by omega)
  have w4 := wr6 (p := a * a * 1000) (by omega)
  have w5 := wr6 (p := (s - a) * (s - a)) (by omega)
  have w6 := wr6 (p := (s - a) * (s - a) * 1000) (by omega)
  have w7 := wr6 (p := 2 * a) (by omega)
  have w8 := wr6 (p := 2 * a * a) (by omega)
  have w9 := wr6 (p := 2 * a * a * 1000) (by omega)
  have wa := wr6 (p := 2 * (s - a)) (by omega)
  have wb := wr6 (p := 2 * (s - a) * (s - a)) (by omega)
  have wc := wr6 (p := 2 * (s - a) * (s - a) * 1000) (by omega)
  have hs0 : s ≠ 0 := by omega
  have hss0 : s * s ≠ 0 := by omega
  have d1 : (a * 1000).tdiv s = a * 1000 / s := Int.tdiv_eq_ediv_of_nonneg (by omega)
  have d2 : (a * a * 1000).tdiv (s * s) = a * a * 1000 / (s * s) := Int.tdiv_eq_ediv_of_nonneg (by omega)
  have d3 : ((s - a) * (s - a) * 1000).tdiv (s * s) = (s - a) * (s - a) * 1000 / (s * s) := Int.tdiv_eq_ediv_of_nonneg (by omega)
  have d4 : (2 * a * a * 1000).tdiv (s * s) = 2 * a * a * 1000 / (s * s) := Int.tdiv_eq_ediv_of_nonneg (by omega)
  have d5 : (2 * (s - a) * (s - a) * 1000).tdiv (s * s) = 2 * (s - a) * (s - a) * 1000 / (s * s) := Int.tdiv_eq_ediv_of_nonneg (by omega)
  have : e = 0 ∨ e = 1 ∨ e = 2 ∨ e = 3 := by omega
  rcases this with rfl | rfl | rfl | rfl
  · have e1 : shV 0 a s = a * 1000 / s := rfl
    rw [e1] at hv ⊢
    have we := wr6 (p := a * 1000 / s) (by omega)
    simp [c576, k576, w0, w1, w2, hs0, d1, we]
  · have e1 : shV 1 a s = a * a * 1000 / (s * s) := rfl
    rw [e1] at hv ⊢
    have we := wr6 (p := a * a * 1000 / (s * s)) (by omega)
    simp [c576, k576, w0, w1, w3, w4, hs0, d2, we]
  · have e1 : shV 2 a s = 1000 - (s - a) * (s - a) * 1000 / (s * s) := rfl
    have := quoB (p := (s - a) * (s - a) * 1000) (q := s * s) (by omega) hss (by have := mulB (a := s - a) (A := s) ⟨by omega, by omega⟩ (b := s - a) (B := s) ⟨by omega, by omega⟩; omega)
    have we := wr6 (p := (s - a) * (s - a) * 1000 / (s * s)) (by omega)
    have wf := wr6 (p := 1000 - (s - a) * (s - a) * 1000 / (s * s)) (by omega)
    simp [c576, k576, w0, w1, w5, w6, hs0, d3, we, wf, e1]
  · by_cases h2 : 2 * a < s
    · have e1 : shV 3 a s = 2 * a * a * 1000 / (s * s) := by unfold shV; rw [if_neg (by omega), if_neg (by omega), if_neg (by omega), if_pos h2]
      rw [e1] at hv ⊢
      have we := wr6 (p := 2 * a * a * 1000 / (s * s)) (by omega)
      simp [c576, k576, w0, w1, w7, w8, w9, hs0, h2, d4, we]
    · have e1 : shV 3 a s = 1000 - 2 * (s - a) * (s - a) * 1000 / (s * s) := by unfold shV; rw [if_neg (by omega), if_neg (by omega), if_neg (by omega), if_neg h2]
      have := quoB (p := 2 * (s - a) * (s - a) * 1000) (q := s * s) (by omega) hss (by have := mulB (a := 2 * (s - a)) (A := s) ⟨by omega, by omega⟩ (b := s - a) (B := s) ⟨by omega, by omega⟩; omega)
      have we := wr6 (p := 2 * (s - a) * (s - a) * 1000 / (s * s)) (by omega)
      have wf := wr6 (p := 1000 - 2 * (s - a) * (s - a) * 1000 / (s * s)) (by omega)
      simp [c576, k576, w0, w1, w7, wa, wb, wc, hs0, h2, d5, we, wf, e1]
theorem call579 {pu : Bool} {H : Heap} {e a s : Int} (he : 0 ≤ e ∧ e ≤ 3) (h0 : 0 ≤ a) (h1 : a ≤ s) (hs : 0 < s) (hs2 : s ≤ 200) : Call tab pu 579 [.int .i64 e, .int .i64 a, .int .i64 s] H = some (.int .i64 (shV e a s), H) := by
  refine Call_wp t579 (.inr rfl) rfl ?_
  have hss : 0 < s * s := Int.mul_pos hs hs
  have hv := shV_ok (e := e) h0 h1 hs
  have k0 := mulB (a := s) (A := 200) ⟨by omega, hs2⟩ (b := s) (B := 200) ⟨by omega, hs2⟩
  have k1 := mulB (a := a) (A := 200) ⟨h0, by omega⟩ (b := a) (B := 200) ⟨h0, by omega⟩
  have k2 := mulB (a := s - a) (A := 200) ⟨by omega, by omega⟩ (b := s - a) (B := 200) ⟨by omega, by omega⟩
  have k3 := mulB (a := 2 * a) (A := 400) ⟨by omega, by omega⟩ (b := a) (B := 200) ⟨h0, by omega⟩
  have k4 := mulB (a := 2 * (s - a)) (A := 400) ⟨by omega, by omega⟩ (b := s - a) (B := 200) ⟨by omega, by omega⟩
  have w0 := wr6 (p := s - a) (by omega)
  have w1 := wr6 (p := s * s) (by omega)
  have w2 := wr6 (p := a * 1000) (by omega)
  have w3 := wr6 (p := a * a) (by omega)
  have w4 := wr6 (p := a * a * 1000) (by omega)
  have w5 := wr6 (p := (s - a) * (s - a)) (by omega)
  have w6 := wr6 (p := (s - a) * (s - a) * 1000) (by omega)
  have w7 := wr6 (p := 2 * a) (by omega)
  have w8 := wr6 (p := 2 * a * a) (by omega)
  have w9 := wr6 (p := 2 * a * a * 1000) (by omega)
  have wa := wr6 (p := 2 * (s - a)) (by omega)
  have wb := wr6 (p := 2 * (s - a) * (s - a)) (by omega)
  have wc := wr6 (p := 2 * (s - a) * (s - a) * 1000) (by omega)
  have hs0 : s ≠ 0 := by omega
  have hss0 : s * s ≠ 0 := by omega
  have d1 : (a * 1000).tdiv s = a * 1000 / s := Int.tdiv_eq_ediv_of_nonneg (by omega)
  have d2 : (a * a * 1000).tdiv (s * s) = a * a * 1000 / (s * s) := Int.tdiv_eq_ediv_of_nonneg (by omega)
  have d3 : ((s - a) * (s - a) * 1000).tdiv (s * s) = (s - a) * (s - a) * 1000 / (s * s) := Int.tdiv_eq_ediv_of_nonneg (by omega)
  have d4 : (2 * a * a * 1000).tdiv (s * s) = 2 * a * a * 1000 / (s * s) := Int.tdiv_eq_ediv_of_nonneg (by omega)
  have d5 : (2 * (s - a) * (s - a) * 1000).tdiv (s * s) = 2 * (s - a) * (s - a) * 1000 / (s * s) := Int.tdiv_eq_ediv_of_nonneg (by omega)
  have : e = 0 ∨ e = 1 ∨ e = 2 ∨ e = 3 := by omega
  rcases this with rfl | rfl | rfl | rfl
  · have e1 : shV 0 a s = a * 1000 / s := rfl
    rw [e1] at hv ⊢
    have we := wr6 (p := a * 1000 / s) (by omega)
    simp [c579, k579, w0, w1, w2, hs0, d1, we]
  · have e1 : shV 1 a s = a * a * 1000 / (s * s) := rfl
    rw [e1] at hv ⊢
    have we := wr6 (p := a * a * 1000 / (s * s)) (by omega)
    simp [c579, k579, w0, w1, w3, w4, hs0, d2, we]
  · have e1 : shV 2 a s = 1000 - (s - a) * (s - a) * 1000 / (s * s) := rfl
    have := quoB (p := (s - a) * (s - a) * 1000) (q := s * s) (by omega) hss (by have := mulB (a := s - a) (A := s) ⟨by omega, by omega⟩ (b := s - a) (B := s) ⟨by omega, by omega⟩; omega)
    have we := wr6 (p := (s - a) * (s - a) * 1000 / (s * s)) (by omega)
    have wf := wr6 (p := 1000 - (s - a) * (s - a) * 1000 / (s * s)) (by omega)
    simp [c579, k579, w0, w1, w5, w6, hs0, d3, we, wf, e1]
  · by_cases h2 : 2 * a < s
    · have e1 : shV 3 a s = 2 * a * a * 1000 / (s * s) := by unfold shV; rw [if_neg (by omega), if_neg (by omega), if_neg (by omega), if_pos h2]
      rw [e1] at hv ⊢
      have we := wr6 (p := 2 * a * a * 1000 / (s * s)) (by omega)
      simp [c579, k579, w0, w1, w7, w8, w9, hs0, h2, d4, we]
    · have e1 : shV 3 a s = 1000 - 2 * (s - a) * (s - a) * 1000 / (s * s) := by unfold shV; rw [if_neg (by omega), if_neg (by omega), if_neg (by omega), if_neg h2]
      have := quoB (p := 2 * (s - a) * (s - a) * 1000) (q := s * s) (by omega) hss (by have := mulB (a := 2 * (s - a)) (A := s) ⟨by omega, by omega⟩ (b := s - a) (B := s) ⟨by omega, by omega⟩; omega)
      have we := wr6 (p := 2 * (s - a) * (s - a) * 1000 / (s * s)) (by omega)
      have wf := wr6 (p := 1000 - 2 * (s - a) * (s - a) * 1000 / (s * s)) (by omega)
      simp [c579, k579, w0, w1, w7, wa, wb, wc, hs0, h2, d5, we, wf, e1]
def btw (a b w : Int) : Int := if b < a then a - ((a - b) * w + 500) / 1000 else a + ((b - a) * w + 500) / 1000
theorem btw_zero {a b : Int} : btw a b 0 = a := by unfold btw; split <;> simp
theorem btw_ok {a b w : Int} (ha : -24 ≤ a ∧ a ≤ 24) (hb : -24 ≤ b ∧ b ≤ 24) (hw : 0 ≤ w ∧ w ≤ 1000) : -100 ≤ btw a b w ∧ btw a b w ≤ 100 := by
  unfold btw
  split
  · have := mulB (a := a - b) (A := 48) ⟨by omega, by omega⟩ hw
    omega
  · have := mulB (a := b - a) (A := 48) ⟨by omega, by omega⟩ hw
    omega
theorem call577 {pu : Bool} {H : Heap} {a b w : Int} (ha : -24 ≤ a ∧ a ≤ 24) (hb : -24 ≤ b ∧ b ≤ 24) (hw : 0 ≤ w ∧ w ≤ 1000) : Call tab pu 577 [.int .i64 a, .int .i64 b, .int .i64 w] H = some (.int .i64 (btw a b w), H) := by
  refine Call_wp t577 (.inr rfl) rfl ?_
  have c606 : ∀ d : Int, -48 ≤ d ∧ d ≤ 48 → Call tab true 606 [.int .i64 d] H = some (.int .i64 (szI d), H) := fun d hd => by
    refine Call_wp t606 (.inr rfl) rfl ?_
    have w1 : IntKind.wrap .i64 (-d) = -d := wrap64 (by omega)
    have c1 := call549 (pu := true) (H := H) (a := d) (b := -d)
    rw [szI_max] at c1
    simp [c606, k606, w1, c1]
  have h6 := c606 (b - a) (by omega)
  have w1 : IntKind.wrap .i64 (b - a) = b - a := wrap64 (by omega)
  by_cases h : b < a
  · have hz : szI (b - a) = a - b := by unfold szI; rw [if_pos (by omega)]; omega
    rw [hz] at h6
    have k := mulB (a := a - b) (A := 48) ⟨by omega, by omega⟩ hw
    have w2 := wr6 (p := (a - b) * w) (by omega)
    have w3 := wr6 (p := (a - b) * w + 500) (by omega)
    have d1 : ((a - b) * w + 500).tdiv 1000 = ((a - b) * w + 500) / 1000 := Int.tdiv_eq_ediv_of_nonneg (by omega)
    have w4 := wr6 (p := ((a - b) * w + 500) / 1000) (by omega)
    have w5 : IntKind.wrap .i64 (a - ((a - b) * w + 500) / 1000) = a - ((a - b) * w + 500) / 1000 := wrap64 (by omega)
    simp [c577, k577, w1, h6, w2, w3, d1, w4, h, w5, btw]
  · have hz : szI (b - a) = b - a := by unfold szI; rw [if_neg (by omega)]
    rw [hz] at h6
    have k := mulB (a := b - a) (A := 48) ⟨by omega, by omega⟩ hw
    have w2 := wr6 (p := (b - a) * w) (by omega)
    have w3 := wr6 (p := (b - a) * w + 500) (by omega)
    have d1 : ((b - a) * w + 500).tdiv 1000 = ((b - a) * w + 500) / 1000 := Int.tdiv_eq_ediv_of_nonneg (by omega)
    have w4 := wr6 (p := ((b - a) * w + 500) / 1000) (by omega)
    have w5 : IntKind.wrap .i64 (a + ((b - a) * w + 500) / 1000) = a + ((b - a) * w + 500) / 1000 := wrap64 (by omega)
    simp [c577, k577, w1, h6, w2, w3, d1, w4, h, w5, btw]
theorem call580 {pu : Bool} {H : Heap} {a b w : Int} (ha : -24 ≤ a ∧ a ≤ 24) (hb : -24 ≤ b ∧ b ≤ 24) (hw : 0 ≤ w ∧ w ≤ 1000) : Call tab pu 580 [.int .i64 a, .int .i64 b, .int .i64 w] H = some (.int .i64 (btw a b w), H) := by
  refine Call_wp t580 (.inr rfl) rfl ?_
  by_cases h : b < a
  · have k := mulB (a := a - b) (A := 48) ⟨by omega, by omega⟩ hw
    have w1 := wr6 (p := a - b) (by omega)
    have w2 := wr6 (p := (a - b) * w) (by omega)
    have w3 := wr6 (p := (a - b) * w + 500) (by omega)
    have d1 : ((a - b) * w + 500).tdiv 1000 = ((a - b) * w + 500) / 1000 := Int.tdiv_eq_ediv_of_nonneg (by omega)
    have w4 := wr6 (p := ((a - b) * w + 500) / 1000) (by omega)
    have w5 : IntKind.wrap .i64 (a - ((a - b) * w + 500) / 1000) = a - ((a - b) * w + 500) / 1000 := wrap64 (by omega)
    simp [c580, k580, h, w1, w2, w3, d1, w4, w5, btw]
  · have k := mulB (a := b - a) (A := 48) ⟨by omega, by omega⟩ hw
    have w1 := wr6 (p := b - a) (by omega)
    have w2 := wr6 (p := (b - a) * w) (by omega)
    have w3 := wr6 (p := (b - a) * w + 500) (by omega)
    have d1 : ((b - a) * w + 500).tdiv 1000 = ((b - a) * w + 500) / 1000 := Int.tdiv_eq_ediv_of_nonneg (by omega)
    have w4 := wr6 (p := ((b - a) * w + 500) / 1000) (by omega)
    have w5 : IntKind.wrap .i64 (a + ((b - a) * w + 500) / 1000) = a + ((b - a) * w + 500) / 1000 := wrap64 (by omega)
    simp [c580, k580, h, w1, w2, w3, d1, w4, w5, btw]
/-- How many keys lie at or before a tick. -/
def ckK (ks : List Ky) (t : Int) (k : Nat) : Nat := itN (fun i c => if c = i ∧ (ky ks i).1 ≤ t then i + 1 else c) 0 k
theorem ckK_prop {ks : List Ky} {t : Int} {k : Nat} : ckK ks t k ≤ k ∧ (∀ j, j < ckK ks t k → (ky ks j).1 ≤ t) ∧ (ckK ks t k < k → t < (ky ks (ckK ks t k)).1) := by
  induction k with
  | zero =>
    have : ckK ks t 0 = 0 := itN_zero
    rw [this]
    exact ⟨Nat.le_refl _, fun j hj => by omega, fun h => by omega⟩
  | succ k ih =>
    obtain ⟨h1, h2, h3⟩ := ih
    have hs : ckK ks t (k + 1) = if ckK ks t k = k ∧ (ky ks k).1 ≤ t then k + 1 else ckK ks t k := itN_succ
    rw [hs]
    split
    · rename_i hc
      refine ⟨Nat.le_refl _, fun j hj => ?_, fun h => by omega⟩
      by_cases hjk : j < k
      · exact h2 j (by omega)
      · rw [show j = k by omega]; exact hc.2
    · rename_i hc
      refine ⟨by omega, h2, fun h => ?_⟩
      by_cases hk : ckK ks t k < k
      · exact h3 hk
      · have : ckK ks t k = k := by omega
        rw [this]
        have : ¬ (ky ks k).1 ≤ t := fun z => hc ⟨‹_›, z⟩
        omega
structure TkV (ks : List Ky) : Prop where
  n1 : 1 ≤ ks.length
  n20 : ks.length ≤ 20
  r : ∀ i, i < ks.length → (0 ≤ (ky ks i).1 ∧ (ky ks i).1 ≤ 200) ∧ (-24 ≤ (ky ks i).2.1 ∧ (ky ks i).2.1 ≤ 24) ∧ -24 ≤ (ky ks i).2.2 ∧ (ky ks i).2.2 ≤ 24
  s : ∀ i, i + 1 < ks.length → (ky ks i).1 < (ky ks (i + 1)).1
theorem okTk_V {ks : List Ky} (h : okTk ks = true) : TkV ks := by
  simp only [okTk, Bool.and_eq_true] at h
  obtain ⟨h1, h2⟩ := h
  have hl : 1 ≤ ks.length ∧ ks.length ≤ 20 := by simp [in1] at h2; omega
  refine ⟨hl.1, hl.2, fun i hi => ?_, fun i hi => ?_⟩
  · have := allN_get (p := kyB ks) h1 hi
    simp only [kyB, Bool.and_eq_true, in1, decide_eq_true_eq] at this
    exact ⟨this.1.1.1, this.1.1.2, this.1.2⟩
  · have := allN_get (p := kyB ks) h1 hi
    simp only [kyB, Bool.and_eq_true, in1, decide_eq_true_eq, Bool.or_eq_true] at this
    rcases this.2 with h | h
    · omega
    · exact h
def plW (ks : List Ky) (e t : Int) (c : Nat) : Int := shV e (t - (ky ks (c - 1)).1) ((ky ks c).1 - (ky ks (c - 1)).1)
def plc (ks : List Ky) (e t : Int) : Int × Int :=
  if ckK ks t ks.length = 0 then ((ky ks 0).2.1, (ky ks 0).2.2) else if ckK ks t ks.length = ks.length then ((ky ks (ks.length - 1)).2.1, (ky ks (ks.length - 1)).2.2)
  else (btw (ky ks (ckK ks t ks.length - 1)).2.1 (ky ks (ckK ks t ks.length)).2.1 (plW ks e t (ckK ks t ks.length)), btw (ky ks (ckK ks t ks.length - 1)).2.2 (ky ks (ckK ks t ks.length)).2.2 (plW ks e t (ckK ks t ks.length)))
theorem plc_ok {ks : List Ky} {e t : Int} (V : TkV ks) : (-100 ≤ (plc ks e t).1 ∧ (plc ks e t).1 ≤ 100) ∧ -100 ≤ (plc ks e t).2 ∧ (plc ks e t).2 ≤ 100 := by
  have n1 := V.n1
  obtain ⟨c1, c2, c3⟩ := ckK_prop (ks := ks) (t := t) (k := ks.length)
  unfold plc
  generalize ckK ks t ks.length = c at *
  split
  · have := V.r 0 (by omega)
    simp only []
    omega
  · split
    · have := V.r (ks.length - 1) (by omega)
      simp only []
      omega
    · have a1 := V.r (c - 1) (by omega)
      have a2 := V.r c (by omega)
      have a3 := V.s (c - 1) (by omega)
      rw [show c - 1 + 1 = c by omega] at a3
      have a4 := c2 (c - 1) (by omega)
      have a5 := c3 (by omega)
      have hw := shV_ok (e := e) (a := t - (ky ks (c - 1)).1) (s := (ky ks c).1 - (ky ks (c - 1)).1) (by omega) (by omega) (by omega)
      have h1 := btw_ok a1.2.1 a2.2.1 hw
      have h2 := btw_ok a1.2.2 a2.2.2 hw
      exact ⟨h1, h2⟩
theorem call543 {pu : Bool} {H : Heap} {y : Value} {ks : List Ky} {e t : Int} (h : SlR H y 3 ks.length (kysC ks)) (V : TkV ks) (he : 0 ≤ e ∧ e ≤ 3) (ht : 0 ≤ t ∧ t ≤ 200) :
    Call tab pu 543 [y, .int .i64 e, .int .i64 t] H = some (tup [.int .i64 (plc ks e t).1, .int .i64 (plc ks e t).2], H) := by
  refine Call_wp t543 (.inr rfl) rfl ?_
  have n1 := V.n1
  have n20 := V.n20
  obtain ⟨c1, c2, c3⟩ := ckK_prop (ks := ks) (t := t) (k := ks.length)
  have hpl : plc ks e t = plc ks e t := rfl
  unfold plc at hpl ⊢
  clear hpl
  generalize ckK ks t ks.length = c at *
  simp [c543, k543]
  refine WK_loop (fun i e' G => e' 0 = y ∧ e' 1 = .int .i64 e ∧ e' 2 = .int .i64 t ∧ e' 8 = .int .i64 i ∧ H = G) c ?_ (Nat.zero_le _) ⟨by simp, by simp, by simp, by simp, rfl⟩
  rintro i e' _ _ hi ⟨h0, h1, h2, h8, rfl⟩
  by_cases hic : i < c
  · obtain ⟨q, off, ver, ha, _, r0, _, _⟩ := Kr.at h (j := i) (by omega)
    obtain ⟨b1, _⟩ := V.r i (by omega)
    have w1 : IntKind.wrap .i64 (ky ks i).1 = (ky ks i).1 := wrap64 (by omega)
    have hle := c2 i hic
    have hlt : (i : Int) < ks.length := by omega
    have e9 : IntKind.wrap .i64 ((i : Int) + 1) = ((i + 1 : Nat) : Int) := by rw [wrap64 (by omega)]; omega
    simp [b543_1, h0, h1, h2, h8, SlR.lenV h, hlt, ha, r0, w1, hle, e9, -Int.natCast_add]
    exact hic
  · obtain rfl : i = c := by omega
    by_cases hic0 : i = 0
    · subst hic0
      obtain ⟨q, off, ver, ha, hr, r0, _, _⟩ := Kr.at h (j := 0) (by omega)
      obtain ⟨b1, b2, b3⟩ := V.r 0 (by omega)
      have w1 : IntKind.wrap .i64 (ky ks 0).1 = (ky ks 0).1 := wrap64 (by omega)
      have w2 : IntKind.wrap .i64 (ky ks 0).2.1 = (ky ks 0).2.1 := wrap64 (by omega)
      have w3 : IntKind.wrap .i64 (ky ks 0).2.2 = (ky ks 0).2.2 := wrap64 (by omega)
      have hnle : ¬ (ky ks 0).1 ≤ t := by have := c3 (by omega); omega
      have hlt : (0 : Int) < ks.length := by omega
      have hlt' : 0 < ks.length := by omega
      simp at h8 ha
      simp only [kyC] at hr
      simp [b543_1, h0, h1, h2, h8, SlR.lenV h, hlt', ha, r0, w1, hnle, hr, stc3, ldc3b, ldc3c, w2, w3, skip]
    · obtain ⟨m, rfl⟩ : ∃ m, i = m + 1 := ⟨i - 1, by omega⟩
      obtain ⟨q, off, ver, ha, hr, r0, _, _⟩ := Kr.at h (j := m) (by omega)
      obtain ⟨b1, b2, b3⟩ := V.r m (by omega)
      have w2 : IntKind.wrap .i64 (ky ks m).2.1 = (ky ks m).2.1 := wrap64 (by omega)
      have w3 : IntKind.wrap .i64 (ky ks m).2.2 = (ky ks m).2.2 := wrap64 (by omega)
      have w1 : IntKind.wrap .i64 (ky ks m).1 = (ky ks m).1 := wrap64 (by omega)
      have e5 : IntKind.wrap .i64 (((m + 1 : Nat) : Int) - 1) = (m : Int) := by rw [wrap64 (by omega)]; omega
      have z1 : (((m + 1 : Nat) : Int) == 0) = false := by rw [beq_eq_false_iff_ne]; omega
      have hm1 : m + 1 ≠ 0 := by omega
      simp only [kyC] at hr
      by_cases hn : m + 1 = ks.length
      · have hnl : ¬ (((m + 1 : Nat) : Int) < ks.length) := by omega
        have z2 : (((m + 1 : Nat) : Int) == ks.length) = true := by rw [beq_iff_eq]; omega
        have hmx : (if (m : Int) > 0 then (m : Int) else 0) = (m : Int) := by split <;> omega
        have hkl : ks.length - 1 = m := by omega
        have hnl2 : ¬ (m + 1 < ks.length) := by omega
        have hmx2 : (if 0 < m then (m : Int) else 0) = (m : Int) := by split <;> omega
        rw [if_neg hm1, if_pos hn, hkl]
        clear hn hkl hnl2
        simp [b543_1, h0, h1, h2, h8, SlR.lenV h, hnl, z1, z2, e5, hmx, hmx2, ha, hr, stc3, ldc3b, ldc3c, w2, w3, skip, -Int.natCast_add]
      · have hlt : ((m + 1 : Nat) : Int) < ks.length := by omega
        have z2 : (((m + 1 : Nat) : Int) == ks.length) = false := by rw [beq_eq_false_iff_ne]; omega
        obtain ⟨q', off', ver', ha', hr', r0', _, _⟩ := Kr.at h (j := m + 1) (by omega)
        obtain ⟨b1', b2', b3'⟩ := V.r (m + 1) (by omega)
        have w1' : IntKind.wrap .i64 (ky ks (m + 1)).1 = (ky ks (m + 1)).1 := wrap64 (by omega)
        have w2' : IntKind.wrap .i64 (ky ks (m + 1)).2.1 = (ky ks (m + 1)).2.1 := wrap64 (by omega)
        have w3' : IntKind.wrap .i64 (ky ks (m + 1)).2.2 = (ky ks (m + 1)).2.2 := wrap64 (by omega)
        have a3 := V.s m (by omega)
        have a4 := c2 m (by omega)
        have a5 := c3 (by omega)
        have hnle : ¬ (ky ks (m + 1)).1 ≤ t := by omega
        have w4 : IntKind.wrap .i64 (t - (ky ks m).1) = t - (ky ks m).1 := wrap64 (by omega)
        have w5 : IntKind.wrap .i16 ((ky ks (m + 1)).1 - (ky ks m).1) = (ky ks (m + 1)).1 - (ky ks m).1 := wrap16 (by omega)
        have w6 : IntKind.wrap .i64 ((ky ks (m + 1)).1 - (ky ks m).1) = (ky ks (m + 1)).1 - (ky ks m).1 := wrap64 (by omega)
        have hw := shV_ok (e := e) (a := t - (ky ks m).1) (s := (ky ks (m + 1)).1 - (ky ks m).1) (by omega) (by omega) (by omega)
        have k1 := call579 (pu := true) (H := H) (e := e) (a := t - (ky ks m).1) (s := (ky ks (m + 1)).1 - (ky ks m).1) he (by omega) (by omega) (by omega) (by omega)
        have k2 := call580 (pu := true) (H := H) b2 b2' hw
        have k3 := call580 (pu := true) (H := H) b3 b3' hw
        rw [if_neg hm1, if_neg hn]
        simp only [plW, show m + 1 - 1 = m from rfl]
        simp only [kyC] at hr'
        simp [b543_1, h0, h1, h2, h8, SlR.lenV h, hlt, ha', r0', w1', hnle, z1, z2, e5, ha, hr, hr', stc3, ldc3a, ldc3b, ldc3c, w1, w2, w3, w2', w3', w4, w5, w6, k1, k2, k3, -Int.natCast_add]
theorem call538 {pu : Bool} {H : Heap} {y : Value} {ks : List Ky} {e t : Int} (h : SlR H y 3 ks.length (kysC ks)) (V : TkV ks) (he : 0 ≤ e ∧ e ≤ 3) (ht : 0 ≤ t ∧ t ≤ 200) :
    Call tab pu 538 [y, .int .i64 e, .int .i64 t] H = some (tup [.int .i64 (plc ks e t).1, .int .i64 (plc ks e t).2], H) := by
  refine Call_wp t538 (.inr rfl) rfl ?_
  have n1 := V.n1
  have n20 := V.n20
  obtain ⟨c1, c2, c3⟩ := ckK_prop (ks := ks) (t := t) (k := ks.length)
  unfold plc
  generalize ckK ks t ks.length = c at *
  simp [c538, k538]
  refine WK_loop (fun i e' G => e' 0 = y ∧ e' 1 = .int .i64 e ∧ e' 2 = .int .i64 t ∧ e' 8 = .int .i64 i ∧ H = G) (c - 1) ?_ (Nat.zero_le _) ⟨by simp, by simp, by simp, by simp, rfl⟩
  rintro i e' _ _ hi ⟨h0, h1, h2, h8, rfl⟩
  have e9 : IntKind.wrap .i64 ((i : Int) + 1) = ((i + 1 : Nat) : Int) := by rw [wrap64 (by omega)]; omega
  obtain ⟨q, off, ver, ha, _, r0, r1, r2⟩ := Kr.at h (j := i) (by omega)
  obtain ⟨b1, b2, b3⟩ := V.r i (by omega)
  have w1 : IntKind.wrap .i64 (ky ks i).1 = (ky ks i).1 := wrap64 (by omega)
  have w2 : IntKind.wrap .i64 (ky ks i).2.1 = (ky ks i).2.1 := wrap64 (by omega)
  have w3 : IntKind.wrap .i64 (ky ks i).2.2 = (ky ks i).2.2 := wrap64 (by omega)
  by_cases hic : i < c - 1
  · obtain ⟨q', off', ver', ha', _, r0', _, _⟩ := Kr.at h (j := i + 1) (by omega)
    obtain ⟨b1', _⟩ := V.r (i + 1) (by omega)
    have w1' : IntKind.wrap .i64 (ky ks (i + 1)).1 = (ky ks (i + 1)).1 := wrap64 (by omega)
    have hle := c2 (i + 1) (by omega)
    have hlt : ((i + 1 : Nat) : Int) < ks.length := by omega
    simp [b538_1, h0, h1, h2, h8, e9, SlR.lenV h, hlt, ha', r0', w1', hle, -Int.natCast_add]
    exact hic
  · obtain rfl : i = c - 1 := by omega
    by_cases hn : c - 1 + 1 = ks.length
    · have hnl : ¬ (((c - 1 + 1 : Nat) : Int) < ks.length) := by omega
      have z2 : (((c - 1 + 1 : Nat) : Int) == ks.length) = true := by rw [beq_iff_eq]; omega
      have hval : (if c = 0 then ((ky ks 0).2.1, (ky ks 0).2.2) else if c = ks.length then ((ky ks (ks.length - 1)).2.1, (ky ks (ks.length - 1)).2.2) else (btw (ky ks (c - 1)).2.1 (ky ks c).2.1 (plW ks e t c), btw (ky ks (c - 1)).2.2 (ky ks c).2.2 (plW ks e t c))) = ((ky ks (c - 1)).2.1, (ky ks (c - 1)).2.2) := by
        by_cases hc0 : c = 0
        · rw [if_pos hc0, hc0]
        · have hcn : c = ks.length := by omega
          rw [if_neg hc0, if_pos hcn, ← hcn]
      rw [hval]
      simp [b538_1, h0, h1, h2, h8, e9, SlR.lenV h, hnl, z2, ha, r1, r2, w2, w3, skip, -Int.natCast_add]
    · have hlt : ((c - 1 + 1 : Nat) : Int) < ks.length := by omega
      have z2 : (((c - 1 + 1 : Nat) : Int) == ks.length) = false := by rw [beq_eq_false_iff_ne]; omega
      obtain ⟨q', off', ver', ha', _, r0', r1', r2'⟩ := Kr.at h (j := c - 1 + 1) (by omega)
      obtain ⟨b1', b2', b3'⟩ := V.r (c - 1 + 1) (by omega)
      have w1' : IntKind.wrap .i64 (ky ks (c - 1 + 1)).1 = (ky ks (c - 1 + 1)).1 := wrap64 (by omega)
      have w2' : IntKind.wrap .i64 (ky ks (c - 1 + 1)).2.1 = (ky ks (c - 1 + 1)).2.1 := wrap64 (by omega)
      have w3' : IntKind.wrap .i64 (ky ks (c - 1 + 1)).2.2 = (ky ks (c - 1 + 1)).2.2 := wrap64 (by omega)
      have a3 := V.s (c - 1) (by omega)
      have hnle : ¬ (ky ks (c - 1 + 1)).1 ≤ t := by
        by_cases hc0 : c = 0
        · subst hc0
          have := c3 (by omega)
          simp only [show (0 : Nat) - 1 = 0 from rfl] at a3 ⊢
          omega
        · have := c3 (by omega)
          rw [show c - 1 + 1 = c by omega]; omega
      by_cases hle : t ≤ (ky ks (c - 1)).1
      · have hval : (if c = 0 then ((ky ks 0).2.1, (ky ks 0).2.2) else if c = ks.length then ((ky ks (ks.length - 1)).2.1, (ky ks (ks.length - 1)).2.2) else (btw (ky ks (c - 1)).2.1 (ky ks c).2.1 (plW ks e t c), btw (ky ks (c - 1)).2.2 (ky ks c).2.2 (plW ks e t c))) = ((ky ks (c - 1)).2.1, (ky ks (c - 1)).2.2) := by
          by_cases hc0 : c = 0
          · rw [if_pos hc0, hc0]
          · have a4 := c2 (c - 1) (by omega)
            have e1 : t - (ky ks (c - 1)).1 = 0 := by omega
            rw [show c - 1 + 1 = c by omega] at a3
            have : plW ks e t c = 0 := by unfold plW; rw [e1]; exact shV_zero (by omega)
            rw [if_neg hc0, if_neg (by omega), this, btw_zero, btw_zero]
        rw [hval]
        simp [b538_1, h0, h1, h2, h8, e9, SlR.lenV h, hlt, ha', r0', w1', hnle, z2, ha, r0, r1, r2, w1, w2, w3, hle, -Int.natCast_add]
      · have hc0 : c ≠ 0 := fun hc => by
          subst hc
          have := c3 (by omega)
          simp only [show (0 : Nat) - 1 = 0 from rfl] at hle
          omega
        have hcc : c - 1 + 1 = c := by omega
        have hval : (if c = 0 then ((ky ks 0).2.1, (ky ks 0).2.2) else if c = ks.length then ((ky ks (ks.length - 1)).2.1, (ky ks (ks.length - 1)).2.2) else (btw (ky ks (c - 1)).2.1 (ky ks c).2.1 (plW ks e t c), btw (ky ks (c - 1)).2.2 (ky ks c).2.2 (plW ks e t c))) = (btw (ky ks (c - 1)).2.1 (ky ks (c - 1 + 1)).2.1 (shV e (t - (ky ks (c - 1)).1) ((ky ks (c - 1 + 1)).1 - (ky ks (c - 1)).1)), btw (ky ks (c - 1)).2.2 (ky ks (c - 1 + 1)).2.2 (shV e (t - (ky ks (c - 1)).1) ((ky ks (c - 1 + 1)).1 - (ky ks (c - 1)).1))) := by
          rw [if_neg hc0, if_neg (by omega), hcc]; rfl
        rw [hval]
        have w4 : IntKind.wrap .i64 (t - (ky ks (c - 1)).1) = t - (ky ks (c - 1)).1 := wrap64 (by omega)
        have w6 : IntKind.wrap .i64 ((ky ks (c - 1 + 1)).1 - (ky ks (c - 1)).1) = (ky ks (c - 1 + 1)).1 - (ky ks (c - 1)).1 := wrap64 (by omega)
        have hw := shV_ok (e := e) (a := t - (ky ks (c - 1)).1) (s := (ky ks (c - 1 + 1)).1 - (ky ks (c - 1)).1) (by omega) (by omega) (by omega)
        have k1 := call576 (pu := true) (H := H) (e := e) (a := t - (ky ks (c - 1)).1) (s := (ky ks (c - 1 + 1)).1 - (ky ks (c - 1)).1) he (by omega) (by omega) (by omega) (by omega)
        have k2 := call577 (pu := true) (H := H) b2 b2' hw
        have k3 := call577 (pu := true) (H := H) b3 b3' hw
        simp [b538_1, h0, h1, h2, h8, e9, SlR.lenV h, hlt, ha', r0', r1', r2', w1', w2', w3', hnle, z2, ha, r0, r1, r2, w1, w2, w3, hle, w4, w6, k1, k2, k3, -Int.natCast_add]
def ptFr (s : Pt) (t : Int) : List Int := shF s.f (plc s.ks s.e t).1 (plc s.ks s.e t).2
theorem ptFr_W {s : Pt} {t : Int} : FrW (ptFr s t) := dotsF_W
theorem okPt_V {s : Pt} (h : okPt s = true) : okF s.f = true ∧ TkV s.ks ∧ 0 ≤ s.e ∧ s.e ≤ 3 := by
  simp only [okPt, Bool.and_eq_true] at h
  have := h.2
  simp [in1] at this
  exact ⟨h.1.1, okTk_V h.1.2, this⟩
theorem PtW.fr {s : Pt} (h : PtW s) : FrW s.f := ⟨s.len, h.ok⟩
theorem call427 {pu : Bool} {H : Heap} {s : Pt} {y : Value} {t : Int} (hy : Kr H y s) (hw : PtW s) (hk : okPt s = true) (ht : 0 ≤ t ∧ t ≤ 200) : Call tab pu 427 [agg (ptC s y), .int .i64 t] H = some (iv .u16 (ptFr s t), H) := by
  refine Call_wp t427 (.inr rfl) rfl ?_
  obtain ⟨h1, V, he⟩ := okPt_V hk
  have hl := s.len
  have w1 : IntKind.wrap .i64 s.e = s.e := wrap64 (by omega)
  have c1 := call543 (pu := true) hy V he ht
  obtain ⟨p1, p2⟩ := plc_ok (e := s.e) (t := t) V
  have c2 := call358 (pu := true) (H := H) (dx := (plc s.ks s.e t).1) (dy := (plc s.ks s.e t).2) hw.fr h1 (by omega) (by omega)
  have e1 : shF s.f (plc s.ks s.e t).1 (plc s.ks s.e t).2 = ptFr s t := rfl
  rw [e1] at c2
  have s3 := stc_zr (k := .u16) (n := 12) (l := ptFr s t) ptFr_W.len
  simp [c427, k427, ptC, ldP0 hl, ldP12 hl, ldP13 hl, w1, c1, c2, zs_cs, agg_cs, s3, ptFr_W.len]
theorem call423 {pu : Bool} {H : Heap} {q off ver : Nat} {s : Pt} {y : Value} {t : Int} (hr : PtR H q off ver s y) (hw : PtW s) (hk : okPt s = true) (ht : 0 ≤ t ∧ t ≤ 200) : Call tab pu 423 [adr q off ver, .int .i64 t] H = some (iv .u16 (ptFr s t), H) := by
  refine Call_wp t423 (.inr rfl) rfl ?_
  obtain ⟨h1, V, he⟩ := okPt_V hk
  have w1 : IntKind.wrap .i64 s.e = s.e := wrap64 (by omega)
  have c1 := call538 (pu := true) hr.rk V he ht
  obtain ⟨p1, p2⟩ := plc_ok (e := s.e) (t := t) V
  have c2 := call355 (pu := true) (H := H) (dx := (plc s.ks s.e t).1) (dy := (plc s.ks s.e t).2) hw.fr hr.rf (by omega) (by omega)
  have e1 : shF s.f (plc s.ks s.e t).1 (plc s.ks s.e t).2 = ptFr s t := rfl
  rw [e1] at c2
  have s3 := stc_zr (k := .u16) (n := 12) (l := ptFr s t) ptFr_W.len
  simp [c423, k423, hr.re, hr.ry, w1, c1, c2, zs_cs, agg_cs, s3, ptFr_W.len]
/-- The frame of parts at a tick. -/
def prF (l : List Pt) (t : Int) (k : Nat) : List Int := itN (fun i a => mixF orI a (ptFr (at0 l i) t)) (zr 12 0) k
theorem prF_zero {l : List Pt} {t : Int} : prF l t 0 = zr 12 0 := itN_zero
theorem prF_succ {l : List Pt} {t : Int} {k : Nat} : prF l t (k + 1) = mixF orI (prF l t k) (ptFr (at0 l k) t) := itN_succ
theorem prF_len {l : List Pt} {t : Int} {k : Nat} : (prF l t k).length = 12 := by
  cases k with
  | zero => rw [prF_zero]; simp
  | succ k => rw [prF_succ]; exact mixF_length
theorem okPts_get {l : List Pt} (h : okPts l = true) {i : Nat} (hi : i < l.length) : okPt (at0 l i) = true := allN_get (p := fun i => okPt (at0 l i)) h hi
theorem call436 {pu : Bool} {H : Heap} {x : Value} {l : List Pt} {t : Int} (hs : PtS H x l) (hw : PtsW l) (hk : okPts l = true) (ht : 0 ≤ t ∧ t ≤ 200) : Call tab pu 436 [x, .int .i64 t] H = some (iv .u16 (prF l t l.length), H) := by
  refine Call_wp t436 (.inr rfl) rfl ?_
  have hn := hw.n
  have hz12 := stc_zr (k := .u16) (n := 12) (l := zr 12 0) (by simp)
  simp [c436, k436, fill, zs_cs, agg_cs, hz12, hs.lenV]
  refine WP_forH 11 l.length _ rfl (by omega) (fun i e => e 1 = .int .i64 t ∧ e 4 = iv .u16 (zr 12 0) ∧ e 5 = iv .u16 (prF l t i) ∧ e 9 = x ∧ e 10 = .int .i64 l.length) ?_ ?_ (by simp) ⟨by simp, by simp, by simp [prF_zero], by simp, by simp⟩
  · rintro i e hi hii e4 h11 ⟨h1, h4, h5, h9, h10⟩
    obtain ⟨q, off, ver, y, ha, hr, hy⟩ := hs.get hi
    have c1 := call427 (pu := true) hy (hw.w _ (at0_mem hi)) (okPts_get hk hi) ht
    have hpl := prF_len (l := l) (t := t) (k := i)
    have c2 := call338 (pu := true) (H := H) hpl (ptFr_W (s := at0 l i) (t := t)).len
    rw [← prF_succ] at c2
    have hl := (at0 l i).len
    have hz : (zr 12 0).length = 12 := rfl
    simp only [ptC] at hr c1
    have st := stPall (a := .int .i8 0) (b := .slice none 0 0) (a' := .int .i8 (at0 l i).e) (b' := y) hz hl
    have hst3 : stc (iv .u16 (prF l t i)) 0 (cs .u16 (prF l t (i + 1))) = some (iv .u16 (prF l t (i + 1))) := stc_all (by rw [prF_len, prF_len])
    simp [b436_1, h11, h1, h4, h5, h9, h10, hii, z14, ptZ, ha, hr, ptT_len hl, st, hpl, ldPall hl, c1, c2, prF_len, hst3, e4]
  · rintro e h11 ⟨h1, h4, h5, h9, h10⟩
    have s3 := stc_zr (k := .u16) (n := 12) (l := prF l t l.length) prF_len
    simp [b436_1, h11, h10, h4, h5, prF_len, s3, agg_cs]
theorem call433 {pu : Bool} {H : Heap} {x : Value} {l : List Pt} {t : Int} (hs : PtS H x l) (hw : PtsW l) (hk : okPts l = true) (ht : 0 ≤ t ∧ t ≤ 200) : Call tab pu 433 [x, .int .i64 t] H = some (iv .u16 (prF l t l.length), H) := by
  refine Call_wp t433 (.inr rfl) rfl ?_
  have hn := hw.n
  obtain ⟨G1, hG1⟩ : ∃ G1, G1 = H ++ [(⟨cs .u16 (zr 12 0), 1, 0, false⟩ : Blk)] := ⟨_, rfl⟩
  have p1 : Pre H G1 := by rw [hG1]; exact Pre.one
  have g1 : G1[H.length]? = some ⟨cs .u16 (prF l t 0), 1, 0, false⟩ := by rw [hG1, prF_zero]; simp
  have hwr : wr H.length false G1 H.length 0 0 (cs .u16 (zr 12 0)) = some G1 := by
    rw [hG1, wr_last (b := ⟨cs .u16 (zr 12 0), 1, 0, false⟩) rfl rfl (Nat.le_refl _) (by simp)]
  simp [c433, k433, fill, zs_cs, agg_cs, ← hG1, hwr, wbOf]
  refine WP_count 6 l.length _ rfl (fun i e G => e 0 = x ∧ e 1 = .int .i64 t ∧ e 4 = iv .u16 (zr 12 0) ∧ e 5 = adr H.length 0 0 ∧ G[H.length]? = some ⟨cs .u16 (prF l t i), 1, 0, false⟩ ∧ Pre H G) (by omega) ?_ ?_ (by simp) ⟨by simp, by simp, by simp, by simp, g1, p1⟩
  · rintro i e G _ hi hii e4 h6 ⟨h0, h1, h4, h5, gC, hPG⟩
    obtain ⟨q, off, ver, y, ha, hr, hy⟩ := (hs.pre hPG).get hi
    have c1 := call423 (pu := true) (PtR.of hr hy) (hw.w _ (at0_mem hi)) (okPts_get hk hi) ht
    obtain ⟨Ga, hGa⟩ : ∃ Ga, Ga = G ++ [(⟨cs .u16 (zr 12 0), 1, 0, false⟩ : Blk)] := ⟨_, rfl⟩
    obtain ⟨Gb, hGb⟩ : ∃ Gb, Gb = G ++ [(⟨cs .u16 (ptFr (at0 l i) t), 1, 0, false⟩ : Blk)] := ⟨_, rfl⟩
    have pb : Pre G Gb := by rw [hGb]; exact Pre.one
    have hHG : H.length ≤ G.length := hPG.len
    have hwa : wr H.length false Ga G.length 0 0 (cs .u16 (ptFr (at0 l i) t)) = some Gb := by
      rw [hGa, wr_last (b := ⟨cs .u16 (zr 12 0), 1, 0, false⟩) rfl rfl hHG (by simp [ptFr_W.len]), hGb]
    have hlC := (List.getElem?_eq_some_iff.1 gC).1
    have hpl := prF_len (l := l) (t := t) (k := i)
    have gCb : Gb[H.length]? = some ⟨cs .u16 (prF l t i), 1, 0, false⟩ := by rw [pb.get hlC]; exact gC
    have rC : rd Gb H.length 0 0 12 = some (cs .u16 (prF l t i)) := by
      rw [rd_at gCb rfl (by simp [hpl])]; simp only [List.drop_zero]; rw [List.take_of_length_le (by simp [hpl])]
    have rN : rd Gb G.length 0 0 12 = some (cs .u16 (ptFr (at0 l i) t)) := by rw [hGb]; exact rd_last rfl (by simp [ptFr_W.len])
    have c3 := call337 (pu := true) hpl ptFr_W.len rC rN
    rw [← prF_succ] at c3
    obtain ⟨Gd, hGd⟩ : ∃ Gd, Gd = Gb.set H.length ⟨cs .u16 (prF l t (i + 1)), 1, 0, false⟩ := ⟨_, rfl⟩
    have hwd : wr H.length false Gb H.length 0 0 (cs .u16 (prF l t (i + 1))) = some Gd := by
      rw [wr_at gCb rfl rfl (by simp [may]) (by simp [prF_len]), hGd]
      have hdn : (cs .u16 (prF l t i)).drop 12 = [] := List.drop_eq_nil_of_le (by simp [prF_len])
      simp only [splice, List.take_zero, List.nil_append, Nat.zero_add, length_cs, prF_len, hdn, List.append_nil]
    simp [b433_1, h6, h0, h1, h4, h5, hs.lenV, hii, ha, c1, zs_cs, ← hGa, hwa, wbOf, ptFr_W.len, c3, prF_len, hwd, e4]
    exact ⟨by rw [hGd]; exact get_set gCb, by rw [hGd]; exact (hPG.trans pb).set (Nat.le_refl _)⟩
  · rintro e G _ h6 ⟨h0, h1, h4, h5, gC, hPG⟩
    have hpl := prF_len (l := l) (t := t) (k := l.length)
    have rC : rd G H.length 0 0 12 = some (cs .u16 (prF l t l.length)) := by
      rw [rd_at gC rfl (by simp [hpl])]; simp only [List.drop_zero]; rw [List.take_of_length_le (by simp [hpl])]
    have s3 := stc_zr (k := .u16) (n := 12) (l := prF l t l.length) hpl
    simp [b433_1, h6, h0, h4, h5, hs.lenV, rC, s3, hpl, hPG.take, agg_cs]
def faC (l : List Pt) (b : Bool) : Int := if okPts l = true then if b = true then if 6 < l.length then 3 else 0 else 2 else 1
theorem faC_ok {l : List Pt} {b : Bool} (h : faC l b = 0) : okPts l = true ∧ b = true ∧ l.length ≤ 6 := by
  unfold faC at h
  split at h
  · rename_i h1
    split at h
    · rename_i h2
      split at h
      · omega
      · exact ⟨h1, h2, by omega⟩
    · omega
  · omega
structure PtsA (l : List Pt) : Prop where
  w : ∀ s ∈ l, PtW s
  n : l.length ≤ 9223372036854775807
  r : ∀ s ∈ l, s.ks.length ≤ 9223372036854775807
def ms3 (c : Int) (i : Nat) : Value := if i % 3 = 0 then .int .i16 (IntKind.wrap .i16 (c + i)) else .int .i8 (IntKind.wrap .i8 (c + i))
theorem ms3_a {c : Int} {i : Nat} (h : i % 3 = 0) : ms3 c i = .int .i16 (IntKind.wrap .i16 (c + i)) := if_pos h
theorem ms3_b {c : Int} {i : Nat} (h : i % 3 ≠ 0) : ms3 c i = .int .i8 (IntKind.wrap .i8 (c + i)) := if_neg h
theorem ms3_flat {c : Int} {i : Nat} {n : Nat} : old0 n (ms3 c i) = true := by
  unfold ms3; split <;> exact old0_int
theorem mark429 {G : Heap} {b ver n cap : Nat} {ws : List Value} {c : Int} (hg : G[b]? = some ⟨ws, 3, ver, false⟩) (hD : n * 3 ≤ ws.length) (hn : n ≤ 1000000) (hc0 : 0 ≤ c) (hc1 : c ≤ 1000000000000000) :
    ∃ ws', ws'.length = ws.length ∧ Call tab false 429 [slc b 0 ver n cap, .int .i64 c] G = some (.int .i64 (c + (n * 3 : Nat)), G.set b ⟨ws', 3, ver, false⟩) := by
  refine ⟨mkC (ms3 c) ws (n * 3), mkC_length (by omega), Call_wp t429 (.inl rfl) rfl ?_⟩
  simp [c429, k429]
  refine WP_count 5 n n rfl (fun i e G' => e 0 = slc b 0 ver n cap ∧ e 1 = .int .i64 (c + (i * 3 : Nat)) ∧ G' = G.set b ⟨mkC (ms3 c) ws (i * 3), 3, ver, false⟩) (by omega) ?_ ?_ (by simp) ⟨by simp, by simp, by rw [Nat.zero_mul, mkC_zero]; exact (set_self hg).symm⟩
  · rintro i e _ _ hi hii e4 h5 ⟨h0, h1, rfl⟩
    have q0 := mk_wr (n0 := G.length) (ver := ver) (esz := 3) (k := i * 3) (ms := ms3 c) (D := ws) ⟨_, hg⟩ (by omega) ms3_flat
    have q1 := mk_wr (n0 := G.length) (ver := ver) (esz := 3) (k := i * 3 + 1) (ms := ms3 c) (D := ws) ⟨_, hg⟩ (by omega) ms3_flat
    have q2 := mk_wr (n0 := G.length) (ver := ver) (esz := 3) (k := i * 3 + 2) (ms := ms3 c) (D := ws) ⟨_, hg⟩ (by omega) ms3_flat
    rw [ms3_a (by omega)] at q0
    rw [ms3_b (by omega)] at q1 q2
    have w1 : IntKind.wrap .i64 (c + (i * 3 : Nat) + 1) = c + (i * 3 + 1 : Nat) := by rw [wrap64 (by omega)]; omega
    have w2 : IntKind.wrap .i64 (c + (i * 3 + 1 : Nat) + 1) = c + (i * 3 + 2 : Nat) := by rw [wrap64 (by omega)]; omega
    have w3 : IntKind.wrap .i64 (c + (i * 3 + 2 : Nat) + 1) = c + ((i + 1) * 3 : Nat) := by rw [wrap64 (by omega)]; omega
    have e5 : i * 3 + 1 + 1 = i * 3 + 2 := rfl
    have e6 : (i + 1) * 3 = i * 3 + 2 + 1 := by omega
    simp (disch := decide) [b429_1, h5, h0, h1, hii, at_nat hi, q0, q1, q2, wbOf, w1, w2, w3, e4, e6, -Int.natCast_add, -Int.natCast_mul]
  · rintro e _ _ h5 ⟨h0, h1, rfl⟩
    simp [b429_1, h5, h0, h1]
/-- A copy of parts while marks are being written over it. -/
structure MkP (G G' : Heap) (b ver lo hi n : Nat) (y : Nat → Value) (m : Nat → Nat) : Prop where
  len : G'.length = G.length
  fr : ∀ j, j < lo ∨ hi ≤ j → G'[j]? = G[j]?
  inb : lo ≤ b ∧ b < hi
  out : ∃ vs, G'[b]? = some ⟨vs, 14, ver, false⟩ ∧ n * 14 ≤ vs.length ∧ ∀ i, i < n → vs[i * 14 + 13]? = some (y i)
  row : ∀ i, i < n → ∃ b' ver' cap' ws, y i = slc b' 0 ver' (m i) cap' ∧ lo ≤ b' ∧ b' < hi ∧ b' ≠ b ∧ G'[b']? = some ⟨ws, 3, ver', false⟩ ∧ m i * 3 ≤ ws.length
theorem MkP.cell {G G' : Heap} {b ver lo hi n n0 : Nat} {y : Nat → Value} {m : Nat → Nat} (h : MkP G G' b ver lo hi n y m) {k : Nat} {v : Value} (hk : k < n * 14) (h4 : k % 14 ≠ 13) (hv : old0 0 v = true) :
    ∃ G2, wr n0 true G' b k ver [v] = some G2 ∧ MkP G G2 b ver lo hi n y m := by
  obtain ⟨vs, hg, hl, hy⟩ := h.out
  refine ⟨_, wr_at hg rfl rfl (by simp [may, hv]) (by simp; omega), by simp [h.len], fun j hj => ?_, h.inb, ⟨_, get_set hg, ?_, fun i hi => ?_⟩, fun i hi => ?_⟩
  · have := h.inb
    rw [List.getElem?_set_ne (by omega)]
    exact h.fr j hj
  · simp only []
    rw [splice_one (by omega)]
    simpa using hl
  · simp only []
    rw [splice_one (by omega), List.getElem?_set_ne (by omega)]
    exact hy i hi
  · obtain ⟨b', ver', cap', ws, h1, h2, h3, h4, h5, h6⟩ := h.row i hi
    exact ⟨b', ver', cap', ws, h1, h2, h3, h4, by rw [List.getElem?_set_ne (by omega)]; exact h5, h6⟩
theorem MkP.rows {G G' : Heap} {b ver lo hi n : Nat} {y : Nat → Value} {m : Nat → Nat} (h : MkP G G' b ver lo hi n y m) {b' ver' : Nat} {ws ws' : List Value} (hb : lo ≤ b' ∧ b' < hi) (hne : b' ≠ b) (hg : G'[b']? = some ⟨ws, 3, ver', false⟩) (hw : ws'.length = ws.length) :
    MkP G (G'.set b' ⟨ws', 3, ver', false⟩) b ver lo hi n y m := by
  refine ⟨by simp [h.len], fun j hj => ?_, h.inb, ?_, fun i hi => ?_⟩
  · rw [List.getElem?_set_ne (by omega)]
    exact h.fr j hj
  · obtain ⟨vs, h1, h2⟩ := h.out
    exact ⟨vs, by rw [List.getElem?_set_ne hne]; exact h1, h2⟩
  · obtain ⟨b2, ver2, cap2, ws2, h1, h2, h3, h4, h5, h6⟩ := h.row i hi
    by_cases hb2 : b' = b2
    · subst hb2
      rw [hg] at h5
      cases h5
      exact ⟨b', ver', cap2, ws', h1, h2, h3, h4, get_set hg, by rw [hw]; exact h6⟩
    · exact ⟨b2, ver2, cap2, ws2, h1, h2, h3, h4, by rw [List.getElem?_set_ne hb2]; exact h5, h6⟩
def mkQ (m : Nat → Nat) (i : Nat) : Nat := itN (fun i v => v + 13 + m i * 3) 0 i
theorem mkQ_succ {m : Nat → Nat} {i : Nat} : mkQ m (i + 1) = mkQ m i + 13 + m i * 3 := itN_succ
theorem mkQ_le {m : Nat → Nat} {n i : Nat} (hm : ∀ i, i < n → m i ≤ 1000000) (h : i ≤ n) : mkQ m i ≤ i * 3000013 := by
  induction i with
  | zero => simp [mkQ, itN_zero]
  | succ i ih =>
    have h1 := ih (by omega)
    have h2 := hm i (by omega)
    rw [mkQ_succ]; omega
theorem mark269 {G : Heap} {b ver lo hi n cap : Nat} {y : Nat → Value} {m : Nat → Nat} (h : MkP G G b ver lo hi n y m) (hn : n ≤ 1000000) (hm : ∀ i, i < n → m i ≤ 1000000) :
    ∃ r, Call tab false 269 [slc b 0 ver n cap, .int .i64 101] G = some r ∧ ∃ c G', r = (.int .i64 c, G') ∧ 0 ≤ c ∧ MkP G G' b ver lo hi n y m := by
  refine Call_ex t269 (.inl rfl) rfl ?_
  simp [c269, k269]
  refine WP_count 5 n n rfl (fun i e G' => e 0 = slc b 0 ver n cap ∧ e 1 = .int .i64 (101 + (mkQ m i : Nat)) ∧ MkP G G' b ver lo hi n y m) (by omega) ?_ ?_ (by simp) ⟨by simp, by simp [mkQ, itN_zero], h⟩
  · rintro i e G' _ hin hii e4 h5 ⟨h0, h1, hI⟩
    have b1 := mkQ_le hm (i := i) (by omega)
    have b2 := hm i hin
    have e5 := mkQ_succ (m := m) (i := i)
    generalize hM : mkQ m i = M at *
    simp [b269_2, h5, h0, hii]
    refine WP_count 6 12 12 rfl (fun j e G' => e 0 = slc b 0 ver n cap ∧ e 5 = .int .i64 i ∧ e 1 = .int .i64 (101 + (M + j : Nat)) ∧ MkP G G' b ver lo hi n y m) (by omega) ?_ ?_ (by simp) ⟨by simp [h0], by simp [h5], by simp [h1], hI⟩
    · rintro j e G' _ hj hjj e6 h6 ⟨h0, h5, h1, hI⟩
      obtain ⟨G1, q1, I1⟩ := hI.cell (n0 := G.length) (k := i * 14 + j) (v := .int .u16 (IntKind.wrap .u16 (101 + ((M + j : Nat) : Int)))) (by omega) (by omega) old0_int
      have u1 : IntKind.wrap .i64 (101 + ((M + j : Nat) : Int) + 1) = 101 + ((M + (j + 1) : Nat) : Int) := by rw [wrap64 (by omega)]; omega
      simp [b269_1, h6, h0, h5, h1, hjj, hj, at_nat hin, q1, wbOf, u1, e6, -Int.natCast_add, -Int.natCast_mul]
      exact I1
    · rintro e G' _ h6 ⟨h0, h5, h1, hI⟩
      obtain ⟨G4, q4, I4⟩ := hI.cell (n0 := G.length) (k := i * 14 + 12) (v := .int .i8 (IntKind.wrap .i8 (101 + ((M + 12 : Nat) : Int)))) (by omega) (by omega) old0_int
      obtain ⟨b', ver', cap', ws, r1, r2, r3, r4, r5, r6⟩ := I4.row i hin
      obtain ⟨ws', w1, w2⟩ := mark429 (cap := cap') (c := 101 + ((M + 13 : Nat) : Int)) r5 r6 b2 (by omega) (by omega)
      have I5 := I4.rows ⟨r2, r3⟩ r4 r5 w1
      obtain ⟨vs, o1, o2, o3⟩ := I4.out
      have hrd : rd G4 b (i * 14 + 13) ver 1 = some [slc b' 0 ver' (m i) cap'] := by
        rw [rd_at o1 rfl (by simp only []; omega)]
        have := o3 i hin
        rw [r1] at this
        obtain ⟨hlt, hv⟩ := List.getElem?_eq_some_iff.1 this
        simp only []
        rw [List.drop_eq_getElem_cons hlt, hv]; rfl
      have u4 : IntKind.wrap .i64 (101 + ((M + 12 : Nat) : Int) + 1) = 101 + ((M + 13 : Nat) : Int) := by rw [wrap64 (by omega)]; omega
      have u5 : 101 + ((M + 13 : Nat) : Int) + ((m i * 3 : Nat) : Int) = 101 + ((mkQ m (i + 1) : Nat) : Int) := by rw [e5]; omega
      rw [u5] at w2
      simp [b269_1, h6, h5, h0, h1, hii, at_nat hin, q4, hrd, w2, wbOf, u4, e4, -Int.natCast_add, -Int.natCast_mul]
      exact I5
  · rintro e G' _ h5 ⟨h0, h1, hI⟩
    simp [b269_2, h5, h0, h1]
    exact ⟨_, _, ⟨rfl, rfl⟩, by omega, by rw [List.take_of_length_le (by rw [hI.len]; exact Nat.le_refl _)]; exact hI⟩
theorem ptC_at13 {s : Pt} {y : Value} : (ptC s y)[13]? = some y := by
  have hl := s.len
  unfold ptC ptT
  rw [List.getElem?_append_right (by simp [hl])]
  simp [hl]
theorem mkP_of {lo : Nat} {G G' : Heap} {x : Value} {l : List Pt} (h : CqS G x l) (hb : CqB lo G x l) (p : Pre G G') :
    ∃ b ver cap y, x = slc b 0 ver l.length cap ∧ MkP G' G' b ver lo G.length l.length y (fun i => (at0 l i).ks.length) := by
  obtain ⟨b, ver, vs, rfl, hg, hl, h1, _⟩ := h
  obtain ⟨b2, ver2, vs2, e, hg2, hlo, h2⟩ := hb
  cases e
  rw [hg] at hg2
  cases hg2
  have hbG := (List.getElem?_eq_some_iff.1 hg).1
  refine ⟨b, ver, _, fun i => (vs[i * 14 + 13]?).getD (.slice none 0 0), rfl, rfl, fun _ _ => rfl, ⟨hlo, hbG⟩, ⟨vs, by rw [p.get hbG]; exact hg, by omega, fun i hi => ?_⟩, fun i hi => ?_⟩
  · obtain ⟨y, e1, _⟩ := h1 i hi
    have := elem_at (vs := vs) (esz := 14) (i := i) (o := 13) (by omega)
    rw [e1, ptC_at13] at this
    rw [← this]; rfl
  · obtain ⟨y, e1, hy⟩ := h1 i hi
    obtain ⟨y2, e2, ho⟩ := h2 i hi
    have hyy : y = y2 := by
      have := congrArg (fun l => l[13]?) (e1.symm.trans e2)
      simp only [ptC_at13] at this
      exact Option.some.inj this
    subst hyy
    have := elem_at (vs := vs) (esz := 14) (i := i) (o := 13) (by omega)
    rw [e1, ptC_at13] at this
    obtain ⟨b', ver', rfl, hg'⟩ := hy
    have hb' := (List.getElem?_eq_some_iff.1 hg').1
    rw [old0_slc] at ho
    have ho' : lo ≤ b' := by simpa using ho
    refine ⟨b', ver', (at0 l i).ks.length + roomN (at0 l i).ks.length, room (kysC (at0 l i).ks) (at0 l i).ks.length kyF, ?_, ho', hb', ?_, by rw [p.get hb']; exact hg', ?_⟩
    · rw [← this]; rfl
    · rintro rfl
      rw [hg] at hg'
      cases hg'
    · have := room_length (n := (at0 l i).ks.length) (vs := kysC (at0 l i).ks) (fc := kyF) (esz := 3) kysC_length rfl
      rw [this, Nat.add_mul]; omega
/-- What a function makes of parts: a list of its own, and a code. -/
def RsP (f : Nat) (extra : List Value) (l : List Pt) (eszR nR : Nat) (vsR : List Value) (c : Int) : Prop := ∀ (G : Heap) (y : Value), PtS G y l →
  ∃ r G' β, Call tab true f (y :: extra) G = some (tup [r, .int .i64 c], G') ∧ Pre G G' ∧ Own G' r β G.length eszR nR vsR
theorem lsx_parts {sp im eR mR hR wR : Nat} {extra : List Value} {H : Heap} {x : Value} {l : List Pt} {eszR nR : Nat} {vsR : List Value} {c : Int} {msR : Int → Nat → Value}
    (hs : PtS H x l) (hn : l.length ≤ 1000000) (hr : ∀ s ∈ l, s.ks.length ≤ 1000000)
    (hsp : RsP sp extra l eszR nR vsR c) (him : RsP im extra l eszR nR vsR c) (heq : EqF eR eszR nR vsR) (hmR : MkF mR eszR wR msR) (hhR : HdF hR eszR wR msR) (hnR : nR ≤ 1000000) :
    ∃ x1 G1 rs G1' x2 G2 ri G2' x3 G3 M G4 G5 x4 G6 r4 G7, Call tab true 221 [x, .bool false] H = some (x1, G1) ∧ Call tab true sp (x1 :: extra) G1 = some (tup [rs, .int .i64 c], G1') ∧
      Call tab true 221 [x, .bool false] G1' = some (x2, G2) ∧ Call tab true im (x2 :: extra) G2 = some (tup [ri, .int .i64 c], G2') ∧ Call tab true eR [ri, rs] G2' = some (.bool true, G2') ∧
      Call tab true 221 [x, .bool false] G2' = some (x3, G3) ∧ Call tab true 223 [x2, x3] G3 = some (.bool true, G3) ∧
      (Call tab false 269 [x2, .int .i64 101] G3).bind (elder H.length false G3) = some (.int .i64 M, G4) ∧ ¬ M < 0 ∧ Call tab true eR [ri, rs] G4 = some (.bool true, G4) ∧
      (Call tab false mR [ri, .int .i64 101] G4).bind (elder H.length false G4) = some (.int .i64 (101 + (nR * wR : Nat)), G5) ∧ Call tab true hR [ri, .int .i64 101] G5 = some (.int .i64 (101 + (nR * wR : Nat)), G5) ∧
      Call tab true 221 [x, .bool true] G5 = some (x4, G6) ∧ Call tab true im (x4 :: extra) G6 = some (tup [r4, .int .i64 c], G7) ∧ Call tab true eR [r4, rs] G7 = some (.bool true, G7) ∧
      Call tab true hR [ri, .int .i64 101] G7 = some (.int .i64 (101 + (nR * wR : Nat)), G7) ∧ Pre H G7 := by
  obtain ⟨x1, G1, q1, s1, p1, _⟩ := cq221 (pu := true) (flag := false) hs hn hr
  obtain ⟨rs, G1', βs, w1, p1', os⟩ := hsp G1 x1 s1
  have P1 := p1.trans p1'
  obtain ⟨x2, G2, q2, s2, p2, k2⟩ := cqB221 (pu := true) (flag := false) (hs.pre P1) hn hr
  obtain ⟨k2, kb⟩ := k2 rfl
  obtain ⟨ri, G2', βi, w2, p2', oi⟩ := him G2 x2 s2
  have P2 := (P1.trans p2).trans p2'
  have os2 := (os.pre p2).pre p2'
  have e1 := heq G2' ri rs oi.sl os2.sl
  obtain ⟨x3, G3, q3, s3, p3, k3⟩ := cq221 (pu := true) (flag := false) (hs.pre P2) hn hr
  have P3 := P2.trans p3
  have e2 := in223 (pu := true) (k2.pre (p2'.trans p3)) (k3 rfl) hn hr
  have os3 := os2.pre p3
  have oi3 := oi.pre p3
  obtain ⟨b, ver, cap, y, rfl, hI⟩ := mkP_of k2 kb (p2'.trans p3)
  obtain ⟨r, w3, M, G4, rfl, hM, hI4⟩ := mark269 (cap := cap) hI hn fun i hi => hr _ (at0_mem hi)
  have hG1 : H.length ≤ G1'.length := P1.len
  have P4 : Pre H G4 := pre_of_get (by rw [hI4.len]; exact P3.len) fun j hj => by rw [hI4.fr j (by omega), P3.get hj]
  have os4 : Own G4 rs βs G1.length eszR nR vsR := os3.agree fun j hj => by
    subst hj
    exact hI4.fr j (.inl os.lt.2)
  have oi4 : Own G4 ri βi G2.length eszR nR vsR := oi3.agree fun j hj => hI4.fr j (.inr (oi.below j hj))
  have e3 := heq G4 ri rs oi4.sl os4.sl
  obtain ⟨G5, w4, s5, oi5⟩ := hmR G4 ri βi _ nR vsR 101 oi4 hnR (by omega) (by omega)
  have hG2 : H.length ≤ G2.length := (P1.trans p2).len
  have P5 : Pre H G5 := s5.pre P4 fun b hb => Nat.le_trans hG2 (oi.below b hb)
  have os5 : Own G5 rs βs G1.length eszR nR vsR := os4.same s5 fun b hb he => by
    subst hb
    have h1 := os.lt
    have h2 := oi.below b he
    have h3 := p2.len
    omega
  have w5 := hhR true G5 ri βi _ nR 101 oi5 hnR (by omega) (by omega)
  obtain ⟨x4, G6, q4, s4, p6, _⟩ := cq221 (pu := true) (flag := true) (hs.pre P5) hn hr
  obtain ⟨r4', G7, β4, w6, p7, o4⟩ := him G6 x4 s4
  have P7 := (P5.trans p6).trans p7
  have os7 := (os5.pre p6).pre p7
  have oi7 := (oi5.pre p6).pre p7
  have e4 := heq G7 r4' rs o4.sl os7.sl
  have w7 := hhR true G7 ri βi _ nR 101 oi7 hnR (by omega) (by omega)
  refine ⟨x1, G1, rs, G1', _, G2, ri, G2', x3, G3, M, G4, G5, x4, G6, r4', G7, q1, w1, q2, w2, e1, q3, e2, ?_, by omega, e3, ?_, w5, q4, w6, e4, w7, P7⟩
  · rw [w3]; exact elder_pre P3 P4
  · rw [w4]; exact elder_pre P4 P5
def spnB (a b : Int) : Bool := in1 a 0 200 && in1 b 0 200 && decide (a ≤ b)
theorem spnB_is {a b : Int} (h : spnB a b = true) : 0 ≤ a ∧ a ≤ b ∧ b ≤ 200 := by
  simp [spnB, in1] at h; omega
theorem call422 {pu : Bool} {H : Heap} {a b : Int} : Call tab pu 422 [.int .i64 a, .int .i64 b] H = some (.bool (spnB a b), H) := by
  refine Call_wp t422 (.inr rfl) rfl ?_
  cases k1 : in1 a 0 200 with
  | false => simp [c422, k422, call432, k1, skip, spnB]
  | true =>
    cases k2 : in1 b 0 200 with
    | false => simp [c422, k422, call432, k1, k2, skip, spnB]
    | true => simp [c422, k422, call432, k1, k2, spnB]
theorem call426 {pu : Bool} {H : Heap} {a b : Int} : Call tab pu 426 [.int .i64 a, .int .i64 b] H = some (.bool (spnB a b), H) := by
  refine Call_wp t426 (.inr rfl) rfl ?_
  cases k1 : in1 a 0 200 with
  | false => simp [c426, k426, call435, k1, skip, spnB]
  | true =>
    cases k2 : in1 b 0 200 with
    | false => simp [c426, k426, call435, k1, k2, skip, spnB]
    | true => simp [c426, k426, call435, k1, k2, spnB]
def plL (l : List Pt) (A k : Nat) : List (List Int) := itN (fun i r => r ++ [prF l (A + i : Nat) l.length]) [] k
theorem plL_zero {l : List Pt} {A : Nat} : plL l A 0 = [] := itN_zero
theorem plL_succ {l : List Pt} {A k : Nat} : plL l A (k + 1) = plL l A k ++ [prF l (A + k : Nat) l.length] := itN_succ
theorem plL_len {l : List Pt} {A k : Nat} : (plL l A k).length = k := by
  induction k with
  | zero => rw [plL_zero]; rfl
  | succ k ih => rw [plL_succ]; simp [ih]
theorem plL_W {l : List Pt} {A k : Nat} : ∀ f ∈ plL l A k, f.length = 12 := by
  induction k with
  | zero => intro f hf; rw [plL_zero] at hf; cases hf
  | succ k ih =>
    intro f hf
    rw [plL_succ] at hf
    rcases List.mem_append.1 hf with h | h
    · exact ih f h
    · rw [List.mem_singleton.1 h]; exact prF_len
def plC (l : List Pt) (a b : Int) : Int := if faC l (spnB a b) = 0 then if 40 < b - a + 1 then 3 else 0 else faC l (spnB a b)
def plR (l : List Pt) (a b : Int) : List (List Int) := if plC l a b = 0 then plL l a.toNat (b - a + 1).toNat else []
theorem plC_ok {l : List Pt} {a b : Int} (h : plC l a b = 0) : okPts l = true ∧ spnB a b = true ∧ l.length ≤ 6 ∧ b - a + 1 ≤ 40 := by
  unfold plC at h
  split at h
  · rename_i h1
    obtain ⟨p1, p2, p3⟩ := faC_ok h1
    split at h
    · omega
    · exact ⟨p1, p2, p3, by omega⟩
  · rename_i h1; exact absurd h h1
theorem plR_len {l : List Pt} {a b : Int} : (plR l a b).length ≤ 1000000 := by
  unfold plR
  split
  · rename_i h
    have := (plC_ok h).2.2.2
    rw [plL_len]; omega
  · simp
theorem plR_W {l : List Pt} {a b : Int} : ∀ f ∈ plR l a b, f.length = 12 := by
  unfold plR
  split
  · exact plL_W
  · intro f hf; cases hf
theorem bkC_push {l : List (List Int)} {f : List Int} : bkC l ++ cs .u16 f = bkC (l ++ [f]) := by rw [bkC, bkC, rowsC_app]; simp [rowsC, frC]
theorem plL_size {l : List Pt} {A k : Nat} : (bkC (plL l A k)).length = k * 12 := by
  induction k with
  | zero => rw [plL_zero]; rfl
  | succ k ih => rw [plL_succ, ← bkC_push, List.length_append, ih, length_cs, prF_len]; omega
theorem rs261 {l : List Pt} {a b : Int} (hw : PtsW l) : RsP 261 [.int .i64 a, .int .i64 b] l 12 (plR l a b).length (bkC (plR l a b)) (plC l a b) := by
  intro H x h
  have c2 := call421 (pu := true) (b := spnB a b) h hw
  have e1 : (if okPts l = true then if spnB a b = true then if 6 < l.length then (3 : Int) else 0 else 2 else 1) = faC l (spnB a b) := rfl
  rw [e1] at c2
  by_cases hc : plC l a b = 0
  · obtain ⟨h1, h2, h3, h4⟩ := plC_ok hc
    obtain ⟨s1, s2, s3⟩ := spnB_is h2
    have hf : faC l (spnB a b) = 0 := by unfold faC; rw [h1, h2, if_pos rfl, if_pos rfl, if_neg (by omega)]
    have w1 : IntKind.wrap .i64 (b - a) = b - a := wrap64 (by omega)
    have w2 : IntKind.wrap .i64 (b - a + 1) = b - a + 1 := wrap64 (by omega)
    have hgt : ¬ (40 < b - a + 1) := by omega
    have eR : plR l a b = plL l a.toNat (b - a + 1).toNat := by rw [plR, if_pos hc]
    obtain ⟨A, rfl⟩ := Int.eq_ofNat_of_zero_le s1
    obtain ⟨n, hn⟩ : ∃ n : Nat, b = (A : Int) + n := ⟨(b - A).toNat, by omega⟩
    subst hn
    have eT : plR l A (A + n) = plL l A (n + 1) := by rw [eR]; congr 1; omega
    rw [eT, plL_len, hc]
    refine ⟨slc H.length 0 0 (n + 1) (n + 1), H ++ [⟨bkC (plL l A (n + 1)), 12, 0, false⟩], some H.length, Call_wp t261 (.inr rfl) rfl ?_, Pre.one, own_new plL_size⟩
    simp [c261, k261, call422, c2, hf, w1, w2, hgt, fill, rep, zs_cs]
    refine WP_from 10 A (A + n + 1) _ rfl (fun i e G => e 0 = x ∧ e 2 = .int .i64 (A + n : Nat) ∧ ∃ g, e 9 = g ∧ Gr H G g 12 (i - A) (bkC (plL l A (i - A)))) (by omega) (by omega) ?_ ?_ (by simp) ⟨by simp, by simp, by simp [plL_zero, bkC, rowsC]; exact Gr.new .refl⟩
    · rintro i e G hai hi hii e4 h10 ⟨h0, h2, g, h9, hg⟩
      obtain ⟨k, rfl⟩ : ∃ k, i = A + k := ⟨i - A, by omega⟩
      rw [show A + k - A = k by omega] at hg
      rw [show A + k + 1 - A = k + 1 by omega]
      have c3 := call433 (pu := true) (t := ((A + k : Nat) : Int)) (h.pre hg.pre) hw h1 (by omega)
      obtain ⟨g', G', hpush, hg'⟩ := hg.push (c := cs .u16 (prF l (A + k : Nat) l.length)) (bytes := 24) (by simp [prF_len]) (room24 (by omega)) (wb := false)
      rw [bkC_push, ← plL_succ] at hg'
      have hle : ((A + k : Nat) : Int) ≤ ((A + n : Nat) : Int) := by omega
      simp [b261_1, h10, h0, h2, h9, hle, c3, zs_cs, prF_len, fillF prF_len, hpush, wbOf, e4, -Int.natCast_add]
      exact hg'
    · rintro e G h10 ⟨h0, h2, g, h9, hg⟩
      rw [show A + n + 1 - A = n + 1 by omega] at hg
      have hfin := hg.fin2 (c := 0) bkC_flat
      have hnle : ¬ ((A + n + 1 : Nat) : Int) ≤ ((A + n : Nat) : Int) := by omega
      simp [b261_1, h10, h2, h9, hnle, hfin, -Int.natCast_add]
  · have hfin := (Gr.new (H := H) (esz := 12) .refl).fin2 (c := plC l a b) (by intro v hv; simp at hv)
    have eR : plR l a b = [] := by rw [plR, if_neg hc]
    rw [eR]
    refine ⟨slc H.length 0 0 0 0, H ++ [⟨[], 12, 0, false⟩], some H.length, Call_wp t261 (.inr rfl) rfl ?_, Pre.one, own_new (n := 0) rfl⟩
    by_cases hf : faC l (spnB a b) = 0
    · obtain ⟨h1, h2, h3⟩ := faC_ok hf
      obtain ⟨s1, s2, s3⟩ := spnB_is h2
      have w1 : IntKind.wrap .i64 (b - a) = b - a := wrap64 (by omega)
      have w2 : IntKind.wrap .i64 (b - a + 1) = b - a + 1 := wrap64 (by omega)
      have hgt : 40 < b - a + 1 := by
        unfold plC at hc; rw [if_pos hf] at hc
        split at hc
        · assumption
        · exact absurd rfl hc
      have hp : plC l a b = 3 := by rw [plC, if_pos hf, if_pos hgt]
      rw [hp] at hfin ⊢
      simp [c261, k261, call422, c2, hf, w1, w2, hgt, fill, rep, zs_cs, hfin]
    · have hp : plC l a b = faC l (spnB a b) := by rw [plC, if_neg hf]
      rw [hp] at hfin ⊢
      have hb : (faC l (spnB a b) == 0) = false := by simpa using hf
      have hb2 : (faC l (spnB a b) != 0) = true := by simpa using hf
      simp [c261, k261, call422, c2, hb, hb2, fill, rep, zs_cs, hfin, skip]
theorem rs260 {l : List Pt} {a b : Int} (hw : PtsW l) : RsP 260 [.int .i64 a, .int .i64 b] l 12 (plR l a b).length (bkC (plR l a b)) (plC l a b) := by
  intro H x h
  have c1 := call425 (pu := true) h hw
  by_cases hc : plC l a b = 0
  · obtain ⟨h1, h2, h3, h4⟩ := plC_ok hc
    obtain ⟨s1, s2, s3⟩ := spnB_is h2
    have w1 : IntKind.wrap .i64 (b - a) = b - a := wrap64 (by omega)
    have w2 : IntKind.wrap .i64 (b - a + 1) = b - a + 1 := wrap64 (by omega)
    have hgt : ¬ (40 < b - a + 1) := by omega
    have h6 : ¬ (6 : Int) < l.length := by omega
    have h6' : ¬ 6 < l.length := by omega
    have eR : plR l a b = plL l a.toNat (b - a + 1).toNat := by rw [plR, if_pos hc]
    obtain ⟨A, rfl⟩ := Int.eq_ofNat_of_zero_le s1
    obtain ⟨n, hn⟩ : ∃ n : Nat, b = (A : Int) + n := ⟨(b - A).toNat, by omega⟩
    subst hn
    have eT : plR l A (A + n) = plL l A (n + 1) := by rw [eR]; congr 1; omega
    rw [eT, plL_len, hc]
    refine ⟨slc H.length 0 0 (n + 1) (n + 1), H ++ [⟨bkC (plL l A (n + 1)), 12, 0, false⟩], some H.length, Call_wp t260 (.inr rfl) rfl ?_, Pre.one, own_new plL_size⟩
    simp [c260, k260, c1, h1, call426, h2, h.lenV, h6, h6', w1, w2, hgt, fill, rep, zs_cs]
    refine WP_from 9 A (A + n + 1) _ rfl (fun i e G => e 0 = x ∧ e 2 = .int .i64 (A + n : Nat) ∧ ∃ g, e 8 = g ∧ Gr H G g 12 (i - A) (bkC (plL l A (i - A)))) (by omega) (by omega) ?_ ?_ (by simp) ⟨by simp, by simp, by simp [plL_zero, bkC, rowsC]; exact Gr.new .refl⟩
    · rintro i e G hai hi hii e4 h10 ⟨h0, h2, g, h9, hg⟩
      obtain ⟨k, rfl⟩ : ∃ k, i = A + k := ⟨i - A, by omega⟩
      rw [show A + k - A = k by omega] at hg
      rw [show A + k + 1 - A = k + 1 by omega]
      have c3 := call436 (pu := true) (t := ((A + k : Nat) : Int)) (h.pre hg.pre) hw h1 (by omega)
      obtain ⟨g', G', hpush, hg'⟩ := hg.push (c := cs .u16 (prF l (A + k : Nat) l.length)) (bytes := 24) (by simp [prF_len]) (room24 (by omega)) (wb := false)
      rw [bkC_push, ← plL_succ] at hg'
      have hle : ((A + k : Nat) : Int) ≤ ((A + n : Nat) : Int) := by omega
      simp [b260_1, h10, h0, h2, h9, hle, c3, zs_cs, prF_len, fillF prF_len, hpush, wbOf, e4, -Int.natCast_add]
      exact hg'
    · rintro e G h10 ⟨h0, h2, g, h9, hg⟩
      rw [show A + n + 1 - A = n + 1 by omega] at hg
      have hfin := hg.fin2 (c := 0) bkC_flat
      have hnle : ¬ ((A + n + 1 : Nat) : Int) ≤ ((A + n : Nat) : Int) := by omega
      simp [b260_1, h10, h2, h9, hnle, hfin, -Int.natCast_add]
  · have eR : plR l a b = [] := by rw [plR, if_neg hc]
    rw [eR]
    refine ⟨.slice none 0 0, H, none, Call_wp t260 (.inr rfl) rfl ?_, .refl, by simp [bkC, rowsC, Own]⟩
    cases k1 : okPts l with
    | false =>
      have hf : faC l (spnB a b) = 1 := by unfold faC; rw [k1]; rfl
      have hp : plC l a b = 1 := by rw [plC, if_neg (by omega), hf]
      simp [c260, k260, c1, k1, finish_nil2, hp]
    | true =>
      cases k2 : spnB a b with
      | false =>
        have hf : faC l (spnB a b) = 2 := by unfold faC; rw [k1, k2]; rfl
        have hp : plC l a b = 2 := by rw [plC, if_neg (by omega), hf]
        simp [c260, k260, c1, k1, call426, k2, finish_nil2, hp]
      | true =>
        obtain ⟨s1, s2, s3⟩ := spnB_is k2
        have w1 : IntKind.wrap .i64 (b - a) = b - a := wrap64 (by omega)
        have w2 : IntKind.wrap .i64 (b - a + 1) = b - a + 1 := wrap64 (by omega)
        by_cases h6 : 6 < l.length
        · have h6' : (6 : Int) < l.length := by omega
          have hf : faC l (spnB a b) = 3 := by unfold faC; rw [k1, k2, if_pos rfl, if_pos rfl, if_pos h6]
          have hp : plC l a b = 3 := by rw [plC, if_neg (by omega), hf]
          simp [c260, k260, c1, k1, call426, k2, h.lenV, h6, h6', skip, finish_nil2, hp]
        · have h6' : ¬ (6 : Int) < l.length := by omega
          have hf : faC l (spnB a b) = 0 := by unfold faC; rw [k1, k2, if_pos rfl, if_pos rfl, if_neg h6]
          have hgt : 40 < b - a + 1 := by
            unfold plC at hc; rw [if_pos hf] at hc
            split at hc
            · assumption
            · exact absurd rfl hc
          have hp : plC l a b = 3 := by rw [plC, if_pos hf, if_pos hgt]
          simp [c260, k260, c1, k1, call426, k2, h.lenV, h6, h6', w1, w2, hgt, finish_nil2, hp]
theorem call53 {H : Heap} {x : Value} {l : List Pt} {a b : Int} (hs : PtS H x l) (ha : PtsA l) : ∃ H', Call tab false 53 [x, .int .i64 a, .int .i64 b] H = some (.bool true, H') := by
  refine ⟨H, Call_wp t53 (.inl rfl) rfl ?_⟩
  obtain ⟨v, hsz, _, hv⟩ := sz219 hs ha.n ha.r (left := 1000000) (by omega) (by omega)
  by_cases hneg : v < 0
  · simp [c53, k53, hsz, hneg]
  obtain ⟨hn, hr⟩ := hv (by omega)
  have hw : PtsW l := ⟨ha.w, hn, hr⟩
  have hnR := plR_len (l := l) (a := a) (b := b)
  obtain ⟨x1, G1, rs, G1', x2, G2, ri, G2', x3, G3, M, G4, G5, x4, G6, r4, G7, q1, w1, q2, w2, e1, q3, i1, k1, hM, e2, k2, d1, q4, w4, e4, d2, P⟩ := lsx_parts hs hn hr (rs261 (a := a) (b := b) hw) (rs260 hw) (eqBk plR_W hnR) mark122 held123 hnR
  have hneg2 : ¬ (101 + (((plR l a b).length * 12 : Nat) : Int)) < 0 := by omega
  simp [c53, k53, wbOf, hsz, hneg, q1, w1, q2, w2, e1, q3, i1, k1, hM, e2, k2, d1, q4, w4, e4, d2, hneg2, skip, P.take, -Int.natCast_mul, -Nat.mul_one]
end Fb
