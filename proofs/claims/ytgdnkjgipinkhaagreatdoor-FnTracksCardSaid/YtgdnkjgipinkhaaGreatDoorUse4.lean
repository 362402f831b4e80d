/- What each function computes. -/
import Derived.Test.YtgdnkjgipinkhaaGreatDoorUse3
set_option linter.unusedVariables false
set_option linter.unusedSimpArgs false
namespace Fb
open Go
theorem LoD.done {G G' : Heap} {P : Nat} {bs : List Int} {s : Int × Int} {f : List Int} (h : LoD G G' P bs s f) : Mv P G (G'.take G.length) ∧ SrD (G'.take G.length) P bs s := by
  refine ⟨⟨by simp [h.len], fun j hj => ?_⟩, h.src.mv (by rw [List.getElem?_take, if_pos h.lt]) fun j hj => by rw [List.getElem?_take, if_pos (by have := h.lt; omega)]⟩
  rw [List.getElem?_take]
  split
  · exact h.get j ‹_› hj
  · exact (List.getElem?_eq_none (by omega)).symm
/-- Where the pen is, the frame, the source's state. -/
structure Pen where
  x : Nat
  y : Nat
  f : List Int
  s : Int × Int
def PenS (bs : List Int) (q q' : Pen) : Prop := q'.f = putF q.f q.x q.y ∧ ∃ m s1, PK bs 6 q.s m s1 ∧
  ((m = 0 ∧ ∃ s2, PK bs 12 s1 (q'.x : Int) s2 ∧ PK bs 12 s2 (q'.y : Int) q'.s) ∨ ((m = 1 ∨ m = 2) ∧ q'.s = s1 ∧ q'.x = (q.x + 1) % 12 ∧ q'.y = q.y) ∨
    ((m ≠ 0 ∧ m ≠ 1 ∧ m ≠ 2) ∧ ∃ w : Nat, PK bs 3 s1 (w : Int) q'.s ∧ w < 3 ∧ q'.x = q.x ∧ q'.y = (q.y + w + 11) % 12))
def RowS (bs : List Int) (q q' : Nat × List Int × (Int × Int)) : Prop := q'.1 = q.1 + 1 ∧ ∃ v, PK bs 4096 q.2.2 v q'.2.2 ∧ (0 ≤ v ∧ v < 4096) ∧ q'.2.1 = q.2.1.set q.1 (orI (nth q.2.1 q.1) v)
def FD (bs : List Int) (s : Int × Int) (f : List Int) (s' : Int × Int) : Prop := ∀ G P, SrD G P bs s → ∃ G', Call tab false 368 [adr P 0 0] G = some (iv .u16 f, G') ∧ Mv P G G' ∧ SrD G' P bs s'
theorem fd_ex {bs : List Int} {s : Int × Int} (ok : OkBs bs) (h0 : 0 ≤ s.1 ∧ s.1 ≤ 10000000000) : ∃ f s', FD bs s f s' ∧ VF f ∧ 0 ≤ s'.1 ∧ s'.1 ≤ s.1 + 200 := by
  obtain ⟨x, s1, px, hx, k1⟩ := pk_ex ok (s := s) (n := 12) (by omega) (by omega)
  obtain ⟨y, s2, py, hy, k2⟩ := pk_ex ok (s := s1) (n := 12) (by omega) (by omega)
  obtain ⟨N, s3, pN, hN, k3⟩ := pk_ex ok (s := s2) (n := 14) (by omega) (by omega)
  obtain ⟨N, rfl⟩ := Int.eq_ofNat_of_zero_le hN.1
  obtain ⟨x, rfl⟩ := Int.eq_ofNat_of_zero_le hx.1
  obtain ⟨y, rfl⟩ := Int.eq_ofNat_of_zero_le hy.1
  obtain ⟨F, F0, FI⟩ := chain (fun i (q : Pen) => q.x < 12 ∧ q.y < 12 ∧ VF q.f ∧ 0 ≤ q.s.1 ∧ q.s.1 ≤ s.1 + 6 + i * 8) (PenS bs) N (q0 := ⟨x, y, zr 12 0, s3⟩) ⟨by simp only []; omega, by simp only []; omega, .zero, by simp only []; omega, by simp only []; omega⟩ (by
    rintro i ⟨a, b, f, t⟩ hi ⟨ha, hb, hV, t0, t1⟩
    simp only at ha hb hV t0 t1
    obtain ⟨m, u1, pm, hm, g1⟩ := pk_ex ok (s := t) (n := 6) (by omega) (by omega)
    have hm' : m = 0 ∨ (m = 1 ∨ m = 2) ∨ (m ≠ 0 ∧ m ≠ 1 ∧ m ≠ 2) := by omega
    rcases hm' with h | h | h
    · obtain ⟨v, u2, pv, hv, g2⟩ := pk_ex ok (s := u1) (n := 12) (by omega) (by omega)
      obtain ⟨w, u3, pw, hw, g3⟩ := pk_ex ok (s := u2) (n := 12) (by omega) (by omega)
      obtain ⟨v, rfl⟩ := Int.eq_ofNat_of_zero_le hv.1
      obtain ⟨w, rfl⟩ := Int.eq_ofNat_of_zero_le hw.1
      exact ⟨⟨v, w, putF f a b, u3⟩, ⟨rfl, m, u1, pm, .inl ⟨h, u2, pv, pw⟩⟩, by simp only []; omega, by simp only []; omega, hV.put ha hb, by simp only []; omega, by simp only []; omega⟩
    · exact ⟨⟨(a + 1) % 12, b, putF f a b, u1⟩, ⟨rfl, m, u1, pm, .inr (.inl ⟨h, rfl, rfl, rfl⟩)⟩, by simp only []; omega, hb, hV.put ha hb, by simp only []; omega, by simp only []; omega⟩
    · obtain ⟨w, u2, pw, hw, g2⟩ := pk_ex ok (s := u1) (n := 3) (by omega) (by omega)
      obtain ⟨w, rfl⟩ := Int.eq_ofNat_of_zero_le hw.1
      exact ⟨⟨a, (b + w + 11) % 12, putF f a b, u2⟩, ⟨rfl, m, u1, pm, .inr (.inr ⟨h, w, pw, by omega, rfl, rfl⟩)⟩, ha, by simp only []; omega, hV.put ha hb, by simp only []; omega, by simp only []; omega⟩)
  obtain ⟨b, s4, pb, k4⟩ := po_ex ok (s := (F N).s) (n := 8) (by have := (FI N (Nat.le_refl _)).1; omega) (by omega)
  have hFN := (FI N (Nat.le_refl _)).1
  obtain ⟨R, R0, RI⟩ := chain (fun i (q : Nat × List Int × (Int × Int)) => q.1 = i ∧ VF q.2.1 ∧ 0 ≤ q.2.2.1 ∧ q.2.2.1 ≤ s4.1 + i * 2) (RowS bs) 12 (q0 := (0, (F N).f, s4)) ⟨rfl, hFN.2.2.1, k4.1, by simp only []; omega⟩ (by
    rintro i ⟨j, f, t⟩ hi ⟨hj, hV, t0, t1⟩
    simp only at hj hV t0 t1
    subst hj
    obtain ⟨v, u1, pv, hv, g1⟩ := pk_ex ok (s := t) (n := 4096) (by omega) (by omega)
    obtain ⟨q1, q2⟩ := hV.row hi
    exact ⟨(j + 1, f.set j (orI (nth f j) v), u1), ⟨rfl, v, pv, hv, rfl⟩, rfl, hV.set (i := j) (orI_ok (a := nth f j) (b := v)) (orI_row q1 ⟨by omega, by omega⟩ q2 (by simp [okRow]; omega)), by simp only []; omega, by simp only []; omega⟩)
  have hR := (RI 12 (Nat.le_refl _)).1
  refine ⟨if b = true then (R 12).2.1 else (F N).f, if b = true then (R 12).2.2 else s4, fun G P h => ?_, ?_, ?_⟩
  rotate_left
  · split
    · exact hR.2.1
    · exact hFN.2.2.1
  · split
    · omega
    · omega
  have key : ∃ r, Call tab false 368 [adr P 0 0] G = some r ∧ ∃ G', r = (iv .u16 (if b = true then (R 12).2.1 else (F N).f), G') ∧ Mv P G G' ∧ SrD G' P bs (if b = true then (R 12).2.2 else s4) := by
    refine Call_ex t368 (.inl rfl) rfl ?_
    have hl := h.lt
    obtain ⟨G1, hG1⟩ : ∃ G1, G1 = G ++ [(⟨cs .u16 (zr 12 0), 1, 0, false⟩ : Blk)] := ⟨_, rfl⟩
    have hwr : wr G.length true G1 G.length 0 0 (cs .u16 (zr 12 0)) = some G1 := by
      rw [hG1, wr_last (b := ⟨cs .u16 (zr 12 0), 1, 0, false⟩) rfl rfl (Nat.le_refl _) (by simp)]
    have L1 : LoD G G1 P bs s (zr 12 0) := by
      have p : Pre G G1 := by rw [hG1]; exact Pre.one
      exact ⟨h.mv (p.get hl) fun j hj => p.get (by omega), by rw [hG1]; exact get_last, by rw [hG1]; simp, fun j hj _ => p.get hj, hl⟩
    obtain ⟨G2, c2, L2, _⟩ := L1.pick px
    obtain ⟨G3, c3, L3, _⟩ := L2.pick py
    obtain ⟨G4, c4, L4, _⟩ := L3.pick pN
    simp [c368, k368, fill, zs_cs, agg_cs, ← hG1, hwr, wbOf, c2, c3, c4]
    refine WK_loop (fun i e G' => e 0 = adr P 0 0 ∧ e 2 = iv .u16 (zr 12 0) ∧ e 3 = adr G.length 0 0 ∧ (e 4 = .int .i64 ((F i).x : Int) ∧ e 5 = .int .i64 ((F i).y : Int)) ∧ e 6 = .int .i64 ((N - i : Nat) : Int) ∧ LoD G G' P bs (F i).s (F i).f) N ?_ (Nat.zero_le _)
      ⟨by simp, by simp, by simp, by rw [F0]; simp, by simp, by rw [F0]; exact L4⟩
    rintro i e G' _ hi ⟨h0, h2, h3, ⟨h4, h5⟩, h6, L⟩
    by_cases hiN : i = N
    · subst hiN
      rw [Nat.sub_self] at h6
      obtain ⟨G5, c5, m5, d5⟩ := pb G' P L.src
      have L5 := L.mv m5 d5
      cases b with
      | false =>
        have hr := rd_at (off := 0) (n := 12) (ver := 0) L5.fr rfl (by simp [hFN.2.2.1.W.len])
        simp [take_all, hFN.2.2.1.W.len] at hr
        have s3 := stc_zr (k := .u16) (n := 12) (l := (F i).f) hFN.2.2.1.W.len
        simp [b368_1, h0, h2, h3, h6, c5, wbOf, hr, s3, agg_cs, hFN.2.2.1.W.len]
        exact ⟨_, _, ⟨rfl, rfl⟩, _, ⟨rfl, rfl⟩, L5.done⟩
      | true =>
        simp [b368_1, h0, h2, h3, h6, c5, wbOf]
        refine WP_count 7 12 12 rfl (fun j e G' => e 0 = adr P 0 0 ∧ e 2 = iv .u16 (zr 12 0) ∧ e 3 = adr G.length 0 0 ∧ j ≤ 12 ∧ LoD G G' P bs (R j).2.2 (R j).2.1) (by omega) ?_ ?_ (by simp) ⟨by simp [h0], by simp [h2], by simp [h3], by omega, by rw [R0]; exact L5⟩
        · rintro j e G' _ hj hjj e4 h7 ⟨h0, h2, h3, _, L⟩
          obtain ⟨⟨r1, hV, _⟩, hst⟩ := RI j (by omega)
          obtain ⟨n1, v, pv, hv, n2⟩ := hst hj
          obtain ⟨G6, c6, L6, hget⟩ := L.pick pv
          rw [r1] at n2
          have hr := rd_at (off := 0) (n := 12) (ver := 0) L.fr rfl (by simp [hV.W.len])
          simp [take_all, hV.W.len] at hr
          have hr1 := rd_one hr hj
          rw [Nat.zero_add] at hr1
          have hw := wr_at (n0 := G.length) (wb := true) (off := j) (vs := [.int .u16 (orI (nth (R j).2.1 j) v)]) (ver := 0) L6.fr rfl rfl (by simp [may]) (by simp [hV.W.len]; omega)
          have hsp : splice (cs .u16 (R j).2.1) j [.int .u16 (orI (nth (R j).2.1 j) v)] = cs .u16 (R (j + 1)).2.1 := by rw [splice_one (by simp [hV.W.len]; omega), n2]; simp [cs, List.map_set]
          simp only [hsp] at hw
          have L7 := L6.set (g := (R (j + 1)).2.1)
          simp [b368_2, h7, h0, h2, h3, hjj, hj, hr1]
          rw [fl_step (v := .int .i64 v) (H' := G6) (by simp [apart, blkOf, adr, mods]) (by simp [h0, c6]) (by simp [stays, blkOf, adr, hget])]
          have u1 : IntKind.wrap .u16 v = v := wrapu16 (by omega)
          have e9 : bitsOf .or .u16 (nth (R j).2.1 j) v = orI (nth (R j).2.1 j) v := rfl
          simp [h0, h2, h3, hj, u1, e9, hw, wbOf, h7, e4]
          exact ⟨by omega, L7⟩
        · rintro e G' _ h7 ⟨h0, h2, h3, _, L⟩
          have hr := rd_at (off := 0) (n := 12) (ver := 0) L.fr rfl (by simp [hR.2.1.W.len])
          simp [take_all, hR.2.1.W.len] at hr
          have s3 := stc_zr (k := .u16) (n := 12) (l := (R 12).2.1) hR.2.1.W.len
          simp [b368_2, h7, h0, h2, h3, wbOf, hr, s3, agg_cs, hR.2.1.W.len]
          exact ⟨_, _, ⟨rfl, rfl⟩, _, ⟨rfl, rfl⟩, L.done⟩
    · have hpos : 0 < N - i := by omega
      have hiN' : i < N := by omega
      have e6 : IntKind.wrap .i64 (((N - i : Nat) : Int) - 1) = ((N - (i + 1) : Nat) : Int) := by
        clear hR RI FI hFN
        rw [wrap64 (by omega)]; omega
      obtain ⟨⟨hx', hy', hV, _⟩, hst⟩ := FI i hi
      obtain ⟨n1, m, u1, pm, hcase⟩ := hst hiN'
      have p1 := call305 L.fr hV.W.len hx' hy'
      have L5 := L.set (g := putF (F i).f (F i).x (F i).y)
      obtain ⟨G6, c6, L6, _⟩ := L5.pick pm
      rw [← n1] at L6
      have hmod : ∀ a : Nat, a ≤ 1000 → (a : Int).tmod 12 = ((a % 12 : Nat) : Int) ∧ IntKind.wrap .i64 ((a % 12 : Nat) : Int) = ((a % 12 : Nat) : Int) := fun a hb => by
        have h1 : (a : Int).tmod 12 = (a : Int) % 12 := Int.tmod_eq_emod_of_nonneg (by omega)
        exact ⟨by rw [h1]; omega, wrap64 (by omega)⟩
      rcases hcase with ⟨rfl, s2, pa, pb'⟩ | ⟨hm, q1, q2, q3⟩ | ⟨⟨v0, v1, v2⟩, w, pw, hw3, q2, q3⟩
      · obtain ⟨G7, c7, L7, _⟩ := L6.pick pa
        obtain ⟨G8, c8, L8, _⟩ := L7.pick pb'
        simp [b368_1, h0, h2, h3, h4, h5, h6, hpos, p1, c6, c7, c8, e6, wbOf]
        exact ⟨hiN', L8⟩
      · have e7 : IntKind.wrap .i64 (((F i).x : Int) + 1) = (((F i).x + 1 : Nat) : Int) := by rw [wrap64 (by omega)]; omega
        obtain ⟨e8, e10⟩ := hmod ((F i).x + 1) (by omega)
        rw [← q1] at L6
        rw [← q2] at e8 e10
        rcases hm with rfl | rfl
        · simp [b368_1, h0, h2, h3, h4, h5, h6, hpos, p1, c6, e6, e7, e8, e10, q3, wbOf, -Int.natCast_add]
          exact ⟨hiN', L6⟩
        · simp [b368_1, h0, h2, h3, h4, h5, h6, hpos, p1, c6, e6, e7, e8, e10, q3, wbOf, -Int.natCast_add]
          exact ⟨hiN', L6⟩
      · obtain ⟨G7, c7, L7, _⟩ := L6.pick pw
        have v0 : (m == 0) = false := by simpa using v0
        have v1 : (m == 1) = false := by simpa using v1
        have v2 : (m == 2) = false := by simpa using v2
        have e7 : IntKind.wrap .i64 (((F i).y : Int) + (w : Int)) = (((F i).y + w : Nat) : Int) := by rw [wrap64 (by omega)]; omega
        have e9 : IntKind.wrap .i64 ((((F i).y + w : Nat) : Int) + 11) = (((F i).y + w + 11 : Nat) : Int) := by rw [wrap64 (by omega)]; omega
        obtain ⟨e8, e10⟩ := hmod ((F i).y + w + 11) (by omega)
        rw [← q3] at e8 e10
        simp [b368_1, h0, h2, h3, h4, h5, h6, hpos, p1, c6, c7, e6, e7, e8, e9, e10, q2, v0, v1, v2, wbOf, -Int.natCast_add]
        exact ⟨hiN', L7⟩
  obtain ⟨r, hc, G', rfl, h⟩ := key
  exact ⟨G', hc, h⟩
theorem a2frame {bs : List Int} (ok : OkBs bs) : ∃ f, VF f ∧ ∀ (pu : Bool) (H : Heap) (x : Value), By H x bs → Call tab pu 147 [x] H = some (iv .u16 f, H) := by
  obtain ⟨f, s', fd, V, _⟩ := fd_ex ok (s := (0, 0)) (by simp only []; omega)
  refine ⟨f, V, fun pu H x hx => ?_⟩
  obtain ⟨c1, s1⟩ := call315 (pu := true) hx.s hx.b ok.n
  obtain ⟨G2, c2, m2, _⟩ := fd (H ++ [srB x 0 0]) H.length ⟨x, get_last, by rw [List.take_left' rfl]; exact hx.s⟩
  obtain ⟨H1, hH1⟩ : ∃ H1, H1 = H ++ [srB x 0 0] := ⟨_, rfl⟩
  rw [← hH1] at c1 c2 s1 m2
  have p1 : Pre H H1 := by rw [hH1]; exact Pre.one
  have t2 : G2.take H.length = H := by rw [m2.take (Nat.le_refl _), p1.take]
  have x2 : elder H.length false H1 (iv .u16 f, G2) = some (iv .u16 f, G2) := elder_same (by rw [t2, p1.take])
  have hl := V.W.len
  have s := stc_zr (k := .u16) (n := 12) (l := f) hl
  refine Call_wp t147 (.inr rfl) rfl ?_
  simp [c147, k147, zs_cs, agg_cs, c1, c2, x2, wbOf, hl, s, t2]
theorem mvCc_zero {dx dy : Int} (h1 : -12 ≤ dx ∧ dx ≤ 12) (h2 : -12 ≤ dy ∧ dy ≤ 12) : mvCc dx dy = 0 := by
  unfold mvCc; simp [in1, h1, h2]
theorem call150 {pu : Bool} {H : Heap} {f : List Int} {dx dy : Int} (hf : VF f) (h1 : -12 ≤ dx ∧ dx ≤ 12) (h2 : -12 ≤ dy ∧ dy ≤ 12) :
    Call tab pu 150 [iv .u16 f, .int .i64 dx, .int .i64 dy] H = some (tup [iv .u16 (shF f dx dy), .int .i64 0], H) := by
  refine Call_wp t150 (.inr rfl) rfl ?_
  have hl := hf.W.len
  obtain ⟨G, hG⟩ : ∃ G, G = H ++ [(⟨cs .u16 f, 1, 0, false⟩ : Blk)] := ⟨_, rfl⟩
  have p : Pre H G := by rw [hG]; exact Pre.one
  have hr : rd G H.length 0 0 12 = some (cs .u16 f) := by
    rw [hG, rd_at get_last rfl (by simp [hl])]
    simp [take_all, hl]
  have c1 := call373 (pu := true) (dx := dx) (dy := dy) hl hr hf.ok
  rw [mvCc_zero h1 h2] at c1
  have c2 := call355 (pu := true) (dx := dx) (dy := dy) hf.W hr (by omega) (by omega)
  have s := stc_zr (k := .u16) (n := 12) (l := shF f dx dy) shF_length
  simp [c150, k150, zs_cs, agg_cs, hl, ← hG, c1, c2, s, shF_length, p.take]
theorem difF_self {f : List Int} (hf : VF f) : difF f f = 0 := by
  unfold difF
  have : mixF xorI f f = zr 12 0 := (xor_V' hf hf).ext .zero fun x y hx hy => by rw [mix_xor hf hf hx hy, hasF_zero hx hy, Bool.xor_self]
  rw [this, cntF_zr]
theorem bsM_val {f g : List Int} {ms : ML} (hf : VF f) {k : Nat} : (bsM f g ms k).2 = difF (shF f (bsM f g ms k).1.1 (bsM f g ms k).1.2) g := by
  induction k with
  | zero => rw [bsM_zero]; simp only; rw [shF_zero hf.W hf.ok]
  | succ k ih =>
    rw [bsM_succ]
    split
    · rfl
    · exact ih
theorem bsM_le {f g : List Int} {ms : ML} {k : Nat} : (bsM f g ms k).2 ≤ difF f g := by
  induction k with
  | zero => rw [bsM_zero]; exact Int.le_refl _
  | succ k ih =>
    rw [bsM_succ]
    split
    · rename_i h; simp only; omega
    · exact ih
theorem bsM_le_mv {f g : List Int} {ms : ML} {k i : Nat} (h1 : 1 ≤ i) (hi : i ≤ k) : (bsM f g ms k).2 ≤ difF (shF f (mv ms i).1 (mv ms i).2) g := by
  induction k with
  | zero => omega
  | succ k ih =>
    rw [bsM_succ]
    by_cases e : i = k + 1
    · subst e
      split
      · exact Int.le_refl _
      · rename_i h; omega
    · have := ih (by omega)
      split
      · rename_i h; simp only; omega
      · exact this
theorem farM_near : ∀ m : Nat, m < 5 → (farM m).all (fun a => decide (-(m : Int) ≤ a.1 ∧ a.1 ≤ m) && decide (-(m : Int) ≤ a.2 ∧ a.2 ≤ m)) = true := by decide +kernel
theorem farM_all : ∀ m : Nat, m < 5 → ((List.range (2 * m + 1)).all fun e => (List.range (2 * m + 1)).all fun s => (farM m).contains ((e : Int) - m, (s : Int) - m)) = true := by decide +kernel
theorem bsM_near {f g : List Int} {m k : Nat} (hm : m < 5) (hk : k + 1 ≤ (farM m).length) : (-(m : Int) ≤ (bsM f g (farM m) k).1.1 ∧ (bsM f g (farM m) k).1.1 ≤ m) ∧ -(m : Int) ≤ (bsM f g (farM m) k).1.2 ∧ (bsM f g (farM m) k).1.2 ≤ m := by
  induction k with
  | zero => rw [bsM_zero]; simp only; omega
  | succ k ih =>
    rw [bsM_succ]
    split
    · have := List.all_eq_true.1 (farM_near m hm) _ (at0_mem (show k + 1 < (farM m).length by omega))
      unfold mv; simpa using this
    · exact ih (by omega)
structure BmS (f g : List Int) (m : Nat) (a b w : Int) : Prop where
  val : w = difF (shF f a b) g
  pos : 0 ≤ w ∧ w ≤ difF f g
  na : -(m : Int) ≤ a ∧ a ≤ m
  nb : -(m : Int) ≤ b ∧ b ≤ m
  best : ∀ e s : Int, -(m : Int) ≤ e ∧ e ≤ m → -(m : Int) ≤ s ∧ s ≤ m → w ≤ difF (shF f e s) g
theorem bm_spec {f g : List Int} (hf : VF f) (hg : VF g) {m : Nat} (hm : m ≤ 4) : ∃ a b w, bmR f g m = tup [agg (mvC (a, b)), .int .i64 w, .int .i64 0] ∧ bmM f g m = ((a, b), w) ∧ BmS f g m a b w := by
  have hc : bmC f g m = 0 := by
    have : in1 (m : Int) 0 4 = true := by unfold in1; simp; omega
    unfold bmC; rw [hf.ok, hg.ok, this]; rfl
  obtain ⟨_, hn, _, h00⟩ := farM_ok hm
  have hM : bmM f g m = bsM f g (farM m) ((farM m).length - 1) := by unfold bmM; rw [if_pos hc]
  have hv := bsM_val (f := f) (g := g) (ms := farM m) hf (k := (farM m).length - 1)
  have hle := bsM_le (f := f) (g := g) (ms := farM m) (k := (farM m).length - 1)
  have hnear := bsM_near (f := f) (g := g) (m := m) (k := (farM m).length - 1) (by omega) (by omega)
  have hbest : ∀ e s : Int, -(m : Int) ≤ e ∧ e ≤ m → -(m : Int) ≤ s ∧ s ≤ m → (bsM f g (farM m) ((farM m).length - 1)).2 ≤ difF (shF f e s) g := by
    intro e s he hs
    have h1 := List.all_eq_true.1 (farM_all m (by omega)) (e + m).toNat (by simp; omega)
    have h2 := List.all_eq_true.1 h1 (s + m).toNat (by simp; omega)
    have e1 : (((e + m).toNat : Nat) : Int) - m = e := by omega
    have e2 : (((s + m).toNat : Nat) : Int) - m = s := by omega
    rw [e1, e2, List.contains_iff_mem] at h2
    obtain ⟨i, hi, hie⟩ := List.getElem_of_mem h2
    have hmv : mv (farM m) i = (e, s) := by rw [← hie]; exact Option.some.inj ((at0_get hi).symm.trans (List.getElem?_eq_getElem hi))
    by_cases h0 : i = 0
    · subst h0
      rw [h00] at hmv
      cases hmv
      rw [shF_zero hf.W hf.ok]; exact hle
    · have := bsM_le_mv (f := f) (g := g) (ms := farM m) (k := (farM m).length - 1) (i := i) (by omega) (by omega)
      rwa [hmv] at this
  refine ⟨_, _, _, ?_, ?_, hv, ⟨?_, hle⟩, hnear.1, hnear.2, hbest⟩
  · rw [bmR, hM, hc]
  · rw [hM]
  · rw [hv]; exact cntF_ok.1
theorem tk_all {b : List (List Int)} {m : Nat} (hV : ∀ f ∈ b, VF f) (hn : b.length ≤ 40) (hm : m ≤ 4) : tkC b m = 0 ∧ tkL b m = trL b m (b.length - 1) ∧ fwL b m = fbL b (trL b m (b.length - 1)) b.length := by
  have hc : tkC b m = 0 := by
    have : in1 (m : Int) 0 4 = true := by unfold in1; simp; omega
    unfold tkC; rw [if_pos (okB_V hV hn), if_pos this]
  have hL : tkL b m = trL b m (b.length - 1) := by rw [tkL, if_pos hc, Int.toNat_natCast]
  exact ⟨hc, hL, by rw [fwL, if_pos hc, hL]⟩
theorem fbL_fr {b : List (List Int)} {L : ML} {k i : Nat} (hi : i < k) : fr (fbL b L k) i = fbF b L i := by
  unfold fr at0 fbL
  rw [List.getD_eq_getElem?_getD, List.getElem?_map, List.getElem?_range hi]; rfl
theorem fw_first {b : List (List Int)} {m : Nat} (hV : ∀ f ∈ b, VF f) (hn : b.length ≤ 40) (hm : m ≤ 4) (h : 0 < b.length) : fr (fwL b m) 0 = fr b 0 := by
  have hf := hV _ (at0_mem h)
  rw [(tk_all hV hn hm).2.2, fbL_fr h, fbF]
  have e1 : eastN (trL b m (b.length - 1)) 0 = 0 := itN_zero
  have e2 : southN (trL b m (b.length - 1)) 0 = 0 := itN_zero
  rw [e1, e2]
  exact shF_zero hf.W hf.ok
theorem fw_two {f g : List Int} {m : Nat} (hf : VF f) (hg : VF g) (hm : m ≤ 4) : (fwL [f, g] m).length = 2 ∧ fr (fwL [f, g] m) 1 = shF g (-(bmM f g m).1.1) (-(bmM f g m).1.2) := by
  have hV : ∀ h ∈ [f, g], VF h := fun h hh => by
    rcases List.mem_cons.1 hh with e | e
    · exact e ▸ hf
    · rw [List.mem_singleton.1 e]; exact hg
  obtain ⟨_, _, h3⟩ := tk_all hV (by simp) hm
  refine ⟨by rw [h3, fbL_len]; rfl, ?_⟩
  rw [h3, fbL_fr (by simp), fbF]
  have e0 : mv (trL [f, g] m 1) 0 = trM [f, g] m 0 := trL_mv (by omega)
  have e1 : eastN (trL [f, g] m 1) 1 = (trM [f, g] m 0).1 := by rw [eastN, itN_succ, itN_zero, e0]; omega
  have e2 : southN (trL [f, g] m 1) 1 = (trM [f, g] m 0).2 := by rw [southN, itN_succ, itN_zero, e0]; omega
  have hc : bmC f g m = 0 := by
    have : in1 (m : Int) 0 4 = true := by unfold in1; simp; omega
    unfold bmC; rw [hf.ok, hg.ok, this]; rfl
  have e3 : trM [f, g] m 0 = (bmM f g m).1 := by unfold bmM trM; rw [if_pos hc]; rfl
  show shF g (-eastN (trL [f, g] m 1) 1) (-southN (trL [f, g] m 1) 1) = _
  rw [e1, e2, e3]
theorem fw_W {b : List (List Int)} {m : Int} : BkW (fwL b m) := fun g hg => by
  unfold fwL fbL at hg
  split at hg
  · obtain ⟨i, _, rfl⟩ := List.mem_map.1 hg
    exact shF_V.W
  · cases hg
structure K24 (H G : Heap) (x : Value) (b : List (List Int)) (f : List Int) (m : Nat) : Prop where
  P : Pre H G
  bk : Bk G x b
  V : ∀ f ∈ b, VF f
  nb : b.length ≤ 4
  hf : VF f
  hm : m ≤ 4
theorem K24.pre {H G G' : Heap} {x : Value} {b : List (List Int)} {f : List Int} {m : Nat} (h : K24 H G x b f m) (p : Pre G G') : K24 H G' x b f m := ⟨h.P.trans p, SlR.pre p h.bk, h.V, h.nb, h.hf, h.hm⟩
def T31 : Cd := tailC 31 k24
theorem c24_30 {H G : Heap} {e : Env} {x mo : Value} {b : List (List Int)} {f : List Int} {m : Nat} {E S u v : Int} (h : K24 H G x b f m) (hmo : Bk G mo (fwL b m)) (hE : -(m : Int) ≤ E ∧ E ≤ m) (hS : -(m : Int) ≤ S ∧ S ≤ m)
    (h5 : e 5 = iv .u16 f) (h7 : e 7 = x) (h8 : e 8 = .int .i64 (m : Int)) (h21 : e 21 = .int .i64 E) (h22 : e 22 = .int .i64 S) (h23 : e 23 = iv .u16 (shF f E S)) (h25 : e 25 = iv .u16 (shF (shF f E S) (-E) (-S)))
    (h39 : e 39 = .int .i64 u) (h40 : e 40 = .int .i64 v) (h44 : e 44 = mo) (h46 : e 46 = .int .i64 u) (h47 : e 47 = .int .i64 v) : WK tab H.length false (tailC 30 k24) [] e G (QL H.length H) := by
  have hbw : BkW b := fun g hg => (h.V g hg).W
  have hnb := h.nb
  have hm := h.hm
  have hlf := h.hf.W.len
  obtain ⟨_, _, hfw⟩ := tk_all h.V (by omega) h.hm
  have hml : (fwL b m).length = b.length := by rw [hfw, fbL_len]
  have VA : VF (shF f E S) := shF_V
  generalize hA : shF f E S = A at *
  have hlA := VA.W.len
  have hlh : (shF A (-E) (-S)).length = 12 := shF_length
  obtain ⟨G1, hG1⟩ : ∃ G1, G1 = G ++ [(⟨bkC [f, A], 12, 0, false⟩ : Blk)] := ⟨_, rfl⟩
  have p1 : Pre G G1 := by rw [hG1]; exact Pre.one
  have h2w : BkW [f, A] := fun g hg => by
    rcases List.mem_cons.1 hg with e | e
    · exact e ▸ h.hf.W
    · rw [List.mem_singleton.1 e]; exact VA.W
  have hb2 : Bk G1 (slc G.length 0 0 2 2) [f, A] := by rw [hG1]; exact (own_new (n := 2) (by rw [bkC_length h2w]; rfl)).sl
  obtain ⟨r, G2, β, c155, p2, o2⟩ := call155 (pu := true) (m := (m : Int)) h2w (by simp) hb2
  obtain ⟨t2, _, _⟩ := tk_all (b := [f, A]) (m := m) (fun g hg => by
    rcases List.mem_cons.1 hg with e | e
    · exact e ▸ h.hf
    · rw [List.mem_singleton.1 e]; exact VA) (by simp) h.hm
  rw [t2] at c155
  obtain ⟨w1, w2⟩ := fw_two h.hf VA h.hm
  have c149 := call149 (pu := true) (H := G2) (m := (m : Int)) h.hf.W VA.W
  obtain ⟨a, c, d, hbm, hbM, _⟩ := bm_spec h.hf VA h.hm
  rw [hbm] at c149
  rw [hbM] at w2
  simp only at w2
  have o2s := o2.sl
  rw [w1] at o2s
  have hbkr : Bk G2 r (fwL [f, A] m) := by unfold Bk; rw [w1]; exact o2s
  obtain ⟨q, off, ver, ha, hr⟩ := Bk.get hbkr fw_W (i := 1) (by omega)
  have ha : idxAV 12 r (.int .i64 1) = some (adr q off ver) := ha
  rw [w2] at hr
  have hl3 : (shF A (-a) (-c)).length = 12 := shF_length
  have sfill := fill_two hlf hlA
  have z2 : stc (agg [.int .i8 0, .int .i8 0]) 0 (mvC (a, c)) = some (agg (mvC (a, c))) := stM
  have q1 := eqV_iv (k := .u16) hlh hlf
  have q2 := eqV_iv (k := .u16) hl3 hlf
  have hPre := (h.P.trans p1).trans p2
  have hne : tailC 30 k24 = headC 1 (tailC 30 k24) T31 := rfl
  have rest : ∀ e : Env, e 5 = iv .u16 f → e 8 = .int .i64 (m : Int) → e 21 = .int .i64 E → e 22 = .int .i64 S → e 23 = iv .u16 A → e 25 = iv .u16 (shF A (-E) (-S)) → WK tab H.length false T31 [] e G (QL H.length H) := by
    unfold T31
    intro e h5 h8 h21 h22 h23 h25
    have wa : IntKind.wrap .i64 a = a := wrap64 (by have := ‹BmS f A m a c d›.na; omega)
    have wc : IntKind.wrap .i64 c = c := wrap64 (by have := ‹BmS f A m a c d›.nb; omega)
    by_cases hh : shF A (-E) (-S) = f
    · by_cases hae : a = E
      · by_cases hcs : c = S
        · subst hae hcs
          rw [hh] at hr q2 h25 q1
          simp [tailC, k24, zs_cs, h5, h8, h21, h22, h23, h25, hlf, hlA, sfill, ← hG1, c155, c149, stM, mvC_len, ldM1, ldM2, wa, wc, o2s.lenV, q1, q2, ha, hr, agg_cs, skip, QL, hPre.take]
        · have hcs' : (c != S) = true := by simpa using hcs
          subst hae
          rw [hh] at h25 q1
          simp [tailC, k24, zs_cs, h5, h8, h21, h22, h23, h25, hlf, hlA, sfill, ← hG1, c155, c149, stM, mvC_len, ldM1, ldM2, wa, wc, o2s.lenV, q1, hcs', agg_cs, skip, QL, hPre.take]
      · have hae' : (a != E) = true := by simpa using hae
        rw [hh] at h25 q1
        simp [tailC, k24, zs_cs, h5, h8, h21, h22, h23, h25, hlf, hlA, sfill, ← hG1, c155, c149, stM, mvC_len, ldM1, ldM2, wa, wc, o2s.lenV, q1, hae', agg_cs, skip, QL, hPre.take]
    · simp [tailC, k24, zs_cs, h5, h8, h21, h22, h23, h25, hlf, hlA, hlh, sfill, ← hG1, c155, c149, stM, mvC_len, ldM1, ldM2, wa, wc, o2s.lenV, q1, hh, agg_cs, skip, QL, hPre.take]
  rw [hne]
  by_cases hb0 : 0 < b.length
  · have hg0 : (0 : Int) < b.length := by omega
    obtain ⟨q, off, ver, ha, hr⟩ := Bk.get h.bk hbw hb0
    obtain ⟨q', off', ver', ha', hr'⟩ := Bk.get hmo fw_W (i := 0) (by omega)
    rw [fw_first h.V (by omega) h.hm hb0] at hr'
    have hl0 := (hbw.fr hb0).len
    have q0 := eqV_iv (k := .u16) hl0 hl0
    have ha : idxAV 12 x (.int .i64 0) = some (adr q off ver) := ha
    have ha' : idxAV 12 mo (.int .i64 0) = some (adr q' off' ver') := ha'
    simp [headC, tailC, k24, h39, h40, h44, h46, h47, h7, h.bk.lenV, hb0, hg0, ha, hr, ha', hr', q0, agg_cs, skip]
    exact rest _ (by simp [h5]) (by simp [h8]) (by simp [h21]) (by simp [h22]) (by simp [h23]) (by simp [h25])
  · have hg0 : ¬ (0 : Int) < b.length := by omega
    simp [headC, tailC, k24, h39, h40, h44, h46, h47, h7, h.bk.lenV, hb0, hg0, skip]
    exact rest _ (by simp [h5]) (by simp [h8]) (by simp [h21]) (by simp [h22]) (by simp [h23]) (by simp [h25])
theorem trM_bm {b : List (List Int)} {m i : Nat} (h1 : VF (fr b i)) (h2 : VF (fr b (i + 1))) (hm : m ≤ 4) : trM b m i = (bmM (fr b i) (fr b (i + 1)) m).1 := by
  have hc : bmC (fr b i) (fr b (i + 1)) m = 0 := by
    have : in1 (m : Int) 0 4 = true := by unfold in1; simp; omega
    unfold bmC; rw [h1.ok, h2.ok, this]; rfl
  unfold bmM trM; rw [if_pos hc]
def T30 : Cd := tailC 30 k24
theorem eqMvM {v w : Int × Int} : eqV (.a (rb 2 (some .i8))) (agg (mvC v)) (agg (mvC w)) = some (decide (v = w)) := by
  have := eqV_iv (k := .i8) (f := [v.1, v.2]) (g := [w.1, w.2]) (n := 2) rfl rfl
  have e1 : iv .i8 [v.1, v.2] = agg (mvC v) := rfl
  have e2 : iv .i8 [w.1, w.2] = agg (mvC w) := rfl
  rw [e1, e2] at this
  rw [this]
  congr 1
  apply decide_eq_decide.2
  constructor
  · intro h
    have h1 : v.1 = w.1 ∧ v.2 = w.2 := by simpa using h
    exact Prod.ext h1.1 h1.2
  · intro h; rw [h]
theorem c24_27 {H G : Heap} {e : Env} {x mo lv : Value} {b : List (List Int)} {f : List Int} {m : Nat} {E S : Int} (h : K24 H G x b f m) (hmo : Bk G mo (fwL b m)) (hE : -(m : Int) ≤ E ∧ E ≤ m) (hS : -(m : Int) ≤ S ∧ S ≤ m)
    (hlv : SlR G lv 2 (b.length - 1) (mvsC (trL b m (b.length - 1))))
    (h5 : e 5 = iv .u16 f) (h7 : e 7 = x) (h8 : e 8 = .int .i64 (m : Int)) (h21 : e 21 = .int .i64 E) (h22 : e 22 = .int .i64 S) (h23 : e 23 = iv .u16 (shF f E S)) (h25 : e 25 = iv .u16 (shF (shF f E S) (-E) (-S)))
    (h35 : e 35 = lv) (h39 : e 39 = .int .i64 (eastN (trL b m (b.length - 1)) (b.length - 1))) (h40 : e 40 = .int .i64 (southN (trL b m (b.length - 1)) (b.length - 1))) (h44 : e 44 = mo) : WK tab H.length false (tailC 27 k24) [] e G (QL H.length H) := by
  have hbw : BkW b := fun g hg => (h.V g hg).W
  have hnb := h.nb
  have hm := h.hm
  obtain ⟨L, hL⟩ : ∃ L, L = trL b m (b.length - 1) := ⟨_, rfl⟩
  obtain ⟨n, hn⟩ : ∃ n, n = b.length - 1 := ⟨_, rfl⟩
  rw [← hL, ← hn] at hlv h39 h40
  rw [← hn] at hL
  have hll : L.length = n := by rw [hL, trL_len]
  have htiny : ∀ i, i < L.length → tinyM (mv L i) = true := fun i hi => by rw [hL, trL_mv (by omega)]; exact trM_tiny h.hm
  have e29 : tailC 27 k24 = headC 3 (tailC 27 k24) T30 := rfl
  rw [e29]
  simp [headC, tailC, k24]
  refine WP_forH 48 n n rfl (by omega) (fun i e => e 5 = iv .u16 f ∧ e 7 = x ∧ e 8 = .int .i64 (m : Int) ∧ e 21 = .int .i64 E ∧ e 22 = .int .i64 S ∧ e 23 = iv .u16 (shF f E S) ∧ e 25 = iv .u16 (shF (shF f E S) (-E) (-S)) ∧
    e 35 = lv ∧ e 39 = .int .i64 (eastN L n) ∧ e 40 = .int .i64 (southN L n) ∧ e 44 = mo ∧ e 46 = .int .i64 (eastN L i) ∧ e 47 = .int .i64 (southN L i)) ?_ ?_ (by simp)
    ⟨by simp [h5], by simp [h7], by simp [h8], by simp [h21], by simp [h22], by simp [h23], by simp [h25], by simp [h35], by simp [h39], by simp [h40], by simp [h44], by simp [eastN, itN_zero], by simp [southN, itN_zero]⟩
  · rintro i e hi hii e4 h48 ⟨h5, h7, h8, h21, h22, h23, h25, h35, h39, h40, h44, h46, h47⟩
    have hib : i < b.length := by omega
    have hib1 : i + 1 < b.length := by omega
    have V1 := h.V _ (at0_mem hib)
    have V2 := h.V _ (at0_mem hib1)
    obtain ⟨q, off, ver, ha, hr⟩ := Bk.get h.bk hbw hib
    obtain ⟨q', off', ver', ha', hr'⟩ := Bk.get h.bk hbw hib1
    obtain ⟨p, po, pv, hp, hpr⟩ := hlv.get1 hi
    rw [mvsC_elem (by omega)] at hpr
    have hmv : mv L i = trM b m i := by rw [hL, trL_mv (by omega)]
    have c149 := call149 (pu := true) (H := G) (m := (m : Int)) (hbw.fr hib) (hbw.fr hib1)
    obtain ⟨a, c, d, hbm, hbM, hB⟩ := bm_spec V1 V2 h.hm
    have hbm : bmR (fr b i) (fr b (i + 1)) m = tup [agg (mvC (a, c)), .int .i64 d, .int .i64 0] := hbm
    rw [hbm] at c149
    have htr := trM_bm (b := b) (i := i) V1 V2 h.hm
    have hbM' : (bmM (fr b i) (fr b (i + 1)) m).1 = (a, c) := by
      have : bmM (fr b i) (fr b (i + 1)) m = ((a, c), d) := hbM
      rw [this]
    rw [hmv, htr, hbM'] at hpr
    have hmv' : mv L i = (a, c) := by rw [hmv, htr, hbM']
    have he := eastN_tiny htiny (k := i) (by omega)
    have hs := southN_tiny htiny (k := i) (by omega)
    have hna := hB.na
    have hnc := hB.nb
    have wa : IntKind.wrap .i64 a = a := wrap64 (by omega)
    have wc : IntKind.wrap .i64 c = c := wrap64 (by omega)
    have we : IntKind.wrap .i64 (eastN L i + a) = eastN L (i + 1) := by rw [wrap64 (by omega), eastN, eastN, itN_succ, hmv']
    have ws : IntKind.wrap .i64 (southN L i + c) = southN L (i + 1) := by rw [wrap64 (by omega), southN, southN, itN_succ, hmv']
    have hq : eqV (.a (rb 2 (some .i8))) (agg (mvC (a, c))) (agg (mvC (a, c))) = some true := by rw [eqMvM]; simp
    have ha2 : idxAV 12 x (.int .i64 ((i : Int) + 1)) = some (adr q' off' ver') := ha'
    simp [b24_1, h48, h5, h7, h8, h21, h22, h23, h25, h35, h39, h40, h44, h46, h47, hlv.lenV, hii, ha, hr, ha2, hr', hp, hpr, c149, stM, mvC_len, ldM, ldM1, ldM2, hq, wa, wc, we, ws, agg_cs, e4, skip]
  · rintro e h48 ⟨h5, h7, h8, h21, h22, h23, h25, h35, h39, h40, h44, h46, h47⟩
    simp [b24_1, h48, h35, hlv.lenV]
    exact c24_30 (u := eastN L n) (v := southN L n) h hmo hE hS (by simp [h5]) (by simp [h7]) (by simp [h8]) (by simp [h21]) (by simp [h22]) (by simp [h23]) (by simp [h25]) (by simp [h39]) (by simp [h40]) (by simp [h44]) (by simp [h46]) (by simp [h47])
def T27 : Cd := tailC 27 k24
theorem c24_20 {H G : Heap} {e : Env} {x : Value} {b : List (List Int)} {f : List Int} {m : Nat} {E S : Int} (h : K24 H G x b f m) (hE : -(m : Int) ≤ E ∧ E ≤ m) (hS : -(m : Int) ≤ S ∧ S ≤ m)
    (h5 : e 5 = iv .u16 f) (h7 : e 7 = x) (h8 : e 8 = .int .i64 (m : Int)) (h21 : e 21 = .int .i64 E) (h22 : e 22 = .int .i64 S) (h23 : e 23 = iv .u16 (shF f E S)) (h25 : e 25 = iv .u16 (shF (shF f E S) (-E) (-S))) :
    WK tab H.length false (tailC 20 k24) [] e G (QL H.length H) := by
  have hbw : BkW b := fun g hg => (h.V g hg).W
  have hnb := h.nb
  have hm := h.hm
  obtain ⟨ht, hL, hfw⟩ := tk_all h.V (by omega) h.hm
  have hml : (fwL b m).length = b.length := by rw [hfw, fbL_len]
  have hll : (tkL b m).length = b.length - 1 := by rw [hL, trL_len]
  have htiny : ∀ i, i < (tkL b m).length → tinyM (mv (tkL b m) i) = true := fun i hi => by rw [hL, trL_mv (by omega)]; exact trM_tiny h.hm
  have hok : MvOk (tkL b m) := fun i hi => by
    have := tinyM_ok (htiny i hi)
    unfold i8; omega
  have hsm : (tkL b m).all smM = true := List.all_eq_true.2 fun a ha => by
    obtain ⟨i, hi, rfl⟩ := List.getElem_of_mem ha
    have hmv : mv (tkL b m) i = (tkL b m)[i] := Option.some.inj ((at0_get hi).symm.trans (List.getElem?_eq_getElem hi))
    have := tinyM_ok (htiny i hi)
    rw [hmv] at this
    exact smM_iff.2 (by omega)
  obtain ⟨r1, G1, β1, c1, p1, o1⟩ := call151 (pu := true) (m := (m : Int)) hbw (by omega) h.bk
  have B1 : Bk G1 x b := SlR.pre p1 h.bk
  obtain ⟨r2, G2, β2, c2, p2, o2⟩ := call152 (pu := true) (m := (m : Int)) hbw (by omega) B1
  rw [ht] at c1 c2
  have c3 := call154 (pu := true) o2.sl (by omega) hok
  rw [if_pos hsm] at c3
  obtain ⟨_, hV, hC⟩ := rm_T hsm
  have htl := mvT_len hsm
  obtain ⟨r3, G3, β3, c4, p3, o3⟩ := call153 (pu := true) (l := mvT (tkL b m)) (by omega) (H := G2)
  rw [hV] at o3
  rw [hC] at c4
  have o2' := o2.pre p3
  have c5 := call71 (pu := true) o2'.sl (by omega) hok
  have B3 : Bk G3 x b := SlR.pre p3 (SlR.pre p2 B1)
  obtain ⟨r4, G4, β4, c6, p4, o4⟩ := call155 (pu := true) (m := (m : Int)) hbw (by omega) B3
  have B4 : Bk G4 x b := SlR.pre p4 B3
  obtain ⟨r5, G5, β5, c7, p5, o5⟩ := call156 (pu := true) (m := (m : Int)) hbw (by omega) B4
  rw [ht] at c6 c7
  have P35 := p4.trans p5
  have P25 := p3.trans P35
  have s1 := ((o1.pre p2).pre P25).sl
  have s2 := (o2.pre P25).sl
  have s3 := (o3.pre P35).sl
  have s4 := (o4.pre p5).sl
  have s5 := o5.sl
  have c8 := call131 (pu := true) s1 s2 (by omega)
  have c9 := call131 (pu := true) s3 s2 (by omega)
  have c10 := call91 (pu := true) (b := fwL b m) s4 s5 (by omega) fw_W
  have k5 : K24 H G5 x b f m := h.pre ((p1.trans p2).trans P25)
  have e20 : tailC 20 k24 = headC 7 (tailC 20 k24) T27 := rfl
  have w1 : IntKind.wrap .i64 ((b.length : Int) - 1) = (b.length : Int) - 1 := wrap64 (by omega)
  have w2 : (if (b.length : Int) - 1 > 0 then (b.length : Int) - 1 else 0) = ((b.length - 1 : Nat) : Int) := by split <;> omega
  have w3 : (if 0 < (b.length : Int) - 1 then (b.length : Int) - 1 else 0) = ((b.length - 1 : Nat) : Int) := by split <;> omega
  have w4 : (if 1 < (b.length : Int) then (b.length : Int) - 1 else 0) = ((b.length - 1 : Nat) : Int) := by split <;> omega
  have n1 : (((b.length - 1 : Nat) : Int) != ((b.length - 1 : Nat) : Int)) = false := by simp
  have l2 := s2.lenV
  have l5 := s5.lenV
  rw [hll] at l2
  rw [hml] at l5
  rw [e20]
  simp [headC, tailC, k24, h5, h7, h8, c1, c2, c3, c4, c5, sumR, c6, c7, c8, c9, c10, l2, l5, k5.bk.lenV, w1, w2, w3, w4, n1, skip]
  have s2' := s2
  rw [hll, hL] at s2'
  have hll' := hll
  rw [hL] at hll'
  exact c24_27 k5 s5 hE hS s2' (by simp [h5]) (by simp [h7]) (by simp [h8]) (by simp [h21]) (by simp [h22]) (by simp [h23]) (by simp [h25]) (by simp) (by simp [hL, hll']) (by simp [hL, hll']) (by simp)
def T20 : Cd := tailC 20 k24
def T13 : Cd := tailC 13 k24
theorem c24_13 {H G : Heap} {e : Env} {x y1 y2 : Value} {b : List (List Int)} {f g bs cs' : List Int} {m : Nat} (h : K24 H G x b f m) (hg : VF g) (b1 : By G y1 bs) (b2 : By G y2 cs')
    (hg2 : ∀ (pu : Bool) (H : Heap) (x : Value), By H x cs' → Call tab pu 147 [x] H = some (iv .u16 g, H))
    (h0 : e 0 = y1) (h1 : e 1 = y2) (h5 : e 5 = iv .u16 f) (h7 : e 7 = x) (h8 : e 8 = .int .i64 (m : Int)) (h19 : e 19 = .int .i64 (difF f g)) : WK tab H.length false T13 [] e G (QL H.length H) := by
  have hm := h.hm
  have hlf := h.hf.W.len
  obtain ⟨E0, c1, e1, e2⟩ := call124 (pu := true) (i := 0) (n := 2 * (m : Int) + 1) b1 (by omega) (by omega)
  obtain ⟨S0, c2, s1, s2⟩ := call124 (pu := true) (i := 1) (n := 2 * (m : Int) + 1) b1 (by omega) (by omega)
  have w1 : IntKind.wrap .i64 (2 * (m : Int)) = 2 * m := wrap64 (by omega)
  have w2 : IntKind.wrap .i64 (2 * (m : Int) + 1) = 2 * m + 1 := wrap64 (by omega)
  obtain ⟨E, hE⟩ : ∃ E, E = E0 - m := ⟨_, rfl⟩
  obtain ⟨S, hS⟩ : ∃ S, S = S0 - m := ⟨_, rfl⟩
  have w3 : IntKind.wrap .i64 (E0 - m) = E := by rw [wrap64 (by omega), hE]
  have w4 : IntKind.wrap .i64 (S0 - m) = S := by rw [wrap64 (by omega), hS]
  have w5 : IntKind.wrap .i64 (-E) = -E := wrap64 (by omega)
  have w6 : IntKind.wrap .i64 (-S) = -S := wrap64 (by omega)
  have c3 := call150 (pu := true) (H := G) (dx := E) (dy := S) h.hf (by omega) (by omega)
  have VA : VF (shF f E S) := shF_V
  have c4 := call150 (pu := true) (H := G) (dx := -E) (dy := -S) VA (by omega) (by omega)
  have c5 := call148 (pu := true) (H := G) (m := (m : Int)) h.hf.W VA.W
  obtain ⟨a, c, d, hbm, _, hB⟩ := bm_spec h.hf VA h.hm
  have hd : d = 0 := by
    have := hB.best E S (by omega) (by omega)
    rw [difF_self VA] at this
    have := hB.pos.1
    omega
  rw [hbm, hd] at c5
  have c6 := hg2 true G y2 b2
  have c7 := call148 (pu := true) (H := G) (m := ((0 : Nat) : Int)) h.hf.W hg.W
  obtain ⟨a', c', d', hbm', _, hB'⟩ := bm_spec (m := 0) h.hf hg (by omega)
  have hd' : d' = difF f g := by
    have h1 := hB'.na
    have h2 := hB'.nb
    have : a' = 0 := by omega
    subst this
    have : c' = 0 := by omega
    subst this
    rw [hB'.val, shF_zero h.hf.W h.hf.ok]
  rw [hbm', hd'] at c7
  have c7 : Call tab true 148 [iv .u16 f, iv .u16 g, .int .i64 0] G = _ := c7
  have t1 := stc_zr (k := .u16) (n := 12) (l := shF f E S) shF_length
  have t2 := stc_zr (k := .u16) (n := 12) (l := shF (shF f E S) (-E) (-S)) shF_length
  have hlA : (shF f E S).length = 12 := shF_length
  have hlh : (shF (shF f E S) (-E) (-S)).length = 12 := shF_length
  have e13 : T13 = headC 7 T13 T20 := rfl
  rw [e13]
  unfold T13
  have c1 : Call tab true 124 [y1, .int .i64 0, .int .i64 (2 * (m : Int) + 1)] G = some (.int .i64 E0, G) := c1
  have c2 : Call tab true 124 [y1, .int .i64 1, .int .i64 (2 * (m : Int) + 1)] G = some (.int .i64 S0, G) := c2
  simp [headC, tailC, k24, zs_cs, agg_cs, h0, h1, h5, h7, h8, h19, c1, c2, w1, w2, w3, w4, w5, w6, c3, c4, c5, c6, c7, t1, t2, hlf, hlA, hlh, stM, mvC_len, skip]
  exact c24_20 h (E := E) (S := S) (by omega) (by omega) (by simp [h5]) (by simp [h7]) (by simp [h8]) (by simp) (by simp) (by simp) (by simp)
def T6 : Cd := tailC 6 k24
theorem call24 {H : Heap} {y1 y2 : Value} {bs cs' : List Int} (b1 : By H y1 bs) (b2 : By H y2 cs') : ∃ H', Call tab false 24 [y1, y2] H = some (.bool true, H') := by
  refine ⟨H, Call_wp t24 (.inl rfl) rfl ?_⟩
  have c84 := call84 (pu := true) b1 b2
  by_cases hbig : (decide (3000 < bs.length) || decide (3000 < cs'.length)) = true
  · rw [hbig] at c84
    have e0 : k24 = headC 2 k24 (tailC 2 k24) := rfl
    simp [c24, k24, c84]
  have hbig' := Bool.eq_false_iff.2 hbig
  rw [hbig'] at c84
  simp only [Bool.or_eq_false_iff, decide_eq_false_iff_not] at hbig'
  have ok1 : OkBs bs := ⟨b1.b, by omega⟩
  have ok2 : OkBs cs' := ⟨b2.b, by omega⟩
  obtain ⟨f, hf, cf⟩ := a2frame ok1
  obtain ⟨g, hg, cg⟩ := a2frame ok2
  have c1 := cf true H y1 b1
  have c2 := cg true H y2 b2
  obtain ⟨L, c85, hV, hl⟩ := call85 (pu := true) b2 (by omega)
  obtain ⟨G, hG⟩ : ∃ G, G = H ++ [(⟨bkC L, 12, 0, false⟩ : Blk)] := ⟨_, rfl⟩
  rw [← hG] at c85
  have P : Pre H G := by rw [hG]; exact Pre.one
  have hLw : BkW L := fun f hf => (hV f hf).W
  have hL : Bk G (slc H.length 0 0 L.length L.length) L := by rw [hG]; exact slr_new (bkC_length hLw)
  have b1' := b1.pre P
  have b2' := b2.pre P
  obtain ⟨m0, c124, m1, m2⟩ := call124 (pu := true) (i := 0) (n := 4) b2' (by omega) (by omega)
  obtain ⟨m, rfl⟩ := Int.eq_ofNat_of_zero_le m1
  have hm : m ≤ 3 := by omega
  have hlf := hf.W.len
  have hlg := hg.W.len
  have d1 := call148 (pu := true) (H := G) (m := (m : Int)) hf.W hg.W
  have d2 := call149 (pu := true) (H := G) (m := (m : Int)) hf.W hg.W
  obtain ⟨a, c, w, hbm, _, hB⟩ := bm_spec (m := m) hf hg (by omega)
  rw [hbm] at d1 d2
  have hna := hB.na
  have hnb := hB.nb
  have d3 := call132 (pu := true) (H := G) (dx := a) (dy := c) hf (by omega) (by omega)
  have d4 := call125 (pu := true) (H := G) (a := shF f a c) (b := g) shF_V hg
  have d5 := call125 (pu := true) (H := G) (a := f) (b := g) hf hg
  rw [← hB.val] at d4
  have hle : ¬ difF f g < w := by have := hB.pos.2; omega
  have t0 := stc_zr (k := .u16) (n := 12) (l := f) hlf
  have t1 := stc_zr (k := .u16) (n := 12) (l := g) hlg
  have t2 := stc_zr (k := .u16) (n := 12) (l := shF f a c) shF_length
  have hlA : (shF f a c).length = 12 := shF_length
  have hq : eqV (.a (rb 2 (some .i8))) (agg (mvC (a, c))) (agg (mvC (a, c))) = some true := by rw [eqMvM]; simp
  have wa : IntKind.wrap .i64 a = a := wrap64 (by omega)
  have wc : IntKind.wrap .i64 c = c := wrap64 (by omega)
  have wa8 : IntKind.wrap .i8 (-a) = -a := wrap8 (by omega)
  have wc8 : IntKind.wrap .i8 (-c) = -c := wrap8 (by omega)
  have wm8 : IntKind.wrap .i8 (m : Int) = m := wrap8 (by omega)
  have g1 : ¬ (m : Int) < (if a < -a then -a else a) := by split <;> omega
  have g2 : ¬ (m : Int) < (if c < -c then -c else c) := by split <;> omega
  have main : ∀ (e : Env) (x : Value) (b : List (List Int)), Bk G x b → (∀ f ∈ b, VF f) → b.length ≤ 4 → e 0 = y1 → e 1 = y2 → e 5 = iv .u16 f → e 6 = iv .u16 g → e 7 = x → WK tab H.length false T6 [] e G (QL H.length H) := by
    unfold T6
    intro e x b hb hVb hb4 h0 h1 h5 h6 h7
    have e6 : tailC 6 k24 = headC 7 (tailC 6 k24) T13 := rfl
    have k : K24 H G x b f m := ⟨P, hb, hVb, hb4, hf, by omega⟩
    have c124 : Call tab true 124 [y2, .int .i64 0, .int .i64 4] G = some (.int .i64 (m : Int), G) := c124
    rw [e6]
    simp [headC, tailC, k24, zs_cs, agg_cs, h0, h1, h5, h6, h7, c124, d1, d2, d3, d4, d5, t0, t1, t2, hlf, hlg, hlA, stM, ldM, ldM1, ldM2, mvC_len, hq, wa, wc, wa8, wc8, wm8, hle, g1, g2, skip]
    exact c24_13 k hg b1' b2' cg (by simp [h0]) (by simp [h1]) (by simp [h5]) (by simp [h7]) (by simp) (by simp)
  have e0 : k24 = headC 6 k24 T6 := rfl
  have fin : WK tab H.length false k24 [] (ini [y1, y2]) H (QL H.length H) := by
    rw [e0]
    by_cases h4 : 4 < L.length
    · have h4' : (4 : Int) < L.length := by omega
      obtain ⟨z, hz, hzs⟩ := hL.hi (hi := 4) (k' := .i64) (by omega)
      have hz : slcAV G 12 (slc H.length 0 0 L.length L.length) none (some (.int .i64 4)) none = some z := hz
      rw [(bkC_split (lo := 4) hV).2] at hzs
      have hzb : Bk G z (L.take 4) := by unfold Bk; rw [List.length_take, Nat.min_eq_left (by omega)]; exact hzs
      simp [headC, k24, c84, c1, c2, c85, h4', zs_cs, agg_cs, hlf, hlg, t0, t1, hz]
      exact main _ z (L.take 4) hzb (fun f hf => hV f (List.mem_of_mem_take hf)) (by simp; omega) (by simp) (by simp) (by simp) (by simp) (by simp)
    · have h4' : ¬ (4 : Int) < L.length := by omega
      simp [headC, k24, c84, c1, c2, c85, h4', zs_cs, agg_cs, hlf, hlg, t0, t1]
      exact main _ _ L hL hV (by omega) (by simp) (by simp) (by simp) (by simp) (by simp)
  exact fin
end Fb
