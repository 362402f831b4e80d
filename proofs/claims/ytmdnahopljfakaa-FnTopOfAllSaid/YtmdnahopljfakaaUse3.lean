/- What each function computes. -/
import Derived.Test.YtmdnahopljfakaaUse2
set_option linter.unusedVariables false
set_option linter.unusedSimpArgs false
namespace Fb
open Go
theorem call561 {H : Heap} {P n : Nat} {m : Int × Int} (hP : rd H P 0 0 1 = some [.int .i64 (n : Int)]) (hn : n ≤ 40) (h1 : 0 ≤ m.1) (h2 : m.1 < n) (h3 : 1 ≤ m.2) (h4 : m.2 ≤ 24) : Call tab true 561 [agg (mvC m), adr P 0 0] H = some (.bool false, H) := by
  refine Call_wp t561 (.inr rfl) rfl ?_
  have w1 : IntKind.wrap .i64 m.1 = m.1 := wrap64 (by omega)
  have w2 : IntKind.wrap .i64 m.2 = m.2 := wrap64 (by omega)
  have w3 : IntKind.wrap .i64 ((n : Int) - 1) = (n : Int) - 1 := wrap64 (by omega)
  have d1 : decide (0 ≤ m.1 ∧ m.1 ≤ (n : Int) - 1) = true := decide_eq_true (by omega)
  have d2 : decide (1 ≤ m.2 ∧ m.2 ≤ 24) = true := decide_eq_true (by omega)
  simp [c561, k561, ldM1, ldM2, w1, w2, w3, hP, call295, d1, d2, skip, -Bool.decide_and, -decide_eq_true_eq]
theorem call586 {H : Heap} {x : Value} {s : ML} {P n : Nat} (hs : SlR H x 2 s.length (mvsC s)) (hP : rd H P 0 0 1 = some [.int .i64 (n : Int)]) (hn : n ≤ 40) (hk : okShs s n) :
    Call tab true 586 [x, .func (.func 561) #[] #[adr P 0 0]] H = some (.int .i64 (-1), H) := by
  refine Call_wp t586 (.inr rfl) rfl ?_
  have := hk.1
  simp [c586, k586, hs.lenV]
  refine WP_forH 8 s.length s.length rfl (by omega) (fun i e => e 0 = x ∧ e 1 = .func (.func 561) #[] #[adr P 0 0] ∧ e 7 = .int .i64 s.length) ?_ ?_ (by simp) ⟨by simp, by simp, by simp⟩
  · rintro i e hi hii e9 h8 ⟨h0, h1, h7⟩
    obtain ⟨q, off, ver, ha, hr⟩ := hs.get1 hi
    rw [mvsC_elem hi] at hr
    obtain ⟨v1, v2, v3, v4⟩ := hk.2 i hi
    have c := call561 hP hn v1 v2 v3 v4
    simp [b586_1, h8, h0, h1, h7, hii, ha, hr, c, e9]
  · rintro e h8 ⟨h0, h1, h7⟩
    simp [b586_1, h8, h7]
theorem call560 {H : Heap} {x : Value} {s : ML} {P n : Nat} (hs : SlR H x 2 s.length (mvsC s)) (hP : rd H P 0 0 1 = some [.int .i64 (n : Int)]) (hn : n ≤ 40) (hk : okShs s n) :
    Call tab true 560 [x, .func (.func 561) #[] #[adr P 0 0]] H = some (.bool false, H) := by
  refine Call_wp t560 (.inr rfl) rfl ?_
  simp [c560, k560, call586 hs hP hn hk]
theorem call493 {pu : Bool} {H : Heap} {x : Value} {s : ML} {n : Nat} (hs : SlR H x 2 s.length (mvsC s)) (hn : n ≤ 40) (hk : okShs s n) : Call tab pu 493 [x, .int .i64 (n : Int)] H = some (.bool true, H) := by
  refine Call_wp t493 (.inr rfl) rfl ?_
  obtain ⟨G, hG⟩ : ∃ G, G = H ++ [(⟨[.int .i64 (n : Int)], 1, 0, false⟩ : Blk)] := ⟨_, rfl⟩
  have p : Pre H G := by rw [hG]; exact Pre.one
  have hP : rd G H.length 0 0 1 = some [.int .i64 (n : Int)] := by rw [hG]; exact rd_last rfl rfl
  have c := call560 (SlR.pre p hs) hP hn hk
  have hl : (s.length : Int) ≤ 80 := by have := hk.1; omega
  have ht : G.take H.length = H := p.take
  simp [c493, k493, ← hG, hs.lenV, hl, c, ht]
theorem call320 {pu : Bool} {H : Heap} {x y : Value} {b : List (List Int)} {s : ML} (h : Bk H x b) (hV : ∀ f ∈ b, VF f) (hn : b.length ≤ 40) (hs : SlR H y 2 s.length (mvsC s)) (hk : okShs s b.length) : Call tab pu 320 [x, y] H = some (.bool true, H) := by
  have hw : BkW b := fun f hf => (hV f hf).W
  refine Call_wp t320 (.inr rfl) rfl ?_
  have c1 := call316 (pu := true) h hw (by omega)
  rw [okB_V hV hn] at c1
  have c2 := call493 (pu := true) hs hn hk
  simp [c320, k320, c1, h.lenV, c2]
theorem call322 {pu : Bool} {H : Heap} {b ver n : Nat} (hb : b < H.length) (hn : n ≤ 40) : Call tab pu 322 [slc b 0 ver n n] H = some (tup [slc b 0 ver n n, .int .i64 0], H) := by
  refine Call_wp t322 (.inr rfl) rfl ?_
  have hl : ¬ (40 : Int) < n := by omega
  have ho : old1 H.length (slc b 0 ver n n) = true := by
    show (true && decide (b < H.length)) = true
    simp [hb]
  simp [c322, k322, hl, ho]
theorem tckL_in {s : ML} {n : Nat} (hk : okShs s n) {k : Nat} (h : k ≤ s.length) {a : Int} (ha : a ∈ tckL s k) : 0 ≤ a ∧ a < n := by
  induction k with
  | zero => rw [tckL_zero] at ha; cases ha
  | succ k ih =>
    rw [tckL_succ, List.mem_append] at ha
    rcases ha with ha | ha
    · exact ih (by omega) ha
    · rw [List.mem_replicate] at ha
      rw [ha.2]
      have := hk.2 k (by omega)
      exact ⟨this.1, this.2.1⟩
def plB (b : List (List Int)) (l : List Int) : List (List Int) := l.map fun a => fr b a.toNat
theorem plB_succ {b : List (List Int)} {l : List Int} {j : Nat} (h : j < l.length) : plB b (l.take (j + 1)) = plB b (l.take j) ++ [fr b (nth l j).toNat] := by
  have : l.take (j + 1) = l.take j ++ [nth l j] := by
    rw [List.take_add_one, List.getElem?_eq_getElem h]; simp [nth, h]
  rw [this]; simp [plB]
theorem nth_in {l : List Int} {j : Nat} (h : j < l.length) : nth l j ∈ l := by
  have : nth l j = l[j] := by simp [nth, h]
  rw [this]; exact List.getElem_mem h
theorem call89 {pu : Bool} {H : Heap} {x y : Value} {b : List (List Int)} {s : ML} (h : Bk H x b) (hV : ∀ f ∈ b, VF f) (hn : b.length ≤ 40) (hs : SlR H y 2 s.length (mvsC s)) (hk : okShs s b.length) (hm : (tckL s s.length).length ≤ 40) :
    Call tab pu 89 [x, y] H = some (tup [slc H.length 0 0 (tckL s s.length).length (tckL s s.length).length, .int .i64 0], H ++ [⟨bkC (plB b (tckL s s.length)), 12, 0, false⟩]) := by
  have hw : BkW b := fun f hf => (hV f hf).W
  refine Call_wp t89 (.inr rfl) rfl ?_
  have c1 := call320 (pu := true) h hV hn hs hk
  have hf0 : fill (rep 0 (cs .u16 (zr 12 0))) [] = some [] := rfl
  obtain ⟨G1, hG1⟩ : ∃ G1, G1 = H ++ [(⟨[], 12, 0, false⟩ : Blk)] := ⟨_, rfl⟩
  have p1 : Pre H G1 := by rw [hG1]; exact Pre.one
  have l1 : G1.length = H.length + 1 := by rw [hG1]; simp
  have hv : ∀ i, i < s.length → 1 ≤ (mv s i).2 ∧ (mv s i).2 ≤ 24 ∧ -128 ≤ (mv s i).1 ∧ (mv s i).1 ≤ 127 := fun i hi => by
    have := hk.2 i hi; omega
  have c2 := call321 (pu := true) (SlR.pre p1 hs) hv hk.1
  have hin : ∀ a ∈ tckL s s.length, 0 ≤ a ∧ a < b.length := fun a ha => tckL_in hk (Nat.le_refl _) ha
  generalize tckL s s.length = L at *
  obtain ⟨G2, hG2⟩ : ∃ G2, G2 = G1 ++ [(⟨cs .i64 L, 1, 0, false⟩ : Blk)] := ⟨_, rfl⟩
  rw [← hG2] at c2
  have p2 : Pre G1 G2 := by rw [hG2]; exact Pre.one
  have z1 : GrB H G2 H.length (slc H.length 0 0 0 0) 12 0 (bkC []) := GrB.mk' (by rw [p2.get (by omega), hG1]; exact get_last) (Nat.le_refl _) (p1.trans p2)
  have z2 : G2[H.length + 1]? = some ⟨cs .i64 L, 1, 0, false⟩ := by rw [hG2, ← l1]; exact get_last
  rw [l1] at c2
  simp [c89, k89, c1, hf0, zs_cs, ← hG1, c2]
  refine WP_count 17 L.length L.length rfl (fun j e G => e 0 = x ∧ e 15 = slc (H.length + 1) 0 0 L.length L.length ∧ e 16 = .int .i64 L.length ∧ ∃ x6, e 6 = x6 ∧ GrB H G H.length x6 12 j (bkC (plB b (L.take j))) ∧ G[H.length + 1]? = some ⟨cs .i64 L, 1, 0, false⟩) (by omega) ?_ ?_ (by simp)
    ⟨by simp, by simp, by simp, _, by simp; rfl, by simpa [plB] using z1, z2⟩
  · rintro j e G _ hj hjj e17 h17 ⟨h0, h15, h16, x6, h6, g, gt⟩
    obtain ⟨r1, r2⟩ := hin _ (nth_in hj)
    obtain ⟨i, hi⟩ : ∃ i : Nat, nth L j = i := ⟨(nth L j).toNat, by omega⟩
    have hps := plB_succ (b := b) hj
    have rt : rd G (H.length + 1) j 0 1 = some [.int .i64 (i : Int)] := by
      rw [rd_at gt rfl (by simp; omega)]
      simp only []
      rw [cs_one hj, hi]
    have hib : i < b.length := by omega
    obtain ⟨q, off, ver, ha, hr⟩ := Bk.get (h.pre g.pr) hw hib
    have hl := (hw.fr hib).len
    rw [hi, Int.toNat_natCast] at hps
    obtain ⟨x6', G3, c3, g3, kp⟩ := g.push (c := cs .u16 (fr b i)) (bytes := 24) (by simp [hl]) (room24 (by omega)) (wb := false)
    have gt3 := (kp (H.length + 1) (by omega) (List.getElem?_eq_some_iff.1 gt).1).trans gt
    rw [bkC_push, ← hps] at g3
    simp [b89_1, h17, h0, h15, h16, h6, hj, rt, ha, hr, zs_cs, agg_cs, hl, fillF hl, c3, wbOf, e17]
    exact ⟨g3, gt3⟩
  · rintro e G _ h17 ⟨h0, h15, h16, x6, h6, g, gt⟩
    rw [List.take_length] at g
    have hfin := g.gr.fin2 bkC_flat (c := 0)
    have hlt := g.ltG
    obtain ⟨ver, rfl, _⟩ := g
    have c4 := call322 (pu := true) (H := G) (ver := ver) hlt hm
    simp [b89_1, h17, h16, h6, c4, hfin]
theorem call90 {pu : Bool} {H : Heap} {x y : Value} {s : ML} (hs : SlR H x 2 s.length (mvsC s)) (ht : SlR H y 2 s.length (mvsC s)) (hn : s.length ≤ 1000000) : Call tab pu 90 [x, y] H = some (.bool true, H) := by
  refine Call_wp t90 (.inr rfl) rfl ?_
  simp [c90, k90, hs.lenV, ht.lenV]
  refine WP_forH 5 s.length s.length rfl (by omega) (fun i e => e 0 = x ∧ e 1 = y) ?_ ?_ (by simp) ⟨by simp, by simp⟩
  · rintro i e hi hii e9 h5 ⟨h0, h1⟩
    obtain ⟨q, off, ver, ha, hr⟩ := hs.get1 hi
    obtain ⟨q', off', ver', ha', hr'⟩ := ht.get1 hi
    rw [mvsC_elem hi] at hr hr'
    have eq : eqV (.a (rb 2 (some .i8))) (agg (mvC (mv s i))) (agg (mvC (mv s i))) = some true := by
      have := eqV_iv (k := .i8) (n := 2) (f := [(mv s i).1, (mv s i).2]) (g := [(mv s i).1, (mv s i).2]) rfl rfl
      rw [decide_eq_true rfl] at this
      exact this
    simp [b90_1, h5, h0, h1, hs.lenV, hii, ha, hr, ha', hr', eq, e9]
  · rintro e h5 ⟨h0, h1⟩
    simp [b90_1, h5, h0, hs.lenV]
theorem call272 {pu : Bool} {H : Heap} {x : Value} {b : List (List Int)} (h : Bk H x b) (hV : ∀ f ∈ b, VF f) (hn : b.length ≤ 40) : Call tab pu 272 [x] H = some (tup [slc H.length 0 0 (dsL b b.length).1.length (dsL b b.length).1.length, slc (H.length + 1) 0 0 b.length b.length, .int .i64 0], dsH H b) := by
  have hw : BkW b := fun f hf => (hV f hf).W
  refine Call_wp t272 (.inr rfl) rfl ?_
  have c1 := call316 (pu := true) h hw (by omega)
  rw [okB_V hV hn] at c1
  have c2 := call317 (pu := true) h hV (by omega)
  have I := dsL_I (b := b) (k := b.length)
  have pp : Pre H (dsH H b) := ⟨_, rfl⟩
  have VD := dsL_V hV (k := b.length) (Nat.le_refl _)
  have g1 : GrB H (dsH H b) H.length (slc H.length 0 0 (dsL b b.length).1.length (dsL b b.length).1.length) 12 (dsL b b.length).1.length (bkC (dsL b b.length).1) := ⟨0, rfl, by simp [dsH], Nat.le_refl _, vl_size VD, pp⟩
  have g2 : GrB H (dsH H b) (H.length + 1) (slc (H.length + 1) 0 0 b.length b.length) 1 b.length (cs .i64 (dsL b b.length).2) := ⟨0, rfl, by simp [dsH], by omega, by simp [I.l2], pp⟩
  have hfin := fin_two g1 g2 (by omega) bkC_flat flat_cs (c := 0)
  simp [c272, k272, c1, c2, dsV, hfin]
  rfl
theorem plB_ds {b : List (List Int)} : plB (dsL b b.length).1 (dsL b b.length).2 = b := by
  have I := dsL_I (b := b) (k := b.length)
  refine List.ext_getElem (by simp [plB, I.l2]) fun i h1 h2 => ?_
  have h3 : i < (dsL b b.length).2.length := by rw [I.l2]; exact h2
  obtain ⟨j, j1, j2, j3⟩ := I.at' i h2
  have e1 : (dsL b b.length).2[i] = (j : Int) := by rw [← j1]; simp [nth, h3]
  have e2 : (plB (dsL b b.length).1 (dsL b b.length).2)[i] = fr (dsL b b.length).1 ((dsL b b.length).2[i]).toNat := by simp [plB]
  rw [e2, e1, Int.toNat_natCast, j3]
  simp [fr, at0, h2]
/-- One more place. -/
def shS (P : List Int) (i : Nat) (s : ML) : Option ML :=
  if 0 < i ∧ nth P i = nth P (i - 1) then (if (mv s (s.length - 1)).2 = 24 then none else some (s.dropLast ++ [((mv s (s.length - 1)).1, (mv s (s.length - 1)).2 + 1)]))
  else some (s ++ [(nth P i, 1)])
def shL (P : List Int) : Nat → Option ML
  | 0 => some []
  | k + 1 => (shL P k).bind (shS P k)
theorem shL_none {P : List Int} {i n : Nat} (h : shL P i = none) (hn : i ≤ n) : shL P n = none := by
  induction hn with
  | refl => exact h
  | step _ ih => rw [shL, ih]; rfl
/-- What is true of them. -/
structure ShI (P : List Int) (k : Nat) (s : ML) : Prop where
  len : s.length ≤ k
  last : 0 < k → ∃ t h, s = t ++ [(nth P (k - 1), h)]
  hold : ∀ i, i < s.length → 1 ≤ (mv s i).2 ∧ (mv s i).2 ≤ 24
  val : ∀ i, i < s.length → ∃ j, j < k ∧ (mv s i).1 = nth P j
  tck : tckL s s.length = P.take k
theorem tckL_pre {s t : ML} {k : Nat} (h : k ≤ s.length) : tckL (s ++ t) k = tckL s k := by
  induction k with
  | zero => rw [tckL_zero, tckL_zero]
  | succ k ih =>
    rw [tckL_succ, tckL_succ, ih (by omega)]
    have : mv (s ++ t) k = mv s k := by
      unfold mv at0
      rw [List.getD_eq_getElem?_getD, List.getD_eq_getElem?_getD, List.getElem?_append_left (by omega)]
    rw [this]
theorem tckL_snoc {s : ML} {a : Int × Int} : tckL (s ++ [a]) (s.length + 1) = tckL s s.length ++ List.replicate a.2.toNat a.1 := by
  rw [tckL_succ, tckL_pre (Nat.le_refl _), mv_app, if_neg (by omega), if_pos rfl]
theorem shL_I {P : List Int} {k : Nat} {s : ML} (h : shL P k = some s) (hk : k ≤ P.length) : ShI P k s := by
  induction k generalizing s with
  | zero =>
    cases h
    exact ⟨Nat.le_refl _, fun h => by omega, fun i hi => by simp at hi, fun i hi => by simp at hi, by simp [tckL_zero]⟩
  | succ k ih =>
    rw [shL] at h
    obtain ⟨s0, h0, h⟩ := Option.bind_eq_some_iff.1 h
    obtain ⟨q1, q2, q3, q4, q5⟩ := ih h0 (by omega)
    have htk : P.take (k + 1) = P.take k ++ [nth P k] := by
      rw [List.take_add_one, List.getElem?_eq_getElem (by omega)]; simp [nth, show k < P.length by omega]
    unfold shS at h
    split at h
    · rename_i hc
      obtain ⟨t, d, rfl⟩ := q2 hc.1
      have hm : mv (t ++ [(nth P (k - 1), d)]) t.length = (nth P (k - 1), d) := by rw [mv_app, if_neg (by omega), if_pos rfl]
      have e1 : (t ++ [(nth P (k - 1), d)]).length - 1 = t.length := by simp
      rw [e1, hm] at h
      split at h
      · cases h
      · rename_i h24
        cases h
        simp only [List.dropLast_concat] at *
        have hd := q3 t.length (by simp)
        rw [hm] at hd
        simp only [] at hd h24
        refine ⟨by simp at q1 ⊢; omega, fun _ => ⟨t, d + 1, by rw [← hc.2]; rfl⟩, fun i hi => ?_, fun i hi => ?_, ?_⟩
        · have hi : i < t.length + 1 := by simpa using hi
          by_cases hit : i < t.length
          · have := q3 i (by simp; omega)
            rw [mv_app, if_pos hit] at this ⊢; exact this
          · rw [mv_app, if_neg hit, if_pos (by omega)]; simp only []; omega
        · have hi : i < t.length + 1 := by simpa using hi
          by_cases hit : i < t.length
          · obtain ⟨j, j1, j2⟩ := q4 i (by simp; omega)
            rw [mv_app, if_pos hit] at j2 ⊢; exact ⟨j, by omega, j2⟩
          · rw [mv_app, if_neg hit, if_pos (by omega)]; exact ⟨k, by omega, by rw [hc.2]⟩
        · rw [List.length_append, List.length_singleton, tckL_snoc] at q5 ⊢
          simp only [] at q5 ⊢
          rw [htk, ← q5, show (d + 1).toNat = d.toNat + 1 by omega, List.replicate_succ', hc.2, List.append_assoc]
    · rename_i hc
      cases h
      refine ⟨by simp; omega, fun _ => ⟨s0, 1, rfl⟩, fun i hi => ?_, fun i hi => ?_, ?_⟩
      · have hi : i < s0.length + 1 := by simpa using hi
        by_cases hit : i < s0.length
        · rw [mv_app, if_pos hit]; exact q3 i hit
        · rw [mv_app, if_neg hit, if_pos (by omega)]; simp
      · have hi : i < s0.length + 1 := by simpa using hi
        by_cases hit : i < s0.length
        · obtain ⟨j, j1, j2⟩ := q4 i hit
          rw [mv_app, if_pos hit]; exact ⟨j, by omega, j2⟩
        · rw [mv_app, if_neg hit, if_pos (by omega)]; exact ⟨k, by omega, rfl⟩
      · rw [List.length_append, List.length_singleton, tckL_snoc, q5, htk]; rfl
theorem sh_set {t : ML} {m : Int × Int} {h : Int} : splice (mvsC (t ++ [m])) (t.length * 2 + 1) [.int .i8 h] = mvsC (t ++ [(m.1, h)]) := by
  rw [mvsC_app, mvsC_app]
  have hl : (mvsC t).length = t.length * 2 := mvsC_length
  have e1 : mvsC [m] = [.int .i8 m.1, .int .i8 m.2] := rfl
  have e2 : mvsC [(m.1, h)] = [.int .i8 m.1, .int .i8 h] := rfl
  rw [e1, e2, ← hl]
  unfold splice
  rw [List.take_length_add_append, Nat.add_assoc, List.drop_length_add_append]
  simp
/-- The last shot's hold is changed. -/
theorem sh_put {H G : Heap} {b : Nat} {x : Value} {t : ML} {m : Int × Int} (g : GrB H G b x 2 (t.length + 1) (mvsC (t ++ [m]))) :
    ∃ ver, idxAV 2 x (.int .i64 (t.length : Int)) = some (adr b (t.length * 2) ver) ∧ rd G b (t.length * 2 + 1) ver 1 = some [.int .i8 m.2] ∧
      ∀ h wb, ∃ G', wr H.length wb G b (t.length * 2 + 1) ver [.int .i8 h] = some G' ∧ GrB H G' b x 2 (t.length + 1) (mvsC (t ++ [(m.1, h)])) ∧ rd G' b (t.length * 2 + 1) ver 1 = some [.int .i8 h] ∧ ∀ b', b' ≠ b → G'[b']? = G[b']? := by
  obtain ⟨ver, h1, h2, h3⟩ := g.place (show t.length < t.length + 1 by omega)
  have hel : ∀ m : Int × Int, elem (mvsC (t ++ [m])) 2 t.length = mvC m := fun m => by
    rw [mvsC_elem (by simp), mv_app, if_neg (by omega), if_pos rfl]
  refine ⟨ver, h1, ?_, fun h wb => ?_⟩
  · rw [h2 1 1 (by omega), hel]; rfl
  · obtain ⟨w1, w2⟩ := h3 1 [.int .i8 h] wb (by simp)
    rw [sh_set] at w1 w2
    refine ⟨_, w1, w2, ?_, fun b' hne => by rw [List.getElem?_set_ne fun h => hne h.symm]⟩
    obtain ⟨v', k1, k2, k3⟩ := w2.place (show t.length < t.length + 1 by omega)
    have : v' = ver := by
      rw [h1] at k1
      have := Option.some.inj k1
      simpa [adr] using this.symm
    subst this
    rw [k2 1 1 (by omega), hel]; rfl
def sh86 (H : Heap) : Option ML → Value × Heap
  | some s => (tup [slc H.length 0 0 s.length s.length, .int .i64 0], H ++ [⟨mvsC s, 2, 0, false⟩])
  | none => (tup [.slice none 0 0, .int .i64 3], H)
def sh87 (H : Heap) : Option ML → Value × Heap
  | some s => (tup [slc H.length 0 0 s.length s.length, .int .i64 0], H ++ [⟨mvsC s, 2, 0, false⟩])
  | none => (tup [slc H.length 0 0 0 0, .int .i64 3], H ++ [⟨[], 2, 0, false⟩])
theorem mvsC_one' {l : ML} {a b : Int} : mvsC l ++ [.int .i8 a, .int .i8 b] = mvsC (l ++ [(a, b)]) := by rw [← mvsC_one]; rfl
theorem call86 {pu : Bool} {H : Heap} {x : Value} {b : List (List Int)} (h : Bk H x b) (hV : ∀ f ∈ b, VF f) (hn : b.length ≤ 40) : Call tab pu 86 [x] H = some (sh86 H (shL (dsL b b.length).2 b.length)) := by
  have hw : BkW b := fun f hf => (hV f hf).W
  refine Call_wp t86 (.inr rfl) rfl ?_
  have c1 := call316 (pu := true) h hw (by omega)
  rw [okB_V hV hn] at c1
  have c2 := call317 (pu := true) h hV (by omega)
  have I := dsL_I (b := b) (k := b.length)
  have pp : Pre H (dsH H b) := ⟨_, rfl⟩
  have hl2 : (dsH H b).length = H.length + 2 := by simp [dsH]
  obtain ⟨G1, hG1⟩ : ∃ G1, G1 = dsH H b ++ [(⟨[], 2, 0, false⟩ : Blk)] := ⟨_, rfl⟩
  have p1 : Pre (dsH H b) G1 := by rw [hG1]; exact Pre.one
  have g2 : GrB H G1 (H.length + 1) (slc (H.length + 1) 0 0 b.length b.length) 1 b.length (cs .i64 (dsL b b.length).2) := ⟨0, rfl, by rw [p1.get (by omega)]; simp [dsH], by omega, by simp [I.l2], pp.trans p1⟩
  have g3 : GrB H G1 (H.length + 2) (slc (H.length + 2) 0 0 0 0) 2 0 (mvsC []) := GrB.mk' (by rw [hG1, ← hl2]; exact get_last) (by omega) (pp.trans p1)
  have hf1 : fill (rep 0 [.int .i8 0, .int .i8 0]) [] = some [] := rfl
  have hb : ∀ i, i < b.length → 0 ≤ nth (dsL b b.length).2 i ∧ nth (dsL b b.length).2 i < 40 := fun i hi => by
    obtain ⟨j, j1, j2, j3⟩ := I.at' i hi
    have := I.l1
    omega
  have hPl := I.l2
  generalize (dsL b b.length).2 = P at *
  simp [c86, k86, c1, c2, dsV, hf1, ← hG1, hl2]
  refine WP_count 20 b.length b.length rfl (fun i e G => e 5 = slc (H.length + 1) 0 0 b.length b.length ∧ e 18 = slc (H.length + 1) 0 0 b.length b.length ∧ e 19 = .int .i64 b.length ∧ GrB H G (H.length + 1) (slc (H.length + 1) 0 0 b.length b.length) 1 b.length (cs .i64 P) ∧ ∃ s, shL P i = some s ∧ ∃ x6, e 6 = x6 ∧ GrB H G (H.length + 2) x6 2 s.length (mvsC s)) (by omega) ?_ ?_ (by simp)
    ⟨by simp, by simp, by simp, g2, [], rfl, _, by simp, g3⟩
  · rintro i e G _ hi hii e20 h20 ⟨h5, h18, h19, g2, s, hs, x6, h6, g3⟩
    obtain ⟨o1, v1, a1, r1⟩ := g2.get_i hi
    have J := shL_I hs (by omega)
    have Jl := J.len
    obtain ⟨b1, b2⟩ := hb i hi
    have w8 : IntKind.wrap .i8 (nth P i) = nth P i := wrap8 (by omega)
    have hsucc : shL P (i + 1) = shS P i s := by rw [shL, hs]; rfl
    by_cases hc : 0 < i ∧ nth P i = nth P (i - 1)
    · obtain ⟨hi0, he⟩ := hc
      obtain ⟨k, rfl⟩ : ∃ k, i = k + 1 := ⟨i - 1, by omega⟩
      obtain ⟨t, d, rfl⟩ := J.last hi0
      simp only [Nat.add_sub_cancel] at he
      obtain ⟨o2, v2, a2, r2⟩ := g2.get_i (show k < b.length by omega)
      rw [List.length_append, List.length_singleton] at g3
      obtain ⟨ver, q1, q2, q3⟩ := sh_put g3
      have hm : mv (t ++ [(nth P k, d)]) t.length = (nth P k, d) := by rw [mv_app, if_neg (by omega), if_pos rfl]
      have hd := J.hold t.length (by simp)
      simp only [Nat.add_sub_cancel] at hd
      rw [hm] at hd
      simp only [] at hd
      obtain ⟨G', w1, w2, w3, w4⟩ := q3 (d + 1) false
      have wd : IntKind.wrap .i8 (d + 1) = d + 1 := wrap8 (by omega)
      have hz : ((k : Int) + 1 == 0) = false := by simp; omega
      have wk : IntKind.wrap .i64 (k : Int) = k := wrap64 (by omega)
      have wt : IntKind.wrap .i64 (t.length : Int) = t.length := wrap64 (by simp at Jl; omega)
      have hll : lenV x6 = some (.int .i64 ((t.length : Int) + 1)) := by obtain ⟨ver, rfl, _⟩ := g3; rfl
      have hne : (nth P k != nth P (k + 1)) = false := by rw [he]; simp
      have g2' := g2.kept (w4 _ (by omega)) w2.pr
      simp only [Nat.add_sub_cancel, Int.natCast_add, Int.natCast_one] at *
      unfold shS at hsucc
      rw [if_pos ⟨hi0, he⟩] at hsucc
      simp only [List.length_append, List.length_singleton, Nat.add_sub_cancel, hm, List.dropLast_concat] at hsucc
      by_cases h24 : d = 24
      · rw [if_pos h24] at hsucc
        have hnone := shL_none hsucc (show k + 1 + 1 ≤ b.length by omega)
        have hgt : (24 : Int) < d + 1 := by omega
        simp [b86_1, h20, h18, h19, h5, h6, hii, a1, r1, hz, wk, a2, r2, hne, hll, wt, q1, q2, wd, wbOf, w1, w3, hgt, hnone, sh86, finish_nil2, w2.pr.take]
      · rw [if_neg h24] at hsucc
        have hgt : ¬ (24 : Int) < d + 1 := by omega
        simp [b86_1, h20, h18, h19, h5, h6, hii, a1, r1, hz, wk, a2, r2, hne, hll, wt, q1, q2, wd, wbOf, w1, w3, hgt, e20]
        exact ⟨g2', _, hsucc, by simpa using w2⟩
    · have hsome : shL P (i + 1) = some (s ++ [(nth P i, 1)]) := by rw [hsucc, shS, if_neg hc]
      obtain ⟨x6', G3, c3, g4, kp⟩ := g3.push (c := [.int .i8 (nth P i), .int .i8 0]) (bytes := 2) rfl (room2 (by omega)) (wb := false)
      rw [mvsC_one'] at g4
      have g2' := g2.kept (kp _ (by omega) g2.ltG) g4.pr
      obtain ⟨ver, q1, q2, q3⟩ := sh_put g4
      obtain ⟨G', w1, w2, w3, w4⟩ := q3 1 false
      have g2'' := g2'.kept (w4 _ (by omega)) w2.pr
      have wt : IntKind.wrap .i64 (s.length : Int) = s.length := wrap64 (by omega)
      have w01 : IntKind.wrap .i8 1 = 1 := wrap8 (by omega)
      have hll : lenV x6' = some (.int .i64 ((s.length : Int) + 1)) := by obtain ⟨ver, rfl, _⟩ := g4; rfl
      have hf2 : fill (rep 1 [.int .i8 0, .int .i8 0]) [(0, 2, agg [.int .i8 (nth P i), .int .i8 0])] = some [.int .i8 (nth P i), .int .i8 0] := rfl
      have hf3 : fill [.int .i8 0, .int .i8 0] [(0, 1, .int .i8 (nth P i))] = some [.int .i8 (nth P i), .int .i8 0] := rfl
      simp only [] at q2 w2
      by_cases hi0 : i = 0
      · subst hi0
        have a1' : idxAV 1 (slc (H.length + 1) 0 0 b.length b.length) (.int .i64 0) = some (adr (H.length + 1) o1 v1) := a1
        simp [b86_1, h20, h18, h19, h5, h6, hi, a1', r1, skip, w8, hf3, hf2, c3, hll, wt, q1, q2, w01, wbOf, w1, w3, e20]
        exact ⟨g2'', _, hsome, by simpa using w2⟩
      · obtain ⟨k, rfl⟩ : ∃ k, i = k + 1 := ⟨i - 1, by omega⟩
        obtain ⟨o2, v2, a2, r2⟩ := g2.get_i (show k < b.length by omega)
        have hz : ((k : Int) + 1 == 0) = false := by simp; omega
        have wk : IntKind.wrap .i64 (k : Int) = k := wrap64 (by omega)
        have hne : (nth P k != nth P (k + 1)) = true := by
          simp only [bne_iff_ne, ne_eq]
          intro h
          exact hc ⟨by omega, by rw [Nat.add_sub_cancel, h]⟩
        simp only [Nat.add_sub_cancel, Int.natCast_add, Int.natCast_one] at *
        simp [b86_1, h20, h18, h19, h5, h6, hii, a1, r1, hz, wk, a2, r2, hne, w8, hf3, hf2, c3, hll, wt, q1, q2, w01, wbOf, w1, w3, e20]
        exact ⟨g2'', _, hsome, by simpa using w2⟩
  · rintro e G _ h20 ⟨h5, h18, h19, g2, s, hs, x6, h6, g3⟩
    have hfin := g3.gr.fin2 (mvsC_flat (l := s)) (c := 0)
    simp [b86_1, h20, h19, h6, hfin, hs, sh86]
theorem call87 {pu : Bool} {H : Heap} {x : Value} {b : List (List Int)} (h : Bk H x b) (hV : ∀ f ∈ b, VF f) (hn : b.length ≤ 40) : Call tab pu 87 [x] H = some (sh87 H (shL (dsL b b.length).2 b.length)) := by
  have hw : BkW b := fun f hf => (hV f hf).W
  refine Call_wp t87 (.inr rfl) rfl ?_
  have c1 := call318 (pu := true) h hw (by omega)
  rw [okB_V hV hn] at c1
  have c2 := call319 (pu := true) h hV (by omega)
  have I := dsL_I (b := b) (k := b.length)
  have pp : Pre H (dsH H b) := ⟨_, rfl⟩
  have hl2 : (dsH H b).length = H.length + 2 := by simp [dsH]
  obtain ⟨G1, hG1⟩ : ∃ G1, G1 = dsH H b ++ [(⟨[], 2, 0, false⟩ : Blk)] := ⟨_, rfl⟩
  have p1 : Pre (dsH H b) G1 := by rw [hG1]; exact Pre.one
  have g2 : GrB H G1 (H.length + 1) (slc (H.length + 1) 0 0 b.length b.length) 1 b.length (cs .i64 (dsL b b.length).2) := ⟨0, rfl, by rw [p1.get (by omega)]; simp [dsH], by omega, by simp [I.l2], pp.trans p1⟩
  have g3 : GrB H G1 (H.length + 2) (slc (H.length + 2) 0 0 0 0) 2 0 (mvsC []) := GrB.mk' (by rw [hG1, ← hl2]; exact get_last) (by omega) (pp.trans p1)
  have hf1 : fill (rep 0 [.int .i8 0, .int .i8 0]) [] = some [] := rfl
  have hb : ∀ i, i < b.length → 0 ≤ nth (dsL b b.length).2 i ∧ nth (dsL b b.length).2 i < 40 := fun i hi => by
    obtain ⟨j, j1, j2, j3⟩ := I.at' i hi
    have := I.l1
    omega
  have hPl := I.l2
  generalize (dsL b b.length).2 = P at *
  simp [c87, k87, c1, c2, dsV, hf1, ← hG1, hl2]
  refine WP_count 7 b.length b.length rfl (fun i e G => e 5 = slc (H.length + 1) 0 0 b.length b.length ∧ GrB H G (H.length + 1) (slc (H.length + 1) 0 0 b.length b.length) 1 b.length (cs .i64 P) ∧ ∃ s, shL P i = some s ∧ ∃ x6, e 6 = x6 ∧ GrB H G (H.length + 2) x6 2 s.length (mvsC s)) (by omega) ?_ ?_ (by simp)
    ⟨by simp, g2, [], rfl, _, by simp, g3⟩
  · rintro i e G _ hi hii e20 h20 ⟨h5, g2, s, hs, x6, h6, g3⟩
    obtain ⟨o1, v1, a1, r1⟩ := g2.get_i hi
    have J := shL_I hs (by omega)
    have Jl := J.len
    obtain ⟨b1, b2⟩ := hb i hi
    have w8 : IntKind.wrap .i8 (nth P i) = nth P i := wrap8 (by omega)
    have hsucc : shL P (i + 1) = shS P i s := by rw [shL, hs]; rfl
    by_cases hc : 0 < i ∧ nth P i = nth P (i - 1)
    · obtain ⟨hi0, he⟩ := hc
      obtain ⟨k, rfl⟩ : ∃ k, i = k + 1 := ⟨i - 1, by omega⟩
      obtain ⟨t, d, rfl⟩ := J.last hi0
      simp only [Nat.add_sub_cancel] at he
      obtain ⟨o2, v2, a2, r2⟩ := g2.get_i (show k < b.length by omega)
      rw [List.length_append, List.length_singleton] at g3
      obtain ⟨ver, q1, q2, q3⟩ := sh_put g3
      have hm : mv (t ++ [(nth P k, d)]) t.length = (nth P k, d) := by rw [mv_app, if_neg (by omega), if_pos rfl]
      have hd := J.hold t.length (by simp)
      simp only [Nat.add_sub_cancel] at hd
      rw [hm] at hd
      simp only [] at hd
      obtain ⟨G', w1, w2, w3, w4⟩ := q3 (d + 1) false
      have wd : IntKind.wrap .i8 (d + 1) = d + 1 := wrap8 (by omega)
      have hz : (0 : Int) < (k : Int) + 1 := by omega
      have wk : IntKind.wrap .i64 (k : Int) = k := wrap64 (by omega)
      have wt : IntKind.wrap .i64 (t.length : Int) = t.length := wrap64 (by simp at Jl; omega)
      have hll : lenV x6 = some (.int .i64 ((t.length : Int) + 1)) := by obtain ⟨ver, rfl, _⟩ := g3; rfl
      have hne : (nth P (k + 1) == nth P k) = true := by rw [he]; simp
      have g2' := g2.kept (w4 _ (by omega)) w2.pr
      simp only [Nat.add_sub_cancel, Int.natCast_add, Int.natCast_one] at *
      unfold shS at hsucc
      rw [if_pos ⟨hi0, he⟩] at hsucc
      simp only [List.length_append, List.length_singleton, Nat.add_sub_cancel, hm, List.dropLast_concat] at hsucc
      by_cases h24 : d = 24
      · rw [if_pos h24] at hsucc
        have hnone := shL_none hsucc (show k + 1 + 1 ≤ b.length by omega)
        have hgt : (d == 24) = true := by simpa using h24
        have hfin := (Gr.new (H := H) (G := G) (esz := 2) g3.pr).fin2 (by intro v hv; simp at hv) (c := 3)
        simp [b87_1, h20, h5, h6, hii, a1, r1, hz, wk, a2, r2, hne, hll, wt, q1, q2, hgt, hnone, sh87, hf1, hfin]
      · rw [if_neg h24] at hsucc
        have hgt : (d == 24) = false := by simpa using h24
        simp [b87_1, h20, h5, h6, hii, a1, r1, hz, wk, a2, r2, hne, hll, wt, q1, q2, wd, wbOf, w1, w3, hgt, e20]
        exact ⟨g2', _, hsucc, by simpa using w2⟩
    · have hsome : shL P (i + 1) = some (s ++ [(nth P i, 1)]) := by rw [hsucc, shS, if_neg hc]
      obtain ⟨x6', G3, c3, g4, kp⟩ := g3.push (c := [.int .i8 (nth P i), .int .i8 1]) (bytes := 2) rfl (room2 (by omega)) (wb := false)
      rw [mvsC_one'] at g4
      have g2' := g2.kept (kp _ (by omega) g2.ltG) g4.pr
      have hf2 : fill (rep 1 [.int .i8 0, .int .i8 0]) [(0, 2, agg [.int .i8 (nth P i), .int .i8 1])] = some [.int .i8 (nth P i), .int .i8 1] := rfl
      have hf3 : fill [.int .i8 0, .int .i8 0] [(0, 1, .int .i8 (nth P i)), (1, 1, .int .i8 1)] = some [.int .i8 (nth P i), .int .i8 1] := rfl
      by_cases hi0 : i = 0
      · subst hi0
        have a1' : idxAV 1 (slc (H.length + 1) 0 0 b.length b.length) (.int .i64 0) = some (adr (H.length + 1) o1 v1) := a1
        simp [b87_1, h20, h5, h6, hi, a1', r1, skip, w8, hf3, hf2, c3, wbOf, e20]
        exact ⟨g2', _, hsome, by simpa using g4⟩
      · obtain ⟨k, rfl⟩ : ∃ k, i = k + 1 := ⟨i - 1, by omega⟩
        obtain ⟨o2, v2, a2, r2⟩ := g2.get_i (show k < b.length by omega)
        have hz : (0 : Int) < (k : Int) + 1 := by omega
        have wk : IntKind.wrap .i64 (k : Int) = k := wrap64 (by omega)
        have hne : (nth P (k + 1) == nth P k) = false := by
          rw [beq_eq_false_iff_ne]
          intro h
          exact hc ⟨by omega, by rw [Nat.add_sub_cancel, h]⟩
        simp only [Nat.add_sub_cancel, Int.natCast_add, Int.natCast_one] at *
        simp [b87_1, h20, h5, h6, hii, a1, r1, hz, wk, a2, r2, hne, w8, hf3, hf2, c3, wbOf, e20]
        exact ⟨g2', _, hsome, by simpa using g4⟩
  · rintro e G _ h20 ⟨h5, g2, s, hs, x6, h6, g3⟩
    have hfin := g3.gr.fin2 (mvsC_flat (l := s)) (c := 0)
    simp [b87_1, h20, h5, h6, hfin, hs, sh87]
/-- A loop that counts to n, however great, in a heap that stays. -/
theorem WP_forM {T : Tab} {n0 : Nat} {wb : Bool} {e : Env} {H : Heap} {Q : Ex → Env → Heap → Prop} {fs : List Fr} {b : Cd} (v n : Nat) (hn : n ≤ 9223372036854775807) (I : Nat → Env → Prop)
    (round : ∀ i e', i < n → (i : Int) < n → IntKind.wrap .i64 ((i : Int) + 1) = (i : Int) + 1 → e' v = .int .i64 (i : Int) → I i e' →
      WK T n0 wb b [] e' H (rnd T n0 wb (fun e1 H1 => H1 = H ∧ e1 v = .int .i64 ((i : Int) + 1) ∧ I (i + 1) e1) fs Q))
    (last : ∀ e', e' v = .int .i64 n → I n e' → WK T n0 wb b [] e' H (rnd T n0 wb (fun _ _ => False) fs Q))
    (hv : e v = .int .i64 0) (h0 : I 0 e) : WK T n0 wb (.loop b) fs e H Q := by
  refine WK_loop (fun i e' H' => H' = H ∧ e' v = .int .i64 (i : Int) ∧ I i e') n ?_ (Nat.zero_le _) ⟨rfl, hv, h0⟩
  rintro i e' _ hf hi ⟨rfl, h1, h2⟩
  by_cases hlt : i < n
  · refine (round i e' hlt (by omega) (wrap64 (by omega)) h1 h2).mono fun x e1 H1 h => ?_
    cases x with
    | normal => exact ⟨hlt, h.1, by rw [h.2.1]; rfl, h.2.2⟩
    | exit j => exact h
    | ret => exact h
  · obtain rfl : i = n := by omega
    refine (last e' h1 h2).mono fun x e1 H1 h => ?_
    cases x with
    | normal => exact h.elim
    | exit j => exact h
    | ret => exact h
theorem any318 {pu : Bool} {H : Heap} {x : Value} {b : List (List Int)} (h : Bk H x b) (hw : BkW b) (hn : b.length ≤ 9223372036854775807) : Call tab pu 318 [x] H = some (.bool (okB b), H) := by
  refine Call_wp t318 (.inr rfl) rfl ?_
  simp [c318, k318]
  refine WP_forM 3 b.length hn (fun i e => e 0 = x ∧ ∀ j, j < i → okF (fr b j) = true) ?_ ?_ (by simp) (by simp)
  · rintro i e hi hlt e4 h3 ⟨h0, hnp⟩
    obtain ⟨q, off, ver, ha, hr⟩ := h.get hw hi
    have hc := call359 (pu := true) (hw.fr hi).len hr
    cases hk : okF (fr b i) with
    | true =>
      rw [hk] at hc
      simp [b318_1, h3, h0, hlt, h.lenV, ha, hc, e4]
      exact upto_succ hnp hk
    | false =>
      rw [hk] at hc
      simp [b318_1, h3, h0, hlt, h.lenV, ha, hc, okB, okFs_false hi hk]
  · rintro e h3 ⟨h0, hnp⟩
    have e1 : decide ((b.length : Int) ≤ 40) = decide (b.length ≤ 40) := by apply decide_eq_decide.2; omega
    simp [b318_1, h3, h0, h.lenV, okB, okFs_true hnp, e1]
theorem any316 {pu : Bool} {H : Heap} {x : Value} {b : List (List Int)} (h : Bk H x b) (hw : BkW b) : Call tab pu 316 [x] H = some (.bool (okB b), H) := by
  by_cases h1 : b.length ≤ 40
  · exact call316 h hw (by omega)
  · refine Call_wp t316 (.inr rfl) rfl ?_
    have h2 : ¬ ((b.length : Int) ≤ 40) := by omega
    simp [c316, k316, h.lenV, h2, okB, h1, skip]
theorem any281 {pu : Bool} {H : Heap} {x : Value} {l : List Ly} (hs : Sc H x l) (hw : ScW l) : Call tab pu 281 [x] H = some (.bool (okSc l), H) := by
  by_cases hl : l.length ≤ 8
  · exact call281 hs hw (by omega)
  · refine Call_wp t281 (.inr rfl) rfl ?_
    have hl' : ¬ (l.length : Int) ≤ 8 := by omega
    simp [c281, k281, SlR.lenV hs, hl', skip, okSc, hl]
theorem any498 {pu : Bool} {H : Heap} {x : Value} {l : List Ly} (hs : Sc H x l) (hw : ScW l) (hn : l.length ≤ 9223372036854775807) : Call tab pu 498 [x] H = some (.bool (okSc l), H) := by
  refine Call_wp t498 (.inr rfl) rfl ?_
  simp [c498, k498]
  refine WP_forM 3 l.length hn (fun i e => e 0 = x ∧ ∀ j, j < i → okLy (at0 l j) = true) ?_ ?_ (by simp) ⟨by simp, fun j hj => by omega⟩
  · rintro i e hi hii e4 h3 ⟨h0, hj⟩
    obtain ⟨q, off, ver, ha, _, hr⟩ := Sc.get hs hw hi
    have c1 := call563 (pu := true) (hw _ (at0_mem hi)) hr
    cases hk : okLy (at0 l i) with
    | true =>
      rw [hk] at c1
      simp [b498_1, h3, h0, SlR.lenV hs, hii, ha, c1, e4]
      exact upto_succ hj hk
    | false =>
      rw [hk] at c1
      have : okSc l = false := by
        unfold okSc
        rw [allN_false hi hk]; rfl
      simp [b498_1, h3, h0, SlR.lenV hs, hii, ha, c1, this]
  · rintro e h3 ⟨h0, hj⟩
    have : okSc l = decide (l.length ≤ 8) := by
      unfold okSc
      rw [allN_true hj]; rfl
    have e1 : decide ((l.length : Int) ≤ 8) = decide (l.length ≤ 8) := by
      by_cases h : l.length ≤ 8
      · rw [decide_eq_true h, decide_eq_true (by omega)]
      · rw [decide_eq_false h, decide_eq_false (by omega)]
    simp [b498_1, h3, h0, SlR.lenV hs, this, e1, -decide_eq_true_eq, -decide_eq_false_iff_not]
theorem any329 {pu : Bool} {H : Heap} {z : Value} {l : List Ly} {x y : Int} (hs : Sc H z l) (hw : ScW l) : Call tab pu 329 [z, .int .i64 x, .int .i64 y] H = some (.int .i64 (cmC l x y), H) := by
  refine Call_wp t329 (.inr rfl) rfl ?_
  have c1 := any281 (pu := true) hs hw
  cases k1 : okSc l with
  | false => simp [c329, k329, c1, k1, cmC]
  | true =>
    cases k2 : in1 x (-100) 100 && in1 y (-100) 100 with
    | false => simp only [cmC, k1, k2]; simp [c329, k329, c1, k1, call416, k2]
    | true => simp only [cmC, k1, k2]; simp [c329, k329, c1, k1, call416, k2]
theorem any331 {pu : Bool} {H : Heap} {z : Value} {l : List Ly} {x y : Int} (hs : Sc H z l) (hw : ScW l) (hn : l.length ≤ 9223372036854775807) : Call tab pu 331 [z, .int .i64 x, .int .i64 y] H = some (.int .i64 (cmC l x y), H) := by
  refine Call_wp t331 (.inr rfl) rfl ?_
  have c1 := any498 (pu := true) hs hw hn
  cases k1 : okSc l with
  | false => simp [c331, k331, c1, k1, cmC]
  | true =>
    cases k2 : in1 x (-100) 100 with
    | false => simp [c331, k331, c1, k1, in304, k2, skip, cmC]
    | true =>
      cases k3 : in1 y (-100) 100 with
      | false => simp [c331, k331, c1, k1, in304, k2, k3, cmC]
      | true => simp [c331, k331, c1, k1, in304, k2, k3, cmC]
/-- What the functions of scenes return. -/
def shwF (l : List Ly) (x y : Int) : List Int := if cmC l x y = 0 then flI l x y l.length else zr 12 0
def flatF (l : List Ly) (x y : Int) : List Int := if cmC l x y = 0 then flI l x y l.length ++ cvr l x y l.length else zr 24 0
theorem fill0 {n : Nat} {k : IntKind} : fill (cs k (zr n 0)) [] = some (cs k (zr n 0)) := rfl
theorem call97 {pu : Bool} {l : List Ly} {x y : Int} (hw : ScW l) {H : Heap} {z : Value} (hs : Sc H z l) :
    Call tab pu 97 [z, .int .i64 x, .int .i64 y] H = some (tup [iv .u16 (shwF l x y), .int .i64 (cmC l x y)], H) := by
  have h1 := any329 (pu := true) (x := x) (y := y) hs hw
  refine Call_wp t97 (.inr rfl) rfl ?_
  have z12 := stc_zr (k := .u16) (n := 12) (l := zr 12 0) (by simp)
  by_cases hc : cmC l x y = 0
  · obtain ⟨hok, hx, hy⟩ := cmC_ok hc
    have c1 := call330 (pu := true) hs hw hok hx hy
    have hl := flI_len (l := l) (x := x) (y := y) (k := l.length)
    have hl2 := cvr_len (l := l) (x := x) (y := y) (k := l.length)
    have s1 := stc_zr (k := .u16) (n := 12) (l := flI l x y l.length) hl
    simp [c97, k97, h1, hc, c1, ev1_fld, fldV_a hl hl2, zs_cs, agg_cs, hl, s1, shwF]
  · have hb : (cmC l x y != 0) = true := by simpa using hc
    simp [c97, k97, h1, hb, zs_cs, agg_cs, fill0, z12, shwF, hc]
theorem call98 {pu : Bool} {l : List Ly} {x y : Int} (hw : ScW l) (hn : l.length ≤ 9223372036854775807) {H : Heap} {z : Value} (hs : Sc H z l) :
    Call tab pu 98 [z, .int .i64 x, .int .i64 y] H = some (tup [iv .u16 (shwF l x y), .int .i64 (cmC l x y)], H) := by
  have h1 := any331 (pu := true) (x := x) (y := y) hs hw hn
  refine Call_wp t98 (.inr rfl) rfl ?_
  have z12 := stc_zr (k := .u16) (n := 12) (l := zr 12 0) (by simp)
  by_cases hc : cmC l x y = 0
  · obtain ⟨hok, hx, hy⟩ := cmC_ok hc
    have c1 := call332 (pu := true) hs hw hok hx hy
    have hl := flI_len (l := l) (x := x) (y := y) (k := l.length)
    have hl2 := cvr_len (l := l) (x := x) (y := y) (k := l.length)
    have s1 := stc_zr (k := .u16) (n := 12) (l := flI l x y l.length) hl
    have l1 : (flI l x y l.length ++ cvr l x y l.length).length = 24 := by simp [hl, hl2]
    have s2 := stc_zr (k := .u16) (n := 24) (l := flI l x y l.length ++ cvr l x y l.length) l1
    simp [c98, k98, h1, hc, c1, zs_cs, agg_cs, hl, hl2, s1, s2, ldAB_a hl hl2, shwF]
  · have hb : (cmC l x y != 0) = true := by simpa using hc
    simp [c98, k98, h1, hb, zs_cs, agg_cs, fill0, z12, shwF, hc]
theorem call99 {pu : Bool} {l : List Ly} {x y : Int} (hw : ScW l) {H : Heap} {z : Value} (hs : Sc H z l) :
    Call tab pu 99 [z, .int .i64 x, .int .i64 y] H = some (tup [iv .u16 (flatF l x y), .int .i64 (cmC l x y)], H) := by
  have h1 := any329 (pu := true) (x := x) (y := y) hs hw
  refine Call_wp t99 (.inr rfl) rfl ?_
  have z24 := stc_zr (k := .u16) (n := 24) (l := zr 24 0) (by simp)
  by_cases hc : cmC l x y = 0
  · obtain ⟨hok, hx, hy⟩ := cmC_ok hc
    have c1 := call330 (pu := true) hs hw hok hx hy
    have l1 : (flI l x y l.length ++ cvr l x y l.length).length = 24 := by simp [flI_len, cvr_len]
    have s2 := stc_zr (k := .u16) (n := 24) (l := flI l x y l.length ++ cvr l x y l.length) l1
    simp [c99, k99, h1, hc, c1, zs_cs, agg_cs, flI_len, cvr_len, s2, flatF]
  · have hb : (cmC l x y != 0) = true := by simpa using hc
    simp [c99, k99, h1, hb, zs_cs, agg_cs, fill0, z24, flatF, hc]
theorem call100 {pu : Bool} {H : Heap} {s : Ly} (hw : LyW s) : Call tab pu 100 [iv .u16 s.f] H = some (tup [iv .u16 (if okCel s = true then inkL s else zr 12 0), .int .i64 (if okCel s = true then 0 else 1)], H) := by
  refine Call_wp t100 (.inr rfl) rfl ?_
  have c1 := call333 (pu := true) (H := H) hw
  have hl := hw.len
  have hi : (inkL s).length = 12 := hw.ink.len
  have z12 := stc_zr (k := .u16) (n := 12) (l := zr 12 0) (by simp)
  have s1 := stc_zr (k := .u16) (n := 12) (l := inkL s) hi
  have da := d24a hl
  have e : sub s.f 0 12 = inkL s := rfl
  rw [e] at da
  have l24 : ldc 24 true (iv .u16 s.f) 0 = some (iv .u16 s.f) := ldc_iv hl
  cases hk : okCel s with
  | false => simp [c100, k100, l24, c1, hk, zs_cs, agg_cs, fill0, z12]
  | true => simp [c100, k100, l24, c1, hk, zs_cs, agg_cs, da, hi, s1]
theorem call334 {pu : Bool} {H : Heap} {z : Value} {l : List Ly} {i : Int} (hs : Sc H z l) (hn : l.length ≤ 1000000) : Call tab pu 334 [z, .int .i64 i] H = some (.bool (in1 i 0 ((l.length : Int) - 1)), H) := by
  refine Call_wp t334 (.inr rfl) rfl ?_
  have w1 : IntKind.wrap .i64 ((l.length : Int) - 1) = (l.length : Int) - 1 := wrap64 (by omega)
  simp [c334, k334, SlR.lenV hs, w1, in295]
theorem call101 {pu : Bool} {l : List Ly} {x y : Int} (hw : ScW l) {H : Heap} {z : Value} (hs : Sc H z l) (hc : cmC l x y = 0) (h0 : 0 < l.length) :
    Call tab pu 101 [z, .int .i64 0, .int .i64 x, .int .i64 y] H = some (tup [.int .i64 (offX (at0 l 0) x), .int .i64 (offY (at0 l 0) y), .int .i64 0], H) := by
  have h1 := any329 (pu := true) (x := x) (y := y) hs hw
  refine Call_wp t101 (.inr rfl) rfl ?_
  obtain ⟨hok, hx, hy⟩ := cmC_ok hc
  have c1 := call334 (pu := true) (i := 0) hs (by have := okSc_len hok; omega)
  have hi : in1 0 0 ((l.length : Int) - 1) = true := by simp [in1]; omega
  rw [hi] at c1
  obtain ⟨q, off, ver, ha, hr, _⟩ := Sc.get hs hw h0
  have c2 := call335 (pu := true) (H := H) (hw _ (at0_mem h0)) (okSc_get hok h0) hx hy
  have ha' : idxAV 27 z (.int .i64 0) = some (adr q off ver) := ha
  simp [c101, k101, h1, hc, c1, ha', hr, c2]
/-- A cel that is moved: what both programs return. -/
def mvC24 (s : Ly) (dx dy : Int) : List Int := if (in1 dx (-12) 12 && in1 dy (-12) 12) = true then shF (inkL s) dx dy ++ shF (mskL s) dx dy else zr 24 0
def mvCc (dx dy : Int) : Int := if (in1 dx (-12) 12 && in1 dy (-12) 12) = true then 0 else 2
theorem call102 {pu : Bool} {H : Heap} {s : Ly} {x y : Int} (hw : LyW s) (h : okLy s = true) (hx : -100 ≤ x ∧ x ≤ 100) (hy : -100 ≤ y ∧ y ≤ 100) :
    Call tab pu 102 [iv .u16 s.f, .int .i64 (offX s x), .int .i64 (offY s y)] H = some (tup [iv .u16 (mvC24 s (offX s x) (offY s y)), .int .i64 (mvCc (offX s x) (offY s y))], H) := by
  refine Call_wp t102 (.inr rfl) rfl ?_
  have c1 := call333 (pu := true) (H := H) hw
  have hk : okCel s = true := by
    unfold okLy at h
    simp only [Bool.and_eq_true] at h
    exact h.1.1.1
  rw [hk] at c1
  have hl := hw.len
  have c2 := call336 (pu := true) (H := H) hw h hx hy
  have z24 := stc_zr (k := .u16) (n := 24) (l := zr 24 0) (by simp)
  have l1 : (lyI s x y ++ lyM s x y).length = 24 := by simp [lyI_W.len, lyM_W.len]
  have s2 := stc_zr (k := .u16) (n := 24) (l := lyI s x y ++ lyM s x y) l1
  have l24 : ldc 24 true (iv .u16 s.f) 0 = some (iv .u16 s.f) := ldc_iv hl
  have e1 : shF (inkL s) (offX s x) (offY s y) ++ shF (mskL s) (offX s x) (offY s y) = lyI s x y ++ lyM s x y := rfl
  cases k1 : in1 (offX s x) (-12) 12 with
  | false => simp [c102, k102, l24, c1, in295, k1, skip, zs_cs, agg_cs, fill0, z24, mvC24, mvCc]
  | true =>
    cases k2 : in1 (offY s y) (-12) 12 with
    | false => simp [c102, k102, l24, c1, in295, k1, k2, skip, zs_cs, agg_cs, fill0, z24, mvC24, mvCc]
    | true => simp [c102, k102, l24, c1, in295, k1, k2, zs_cs, agg_cs, c2, lyI_W.len, lyM_W.len, s2, mvC24, mvCc, e1]
theorem call373 {pu : Bool} {H : Heap} {b off ver : Nat} {f : List Int} {dx dy : Int} (hl : f.length = 12) (hr : rd H b off ver 12 = some (cs .u16 f)) (hk : okF f = true) :
    Call tab pu 373 [adr b off ver, .int .i64 dx, .int .i64 dy] H = some (.int .i64 (mvCc dx dy), H) := by
  refine Call_wp t373 (.inr rfl) rfl ?_
  have c1 := call359 (pu := true) hl hr
  rw [hk] at c1
  cases k1 : in1 dx (-12) 12 with
  | false => simp [c373, k373, c1, in304, k1, skip, mvCc]
  | true =>
    cases k2 : in1 dy (-12) 12 with
    | false => simp [c373, k373, c1, in304, k1, k2, mvCc]
    | true => simp [c373, k373, c1, in304, k1, k2, mvCc]
/-- The same as call467 and call468, of a cel that stands alone. -/
theorem cel467 {pu : Bool} {H : Heap} {q off ver : Nat} {s : Ly} (hw : LyW s) (h1 : rd H q off ver 12 = some (cs .u16 (inkL s))) (h2 : rd H q (off + 12) ver 12 = some (cs .u16 (mskL s))) : Call tab pu 467 [adr q off ver] H = some (.bool (okCel s), H) := by
  refine Call_wp t467 (.inr rfl) rfl ?_
  have c1 := call359 (pu := true) hw.ink.len h1
  have c2 := call359 (pu := true) hw.msk.len h2
  have c3 := call349 (pu := true) hw.ink.len hw.msk.len h1 h2
  have hev := eqV_iv (k := .u16) (n := 12) (f := mixF lessI (inkL s) (mskL s)) (g := zr 12 0) mixF_length (by simp)
  cases k1 : okF (inkL s) with
  | false =>
    have : okCel s = false := by unfold okCel; rw [k1]; rfl
    simp [c467, k467, c1, k1, skip, this]
  | true =>
    cases k2 : okF (mskL s) with
    | false =>
      have : okCel s = false := by unfold okCel; rw [k1, k2]; rfl
      simp [c467, k467, c1, k1, c2, k2, this]
    | true =>
      have : okCel s = decide (mixF lessI (inkL s) (mskL s) = zr 12 0) := by unfold okCel; rw [k1, k2]; rfl
      simp [c467, k467, c1, k1, c2, k2, c3, fill, zs_cs, agg_cs, hev, this, -decide_eq_true_eq, -decide_eq_false_iff_not]
theorem cel468 {pu : Bool} {H : Heap} {q off ver : Nat} {s : Ly} {x y : Int} (hw : LyW s) (h1 : rd H q off ver 12 = some (cs .u16 (inkL s))) (h2 : rd H q (off + 12) ver 12 = some (cs .u16 (mskL s))) (h : okLy s = true) (hx : -100 ≤ x ∧ x ≤ 100) (hy : -100 ≤ y ∧ y ≤ 100) :
    Call tab pu 468 [adr q off ver, .int .i64 (offX s x), .int .i64 (offY s y)] H = some (iv .u16 (lyI s x y ++ lyM s x y), H) := by
  refine Call_wp t468 (.inr rfl) rfl ?_
  obtain ⟨o1, o2⟩ := off_ok h hx hy
  have c1 := call355 (pu := true) (H := H) (dx := offX s x) (dy := offY s y) hw.ink h1 (by omega) (by omega)
  have c2 := call355 (pu := true) (H := H) (dx := offX s x) (dy := offY s y) hw.msk h2 (by omega) (by omega)
  have e1 : shF (inkL s) (offX s x) (offY s y) = lyI s x y := rfl
  have e2 : shF (mskL s) (offX s x) (offY s y) = lyM s x y := rfl
  rw [e1] at c1
  rw [e2] at c2
  have hl : (lyI s x y ++ lyM s x y).length = 24 := by simp [lyI_W.len, lyM_W.len]
  have s3 := stc_zr (k := .u16) (n := 24) (l := lyI s x y ++ lyM s x y) hl
  have hf := fill24 (a := lyI s x y) (b := lyM s x y) lyI_W.len lyM_W.len
  simp [c468, k468, c1, c2, zs_cs, hf, agg_cs, hl, s3, lyI_W.len, lyM_W.len]
theorem call273 {pu : Bool} {H : Heap} {s : Ly} {x y : Int} (hw : LyW s) (h : okLy s = true) (hx : -100 ≤ x ∧ x ≤ 100) (hy : -100 ≤ y ∧ y ≤ 100) :
    Call tab pu 273 [iv .u16 s.f, .int .i64 (offX s x), .int .i64 (offY s y)] H = some (tup [iv .u16 (mvC24 s (offX s x) (offY s y)), .int .i64 (mvCc (offX s x) (offY s y))], H) := by
  refine Call_wp t273 (.inr rfl) rfl ?_
  have hl := hw.len
  obtain ⟨G1, hG1⟩ : ∃ G1, G1 = H ++ [(⟨cs .u16 s.f, 1, 0, false⟩ : Blk)] := ⟨_, rfl⟩
  have p1 : Pre H G1 := by rw [hG1]; exact Pre.one
  have hb : G1[H.length]? = some ⟨cs .u16 s.f, 1, 0, false⟩ := by rw [hG1]; exact get_last
  have hj : sub s.f 0 12 ++ sub s.f 12 12 = s.f := join24 hl
  obtain ⟨r1, r2, r3⟩ := rd24 (G := G1) (P := H.length) (a := inkL s) (b := mskL s) (by rw [hb]; unfold inkL mskL; rw [hj]) hw.ink.len hw.msk.len
  have hk : okCel s = true := by
    unfold okLy at h
    simp only [Bool.and_eq_true] at h
    exact h.1.1.1
  have hF : okF (inkL s) = true := (okLy_d h).2.2.2.1
  have c1 := cel467 (pu := true) hw r1 r2
  rw [hk] at c1
  have c2 := call373 (pu := true) (dx := offX s x) (dy := offY s y) hw.ink.len r1 hF
  have c3 := cel468 (pu := true) hw r1 r2 h hx hy
  have z24 := stc_zr (k := .u16) (n := 24) (l := zr 24 0) (by simp)
  have l1 : (lyI s x y ++ lyM s x y).length = 24 := by simp [lyI_W.len, lyM_W.len]
  have s2 := stc_zr (k := .u16) (n := 24) (l := lyI s x y ++ lyM s x y) l1
  have e1 : shF (inkL s) (offX s x) (offY s y) ++ shF (mskL s) (offX s x) (offY s y) = lyI s x y ++ lyM s x y := rfl
  cases k1 : (in1 (offX s x) (-12) 12 && in1 (offY s y) (-12) 12) with
  | false =>
    rw [show mvCc (offX s x) (offY s y) = 2 by unfold mvCc; rw [k1]; rfl] at c2 ⊢
    rw [show mvC24 s (offX s x) (offY s y) = zr 24 0 by unfold mvC24; rw [k1]; rfl]
    simp [c273, k273, hl, ← hG1, c1, c2, zs_cs, agg_cs, fill0, z24, p1.take]
  | true =>
    rw [show mvCc (offX s x) (offY s y) = 0 by unfold mvCc; rw [k1]; rfl] at c2 ⊢
    rw [show mvC24 s (offX s x) (offY s y) = lyI s x y ++ lyM s x y by unfold mvC24; rw [k1]; rfl]
    simp [c273, k273, hl, ← hG1, c1, c2, c3, zs_cs, agg_cs, lyI_W.len, lyM_W.len, s2, p1.take]
theorem ly_V {s : Ly} (hw : LyW s) (h : okLy s = true) : VF (inkL s) ∧ VF (mskL s) :=
  ⟨⟨hw.ink, (okLy_d h).2.2.2.1⟩, ⟨hw.msk, (okLy_d h).2.2.2.2⟩⟩
theorem okLy_cel {s : Ly} (h : okLy s = true) : okCel s = true := by
  unfold okLy at h
  simp only [Bool.and_eq_true] at h
  exact h.1.1.1
theorem ink_msk {s : Ly} (hw : LyW s) (h : okLy s = true) {x y : Nat} (hx : x < 12) (hy : y < 12) (hd : hasF (inkL s) x y = true) : hasF (mskL s) x y = true := by
  obtain ⟨v1, v2⟩ := ly_V hw h
  have hc := okLy_cel h
  unfold okCel at hc
  simp only [Bool.and_eq_true, decide_eq_true_eq] at hc
  have := mix_less v1 v2 hx hy
  rw [hc.2, hasF_zero hx hy, hd] at this
  cases hm : hasF (mskL s) x y with
  | true => rfl
  | false => rw [hm] at this; cases this
theorem lyI_V {s : Ly} {x y : Int} : VF (lyI s x y) := shF_V
theorem lyM_V {s : Ly} {x y : Int} : VF (lyM s x y) := shF_V
theorem lyI_M {s : Ly} (hw : LyW s) (h : okLy s = true) {x y : Int} {u v : Nat} (hu : u < 12) (hv : v < 12) (hd : hasF (lyI s x y) u v = true) : hasF (lyM s x y) u v = true := by
  unfold lyI lyM shF at *
  rw [hasF_dots hu hv] at hd ⊢
  unfold mvP at *
  simp only [Bool.and_eq_true, decide_eq_true_eq] at hd ⊢
  exact ⟨hd.1, ink_msk hw h (by omega) (by omega) hd.2⟩
theorem cvr_V {l : List Ly} {x y : Int} {k : Nat} : VF (cvr l x y k) := by
  induction k with
  | zero => rw [cvr_zero]; exact .zero
  | succ k ih => rw [cvr_succ]; exact or_V ih lyM_V
theorem flI_V {l : List Ly} {x y : Int} {k : Nat} : VF (flI l x y k) := by
  induction k with
  | zero => rw [flI_zero]; exact .zero
  | succ k ih => rw [flI_succ]; exact or_V ih (less_V lyI_V cvr_V)
theorem flI_cvr {l : List Ly} {x y : Int} (hw : ScW l) (hok : okSc l = true) {k : Nat} (hk : k ≤ l.length) {u v : Nat} (hu : u < 12) (hv : v < 12) (hd : hasF (flI l x y k) u v = true) : hasF (cvr l x y k) u v = true := by
  induction k with
  | zero => rw [flI_zero, hasF_zero hu hv] at hd; cases hd
  | succ k ih =>
    rw [flI_succ, mix_or flI_V (less_V lyI_V cvr_V) hu hv, mix_less lyI_V cvr_V hu hv] at hd
    rw [cvr_succ, mix_or cvr_V lyM_V hu hv]
    simp only [Bool.or_eq_true, Bool.and_eq_true] at hd ⊢
    rcases hd with hd | hd
    · exact .inl (ih (by omega) hd)
    · exact .inr (lyI_M (hw _ (at0_mem (by omega))) (okSc_get hok (by omega)) hu hv hd.1)
/-- A scene laid flat, as a cel. -/
def flatY (l : List Ly) (x y : Int) : Ly := ⟨flI l x y l.length ++ cvr l x y l.length, 0, 0, 0⟩
theorem flatY_ink {l : List Ly} {x y : Int} : inkL (flatY l x y) = flI l x y l.length := (join_sub flI_len cvr_len).1
theorem flatY_msk {l : List Ly} {x y : Int} : mskL (flatY l x y) = cvr l x y l.length := (join_sub flI_len cvr_len).2
theorem flatY_W {l : List Ly} {x y : Int} : LyW (flatY l x y) := by
  refine ⟨by simp [flatY, flI_len, cvr_len], fun n hn => ?_, ⟨by simp [flatY], by simp [flatY]⟩, ⟨by simp [flatY], by simp [flatY]⟩, ⟨by simp [flatY], by simp [flatY]⟩⟩
  rcases List.mem_append.1 hn with h | h
  · exact flI_V.W.ok n h
  · exact cvr_V.W.ok n h
theorem flatY_ok {l : List Ly} {x y : Int} (hw : ScW l) (hok : okSc l = true) : okCel (flatY l x y) = true := by
  unfold okCel
  rw [flatY_ink, flatY_msk, flI_V.ok, cvr_V.ok, less_none flI_V cvr_V fun u v hu hv h => flI_cvr hw hok (Nat.le_refl _) hu hv h]
  simp
/-- The topmost layer is shown as it is. -/
theorem top_dot {l : List Ly} {x y : Int} (hw : ScW l) (hok : okSc l = true) {k : Nat} (h1 : k + 1 ≤ l.length) {u v : Nat} (hu : u < 12) (hv : v < 12) :
    (hasF (lyM (at0 l 0) x y) u v = true → hasF (cvr l x y (k + 1)) u v = true ∧ hasF (flI l x y (k + 1)) u v = hasF (lyI (at0 l 0) x y) u v) ∧ (hasF (lyI (at0 l 0) x y) u v = true → hasF (flI l x y (k + 1)) u v = true) := by
  have hI := lyI_M (hw _ (at0_mem (show 0 < l.length by omega))) (okSc_get hok (show 0 < l.length by omega)) (x := x) (y := y) hu hv
  induction k with
  | zero =>
    have e1 : flI l x y (0 + 1) = lyI (at0 l 0) x y := by
      rw [flI_succ, flI_zero, cvr_zero]
      refine (or_V .zero (less_V lyI_V .zero)).ext lyI_V fun a b ha hb => ?_
      rw [mix_or .zero (less_V lyI_V .zero) ha hb, mix_less lyI_V .zero ha hb, hasF_zero ha hb]; simp
    have e2 : cvr l x y (0 + 1) = lyM (at0 l 0) x y := by
      rw [cvr_succ, cvr_zero]
      refine (or_V .zero lyM_V).ext lyM_V fun a b ha hb => ?_
      rw [mix_or .zero lyM_V ha hb, hasF_zero ha hb]; simp
    rw [e1, e2]
    exact ⟨fun h => ⟨h, rfl⟩, id⟩
  | succ k ih =>
    obtain ⟨i1, i2⟩ := ih (by omega)
    have f1 : hasF (flI l x y (k + 1 + 1)) u v = (hasF (flI l x y (k + 1)) u v || (hasF (lyI (at0 l (k + 1)) x y) u v && !hasF (cvr l x y (k + 1)) u v)) := by
      rw [flI_succ, mix_or flI_V (less_V lyI_V cvr_V) hu hv, mix_less lyI_V cvr_V hu hv]
    have f2 : hasF (cvr l x y (k + 1 + 1)) u v = (hasF (cvr l x y (k + 1)) u v || hasF (lyM (at0 l (k + 1)) x y) u v) := by
      rw [cvr_succ, mix_or cvr_V lyM_V hu hv]
    refine ⟨fun h => ?_, fun h => ?_⟩
    · obtain ⟨j1, j2⟩ := i1 h
      rw [f1, f2, j1, j2]; simp
    · rw [f1, i2 h]; rfl
theorem nth_mix {op : Int → Int → Int} {a b : List Int} {i : Nat} (hi : i < 12) : op (nth a i) (nth b i) = nth (mixF op a b) i := by rw [mixF, nth_tabN hi]
theorem top_rows {l : List Ly} {x y : Int} (hw : ScW l) (hok : okSc l = true) (h0 : 0 < l.length) {i : Nat} (hi : i < 12) :
    lessI (nth (lyI (at0 l 0) x y) i) (nth (flI l x y l.length) i) = 0 ∧ andI (nth (flI l x y l.length) i) (nth (lyM (at0 l 0) x y) i) = nth (lyI (at0 l 0) x y) i := by
  obtain ⟨k, hk⟩ : ∃ k, l.length = k + 1 := ⟨l.length - 1, by omega⟩
  rw [hk]
  constructor
  · rw [nth_mix (op := lessI) hi, less_none lyI_V flI_V fun u v hu hv h => (top_dot hw hok (by omega) hu hv).2 h, nth_zr]
  · rw [nth_mix (op := andI) hi]
    congr 1
    refine (and_V flI_V lyM_V).ext lyI_V fun u v hu hv => ?_
    rw [mix_and flI_V lyM_V hu hv]
    cases hm : hasF (lyM (at0 l 0) x y) u v with
    | true => rw [((top_dot hw hok (by omega) hu hv).1 hm).2, Bool.and_true]
    | false =>
      rw [Bool.and_false]
      cases hi' : hasF (lyI (at0 l 0) x y) u v with
      | false => rfl
      | true =>
        have := lyI_M (hw _ (at0_mem h0)) (okSc_get hok h0) hu hv hi'
        rw [hm] at this; cases this
/-- What ends the law well. -/
def Q55 (n0 : Nat) (H : Heap) : Ex → Env → Heap → Prop := fun x e' H' => (∀ i, x ≠ .exit i) ∧ (resVs e' H' [.t 10]).map (finish n0 H') = some (.bool true, H)
def T21 : Cd := tailC 21 k55
theorem c55_21 {H G : Heap} {e : Env} {M S : List Int} (hP : Pre H G) (hM : M.length = 24) (hS : S.length = 12)
    (rows : ∀ i, i < 12 → bitsOf .andNot .u16 (nth M i) (nth S i) = 0 ∧ bitsOf .and .u16 (nth S i) (nth M (12 + i)) = nth M i)
    (h43 : e 43 = iv .u16 M) (h34 : e 34 = iv .u16 S) : WK tab H.length false T21 [] e G (Q55 H.length H) := by
  simp [T21, tailC, k55]
  refine WP_forH 47 12 12 rfl (by omega) (fun i e => e 43 = iv .u16 M ∧ e 34 = iv .u16 S) ?_ ?_ (by simp) ⟨by simp [h43], by simp [h34]⟩
  · rintro i e hi hii e9 h47 ⟨h43, h34⟩
    obtain ⟨r1, r2⟩ := rows i hi
    have l1 : ldc 1 false (iv .u16 M) i = some (.int .u16 (nth M i)) := ldc_iv1 (by omega)
    have l2 : ldc 1 false (iv .u16 M) (12 + i) = some (.int .u16 (nth M (12 + i))) := ldc_iv1 (by omega)
    have l3 : ldc 1 false (iv .u16 S) i = some (.int .u16 (nth S i)) := ldc_iv1 (by omega)
    simp [b55_3, h47, hii, h43, h34, hi, l1, l2, l3, r1, r2, e9]
  · rintro e h47 ⟨h43, h34⟩
    simp [b55_3, h47, Q55, hP.take]
theorem c55_9 {H G : Heap} {e : Env} {z : Value} {l : List Ly} {x y : Int} (hP : Pre H G) (hw : ScW l) (hn : l.length ≤ 9223372036854775807) (hs : Sc G z l)
    (h2 : e 2 = z) (h3 : e 3 = .int .i64 x) (h4 : e 4 = .int .i64 y) : WK tab H.length false (tailC 9 k55) [] e G (Q55 H.length H) := by
  have c1 := call97 (pu := true) (x := x) (y := y) hw hs
  have c2 := call98 (pu := true) (x := x) (y := y) hw hn hs
  have c3 := call99 (pu := true) (x := x) (y := y) hw hs
  have sl : (shwF l x y).length = 12 := by unfold shwF; split <;> simp [flI_len]
  have fl : (flatF l x y).length = 24 := by unfold flatF; split <;> simp [flI_len, cvr_len]
  have s1 := stc_zr (k := .u16) (n := 12) (l := shwF l x y) sl
  have s2 := stc_zr (k := .u16) (n := 24) (l := flatF l x y) fl
  have q1 := eqV_iv (k := .u16) sl sl
  rw [decide_eq_true rfl] at q1
  have hl := SlR.lenV hs
  by_cases hc : cmC l x y = 0
  rotate_left
  · have hb : (cmC l x y != 0) = true := by simpa using hc
    simp [tailC, k55, h2, h3, h4, c1, c2, c3, zs_cs, agg_cs, sl, fl, s1, s2, q1, hb, hP.take, Q55]
  obtain ⟨hok, hx, hy⟩ := cmC_ok hc
  have eS : shwF l x y = flI l x y l.length := by unfold shwF; rw [if_pos hc]
  have eF : flatF l x y = (flatY l x y).f := by unfold flatF; rw [if_pos hc]; rfl
  have c4 := call100 (pu := true) (H := G) (flatY_W (l := l) (x := x) (y := y))
  rw [flatY_ok hw hok, if_pos rfl, if_pos rfl, flatY_ink, ← eS, ← eF] at c4
  by_cases h0 : l.length = 0
  · have : shwF l x y = zr 12 0 := by rw [eS, h0, flI_zero]
    have hl0 : lenV z = some (.int .i64 0) := by rw [hl, h0]; rfl
    have q0 := eqV_iv (k := .u16) (n := 12) (f := zr 12 0) (g := zr 12 0) (by simp) (by simp)
    rw [decide_eq_true rfl] at q0
    rw [this] at c1 c2 c4 s1
    simp [tailC, k55, h2, h3, h4, c1, c2, c3, c4, zs_cs, agg_cs, fl, s1, s2, hc, q0, hl0, fill0, hP.take, Q55]
  · have h0 : 0 < l.length := by omega
    have hl0 : ((l.length : Int) == 0) = false := by rw [beq_eq_false_iff_ne]; omega
    have c5 := call101 (pu := true) (x := x) (y := y) hw hs hc h0
    have hw0 := hw _ (at0_mem h0)
    have hk0 := okSc_get hok h0
    obtain ⟨q, off, ver, ha, hr, _⟩ := Sc.get hs hw h0
    have ha' : idxAV 27 z (.int .i64 0) = some (adr q off ver) := ha
    have r24 : rd G q off ver 24 = some (cs .u16 (at0 l 0).f) := by
      have := rd_part hr (o := 0) (m := 24) (by omega)
      rw [Nat.add_zero, List.drop_zero] at this
      rw [this, lyC, lyT, List.take_left' (by simp [hw0.len])]
    have c6 := call102 (pu := true) (H := G) hw0 hk0 hx hy
    have c7 := call273 (pu := true) (H := G) hw0 hk0 hx hy
    have ml : (mvC24 (at0 l 0) (offX (at0 l 0) x) (offY (at0 l 0) y)).length = 24 := by unfold mvC24; split <;> simp [shF_length]
    have s3 := stc_zr (k := .u16) (n := 24) ml
    have al := hw0.len
    by_cases hm : mvCc (offX (at0 l 0) x) (offY (at0 l 0) y) = 0
    rotate_left
    · have hmb : (mvCc (offX (at0 l 0) x) (offY (at0 l 0) y) != 0) = true := by simpa using hm
      simp [tailC, k55, h2, h3, h4, c1, c2, c3, c4, zs_cs, agg_cs, sl, fl, s1, s2, hc, q1, hl, hl0, c5, ha', r24, al, c6, c7, ml, s3, hmb, hP.take, Q55]
    have eM : mvC24 (at0 l 0) (offX (at0 l 0) x) (offY (at0 l 0) y) = lyI (at0 l 0) x y ++ lyM (at0 l 0) x y := by
      unfold mvCc at hm
      unfold mvC24
      split at hm
      · rename_i hh; rw [if_pos hh]; rfl
      · cases hm
    rw [hm] at c6
    have rows : ∀ i, i < 12 → bitsOf .andNot .u16 (nth (mvC24 (at0 l 0) (offX (at0 l 0) x) (offY (at0 l 0) y)) i) (nth (shwF l x y) i) = 0 ∧ bitsOf .and .u16 (nth (shwF l x y) i) (nth (mvC24 (at0 l 0) (offX (at0 l 0) x) (offY (at0 l 0) y)) (12 + i)) = nth (mvC24 (at0 l 0) (offX (at0 l 0) x) (offY (at0 l 0) y)) i := fun i hi => by
      have e1 : nth (lyI (at0 l 0) x y ++ lyM (at0 l 0) x y) i = nth (lyI (at0 l 0) x y) i := by
        unfold nth
        rw [List.getD_eq_getElem?_getD, List.getD_eq_getElem?_getD, List.getElem?_append_left (by rw [lyI_W.len]; exact hi)]
      have e2 : nth (lyI (at0 l 0) x y ++ lyM (at0 l 0) x y) (12 + i) = nth (lyM (at0 l 0) x y) i := by
        unfold nth
        rw [List.getD_eq_getElem?_getD, List.getD_eq_getElem?_getD, List.getElem?_append_right (by rw [lyI_W.len]; omega), lyI_W.len, show 12 + i - 12 = i by omega]
      rw [eM, eS, e1, e2]
      exact top_rows hw hok h0 hi
    generalize mvC24 (at0 l 0) (offX (at0 l 0) x) (offY (at0 l 0) y) = M at *
    generalize shwF l x y = S at *
    have e9 : tailC 9 k55 = headC 12 (tailC 9 k55) T21 := rfl
    rw [e9]
    simp [headC, tailC, k55, h2, h3, h4, c1, c2, c3, c4, zs_cs, agg_cs, sl, fl, s1, s2, hc, q1, hl, hl0, c5, ha', r24, al, c6, ml, s3]
    exact c55_21 hP ml sl rows (by simp) (by simp)
theorem any92 {pu : Bool} {H : Heap} {x : Value} {b : List (List Int)} {least : Int} (h : Bk H x b) (hw : BkW b) : Call tab pu 92 [x, .int .i64 least] H = some (lpR b least, H) := by
  by_cases hn : b.length ≤ 1000000
  · exact call92 h hw hn
  · refine Call_wp t92 (.inr rfl) rfl ?_
    have hc := any316 (pu := true) h hw
    cases hk : okB b with
    | true => have := okB_len hk; omega
    | false => simp [c92, k92, hc, hk, lpR]
theorem any93 {pu : Bool} {H : Heap} {x : Value} {b : List (List Int)} {least : Int} (h : Bk H x b) (hw : BkW b) (hn : b.length ≤ 9223372036854775807) : Call tab pu 93 [x, .int .i64 least] H = some (lpR b least, H) := by
  by_cases hn : b.length ≤ 1000000
  · exact call93 h hw hn
  · refine Call_wp t93 (.inr rfl) rfl ?_
    have hc := any318 (pu := true) h hw (by assumption)
    cases hk : okB b with
    | true => have := okB_len hk; omega
    | false => simp [c93, k93, hc, hk, lpR]
def T9 : Cd := tailC 9 k55
/-- The arguments. -/
structure K55 (H G : Heap) (x z : Value) (b : List (List Int)) (l : List Ly) : Prop where
  pr : Pre H G
  bk : Bk G x b
  bw : BkW b
  nb : b.length ≤ 9223372036854775807
  sc : Sc G z l
  sw : ScW l
  nl : l.length ≤ 9223372036854775807
def E55 (e : Env) (x z : Value) (m u v : Int) : Prop := e 0 = x ∧ e 1 = .int .i64 m ∧ e 2 = z ∧ e 3 = .int .i64 u ∧ e 4 = .int .i64 v
theorem c55_T9 {H G : Heap} {e : Env} {x z : Value} {b : List (List Int)} {l : List Ly} {m u v : Int} (h : K55 H G x z b l) (hE : E55 e x z m u v) : WK tab H.length false T9 [] e G (Q55 H.length H) :=
  c55_9 h.pr h.sw h.nl h.sc hE.2.2.1 hE.2.2.2.1 hE.2.2.2.2
theorem c55_2 {H G : Heap} {e : Env} {x z : Value} {b : List (List Int)} {l : List Ly} {u v j : Int} {least f c : Nat} (h : K55 H G x z b l) (hE : E55 e x z (least : Int) u v) (hk : okB b = true) (hl : 1 ≤ least) (hlb : least ≤ b.length)
    (hj : j = lpD b c f) (hb : ∀ n i, least ≤ n → i + n ≤ b.length → j ≤ lpD b n i ∧ (lpD b n i = j → n < c ∨ (n = c ∧ f ≤ i)))
    (h20 : e 20 = .int .i64 f) (h21 : e 21 = .int .i64 c) (h22 : e 22 = .int .i64 j) (h23 : e 23 = .int .i64 0) (h28 : e 28 = .int .i64 0) :
    WK tab H.length false (.loop b55_2) [.blk 0, .seq T9] e G (Q55 H.length H) := by
  obtain ⟨hfs, hnb⟩ := okB_fs2 hk
  have hV : ∀ f ∈ b, VF f := fun f hf => ⟨h.bw f hf, List.all_eq_true.1 (show b.all okF = true from hfs) _ hf⟩
  refine WP_forH 28 b.length _ rfl (by omega) (fun i e => E55 e x z (least : Int) u v ∧ e 20 = .int .i64 f ∧ e 21 = .int .i64 c ∧ e 22 = .int .i64 j ∧ e 23 = .int .i64 0) ?_ ?_ h28 ⟨hE, h20, h21, h22, h23⟩
  · rintro i e hi hii e9 h28 ⟨⟨h0, h1, h2, h3, h4⟩, h20, h21, h22, h23⟩
    simp [b55_2, h0, h1, h23, h28, h.bk.lenV, hi, hii]
    obtain ⟨N, hN⟩ : ∃ N, N = max least (b.length - i + 1) := ⟨_, rfl⟩
    refine WP_from 29 least N _ rfl (fun n e G' => G = G' ∧ E55 e x z (least : Int) u v ∧ e 20 = .int .i64 f ∧ e 21 = .int .i64 c ∧ e 22 = .int .i64 j ∧ e 23 = .int .i64 0 ∧ e 28 = .int .i64 i) (by omega) (by omega) ?_ ?_ (by simp) ⟨rfl, by simp [E55, h0, h1, h2, h3, h4], by simp [h20], by simp [h21], by simp [h22], by simp [h23], by simp [h28]⟩
    · rintro n e _ hn1 hn2 hnn e10 h29 ⟨rfl, ⟨h0, h1, h2, h3, h4⟩, h20, h21, h22, h23, h28⟩
      have hin : i + n ≤ b.length := by omega
      have w1 : IntKind.wrap .i64 ((i : Int) + n) = ((i + n : Nat) : Int) := by rw [wrap64 (by omega)]; omega
      have w2 : IntKind.wrap .i64 (((i + n : Nat) : Int) - 1) = ((i + n - 1 : Nat) : Int) := by rw [wrap64 (by omega)]; omega
      have hin' : decide (((i + n : Nat) : Int) ≤ b.length) = true := decide_eq_true (by omega)
      obtain ⟨q, off, ver, ha, hr⟩ := Bk.get h.bk h.bw (i := i + n - 1) (by omega)
      obtain ⟨q', off', ver', ha', hr'⟩ := Bk.get h.bk h.bw (i := i) (by omega)
      have V1 : VF (fr b (i + n - 1)) := hV _ (at0_mem (by omega))
      have V2 : VF (fr b i) := hV _ (at0_mem (by omega))
      have c1 := call125 (pu := true) (H := G) V1 V2
      obtain ⟨b1, b2⟩ := hb n i hn1 hin
      have eD : difF (fr b (i + n - 1)) (fr b i) = lpD b n i := rfl
      rw [eD] at c1
      have g1 : ¬ lpD b n i < j := by omega
      by_cases hif : i = f
      · have k3 : ((i : Int) == (f : Int)) = true := by rw [beq_iff_eq]; omega
        by_cases hnc : n = c
        · have k4 : ((n : Int) == (c : Int)) = true := by rw [beq_iff_eq]; omega
          have k1 : (lpD b n i != j) = false := by rw [hj, hif, hnc]; simp
          simp [b55_1, h0, h1, h2, h3, h4, h20, h21, h22, h23, h28, h29, h.bk.lenV, w1, w2, hin, hin', ha, hr, ha', hr', agg_cs, c1, g1, k1, k3, k4, skip, e10, E55, -Int.natCast_add]
        · have k4 : ((n : Int) == (c : Int)) = false := by rw [beq_eq_false_iff_ne]; omega
          simp [b55_1, h0, h1, h2, h3, h4, h20, h21, h22, h23, h28, h29, h.bk.lenV, w1, w2, hin, hin', ha, hr, ha', hr', agg_cs, c1, g1, k3, k4, skip, e10, E55, -Int.natCast_add]
      · have k3 : ((i : Int) == (f : Int)) = false := by rw [beq_eq_false_iff_ne]; omega
        simp [b55_1, h0, h1, h2, h3, h4, h20, h21, h22, h23, h28, h29, h.bk.lenV, w1, w2, hin, hin', ha, hr, ha', hr', agg_cs, c1, g1, k3, skip, e10, E55, -Int.natCast_add]
    · rintro e _ h29 ⟨rfl, ⟨h0, h1, h2, h3, h4⟩, h20, h21, h22, h23, h28⟩
      have w1 : IntKind.wrap .i64 ((i : Int) + N) = ((i + N : Nat) : Int) := by rw [wrap64 (by omega)]; omega
      have hin' : decide (((i + N : Nat) : Int) ≤ b.length) = false := decide_eq_false (by omega)
      have hin2 : ¬ i + N ≤ b.length := by omega
      simp [b55_1, h0, h1, h2, h3, h4, h20, h21, h22, h23, h28, h29, h.bk.lenV, w1, hin2, hin', e9, E55, -Int.natCast_add]
  · rintro e h28 ⟨hE, h20, h21, h22, h23⟩
    have h0 := hE.1
    simp [b55_2, h0, h23, h28, h.bk.lenV]
    exact c55_T9 (m := (least : Int)) (u := u) (v := v) h (by obtain ⟨h0, h1, h2, h3, h4⟩ := hE; simp [E55, h0, h1, h2, h3, h4])
theorem c55_5 {H G : Heap} {e : Env} {x z : Value} {b : List (List Int)} {l : List Ly} {m u v : Int} (h : K55 H G x z b l) (hE : E55 e x z m u v) :
    WK tab H.length false (tailC 5 k55) [] e G (Q55 H.length H) := by
  obtain ⟨h0, h1, h2, h3, h4⟩ := hE
  have c1 := any92 (pu := true) (least := m) h.bk h.bw
  have c2 := any93 (pu := true) (least := m) h.bk h.bw h.nb
  have e5 : tailC 5 k55 = headC 4 (tailC 5 k55) T9 := rfl
  rw [e5]
  by_cases hok : okB b = true ∧ 1 ≤ m ∧ m ≤ b.length
  · obtain ⟨hk, hm1, hm2⟩ := hok
    obtain ⟨least, rfl⟩ := Int.eq_ofNat_of_zero_le (show 0 ≤ m by omega)
    obtain ⟨f, c, j, b1, b2, b3, b4, b5⟩ := best_loop (b := b) (least := least) (by omega) (by omega)
    have e1 : lpR b least = tup [.int .i64 f, .int .i64 c, .int .i64 j, .int .i64 0] := by
      rw [lpR, if_pos hk, if_neg (by omega), if_neg (by omega), show ((least : Nat) : Int).toNat = least from Int.toNat_natCast least, b1]
    rw [e1] at c1 c2
    simp [headC, tailC, k55, h0, h1, c1, c2, g4a, g4b, g4c, g4d]
    exact c55_2 (u := u) (v := v) h (by simp [E55, h0, h1, h2, h3, h4]) hk (by omega) (by omega) b4 b5 (by simp) (by simp) (by simp) (by simp) (by simp)
  · obtain ⟨cd, e1, hcd⟩ : ∃ cd, lpR b m = tup [.int .i64 0, .int .i64 0, .int .i64 0, .int .i64 cd] ∧ cd ≠ 0 := by
      unfold lpR
      split
      · split
        · exact ⟨_, rfl, by omega⟩
        · split
          · exact ⟨_, rfl, by omega⟩
          · exact absurd ⟨by assumption, by omega, by omega⟩ hok
      · exact ⟨_, rfl, by omega⟩
    rw [e1] at c1 c2
    simp [headC, tailC, k55, h0, h1, c1, c2, g4a, g4b, g4c, g4d]
    have hcb : (cd == 0) = false := by rw [beq_eq_false_iff_ne]; exact hcd
    refine WK_loop (fun i e' H' => G = H' ∧ E55 e' x z m u v ∧ e' 23 = .int .i64 cd) 0 ?_ (Nat.le_refl _) ⟨rfl, by simp [E55, h0, h1, h2, h3, h4], by simp⟩
    rintro i e _ _ hi ⟨rfl, ⟨h0, h1, h2, h3, h4⟩, h23⟩
    simp [b55_2, h23, hcb, skip]
    exact c55_T9 (m := m) (u := u) (v := v) h (by simp [E55, h0, h1, h2, h3, h4])
theorem bad86 {pu : Bool} {H : Heap} {x : Value} {b : List (List Int)} (h : Bk H x b) (hw : BkW b) (hk : okB b = false) : Call tab pu 86 [x] H = some (tup [.slice none 0 0, .int .i64 1], H) := by
  refine Call_wp t86 (.inr rfl) rfl ?_
  have c1 := any316 (pu := true) h hw
  rw [hk] at c1
  simp [c86, k86, c1, finish_nil2]
theorem bad87 {pu : Bool} {H : Heap} {x : Value} {b : List (List Int)} (h : Bk H x b) (hw : BkW b) (hn : b.length ≤ 9223372036854775807) (hk : okB b = false) : Call tab pu 87 [x] H = some (tup [slc H.length 0 0 0 0, .int .i64 1], H ++ [⟨[], 2, 0, false⟩]) := by
  refine Call_wp t87 (.inr rfl) rfl ?_
  have c1 := any318 (pu := true) h hw hn
  rw [hk] at c1
  have hf1 : fill (rep 0 [.int .i8 0, .int .i8 0]) [] = some [] := rfl
  have hfin := (Gr.new (H := H) (G := H) (esz := 2) .refl).fin2 (by intro v hv; simp at hv) (c := 1)
  simp [c87, k87, c1, hf1, hfin]
def T5' : Cd := tailC 5 k55
theorem c55_bad {H : Heap} {e : Env} {x z : Value} {b : List (List Int)} {l : List Ly} {m u v c : Int} (h : K55 H H x z b l) (hE : E55 e x z m u v) (hc : c ≠ 0)
    (c1 : Call tab true 86 [x] H = some (tup [.slice none 0 0, .int .i64 c], H)) (c2 : Call tab true 87 [x] H = some (tup [slc H.length 0 0 0 0, .int .i64 c], H ++ [⟨[], 2, 0, false⟩])) :
    WK tab H.length false k55 [] e H (Q55 H.length H) := by
  obtain ⟨h0, h1, h2, h3, h4⟩ := hE
  obtain ⟨G1, hG1⟩ : ∃ G1, G1 = H ++ [(⟨[], 2, 0, false⟩ : Blk)] := ⟨_, rfl⟩
  have p1 : Pre H G1 := by rw [hG1]; exact Pre.one
  rw [← hG1] at c2
  have s1 : SlR G1 (.slice none 0 0) 2 ([] : ML).length (mvsC []) := ⟨by rfl, .inl ⟨rfl, rfl⟩⟩
  have s2 : SlR G1 (slc H.length 0 0 0 0) 2 ([] : ML).length (mvsC []) := by
    rw [hG1]; exact (own_new (H := H) (esz := 2) (n := 0) (vs := []) rfl).sl
  have c3 := call90 (pu := true) s1 s2 (by simp)
  have hb : (c == 0) = false := by rw [beq_eq_false_iff_ne]; exact hc
  have e5 : k55 = headC 5 k55 T5' := rfl
  rw [e5]
  simp [headC, k55, h0, c1, c2, c3, hb]
  exact c55_5 (m := m) (u := u) (v := v) (l := l) ⟨p1, h.bk.pre p1, h.bw, h.nb, SlR.pre p1 h.sc, h.sw, h.nl⟩ (by simp [E55, h0, h1, h2, h3, h4])
theorem c55_all {H : Heap} {e : Env} {x z : Value} {b : List (List Int)} {l : List Ly} {m u v : Int} (h : K55 H H x z b l) (hE : E55 e x z m u v) : WK tab H.length false k55 [] e H (Q55 H.length H) := by
  cases hk : okB b with
  | false => exact c55_bad h hE (c := 1) (by omega) (bad86 h.bk h.bw hk) (bad87 h.bk h.bw h.nb hk)
  | true =>
    obtain ⟨hfs, hnb⟩ := okB_fs2 hk
    have hV : ∀ f ∈ b, VF f := fun f hf => ⟨h.bw f hf, List.all_eq_true.1 (show b.all okF = true from hfs) _ hf⟩
    have c1 := fun G (p : Pre H G) => call86 (pu := true) (h.bk.pre p) hV hnb
    have c2 := fun G (p : Pre H G) => call87 (pu := true) (h.bk.pre p) hV hnb
    cases hs : shL (dsL b b.length).2 b.length with
    | none =>
      rw [hs] at c1 c2
      exact c55_bad h hE (c := 3) (by omega) (c1 H .refl) (c2 H .refl)
    | some s =>
      rw [hs] at c1 c2
      obtain ⟨h0, h1, h2, h3, h4⟩ := hE
      have I := dsL_I (b := b) (k := b.length)
      have J := shL_I hs (by rw [I.l2]; omega)
      obtain ⟨G1, hG1⟩ : ∃ G1, G1 = H ++ [(⟨mvsC s, 2, 0, false⟩ : Blk)] := ⟨_, rfl⟩
      have p1 : Pre H G1 := by rw [hG1]; exact Pre.one
      have c1 := c1 H .refl
      have c2 := c2 G1 p1
      simp only [sh86, sh87] at c1 c2
      rw [← hG1] at c1
      obtain ⟨G2, hG2⟩ : ∃ G2, G2 = G1 ++ [(⟨mvsC s, 2, 0, false⟩ : Blk)] := ⟨_, rfl⟩
      have p2 : Pre G1 G2 := by rw [hG2]; exact Pre.one
      rw [← hG2] at c2
      have s1 : SlR G1 (slc H.length 0 0 s.length s.length) 2 s.length (mvsC s) := by rw [hG1]; exact (own_new (H := H) (esz := 2) (n := s.length) (vs := mvsC s) mvsC_length).sl
      have s2 : SlR G2 (slc G1.length 0 0 s.length s.length) 2 s.length (mvsC s) := by rw [hG2]; exact (own_new (H := G1) (esz := 2) (n := s.length) (vs := mvsC s) mvsC_length).sl
      have s1' := SlR.pre p2 s1
      have hsl := J.len
      have c3 := call90 (pu := true) s1' s2 (by omega)
      have p12 := p1.trans p2
      have c4 := call272 (pu := true) (h.bk.pre p12) hV hnb
      obtain ⟨G3, hG3⟩ : ∃ G3, G3 = dsH G2 b := ⟨_, rfl⟩
      have p3 : Pre G2 G3 := by rw [hG3]; exact ⟨_, rfl⟩
      rw [← hG3] at c4
      have VD := dsL_V hV (k := b.length) (Nat.le_refl _)
      have bkD : Bk G3 (slc G2.length 0 0 (dsL b b.length).1.length (dsL b b.length).1.length) (dsL b b.length).1 := bk_of (by rw [hG3]; simp [dsH]) VD rfl (Nat.le_refl _)
      have hk2 : okShs s (dsL b b.length).1.length := by
        refine ⟨by omega, fun i hi => ?_⟩
        obtain ⟨j, j1, j2⟩ := J.val i hi
        obtain ⟨q, q1, q2, _⟩ := I.at' j j1
        have := J.hold i hi
        rw [j2, q1]
        omega
      have hT : tckL s s.length = (dsL b b.length).2 := by rw [J.tck]; exact List.take_of_length_le (by rw [I.l2]; exact Nat.le_refl _)
      have c5 := call89 (pu := true) bkD VD (by have := I.l1; omega) (SlR.pre p3 s1') hk2 (by rw [hT, I.l2]; omega)
      rw [hT, plB_ds, I.l2] at c5
      obtain ⟨G4, hG4⟩ : ∃ G4, G4 = G3 ++ [(⟨bkC b, 12, 0, false⟩ : Blk)] := ⟨_, rfl⟩
      have p4 : Pre G3 G4 := by rw [hG4]; exact Pre.one
      rw [← hG4] at c5
      have bkP : Bk G4 (slc G3.length 0 0 b.length b.length) b := bk_of (by rw [hG4]; exact get_last) hV rfl (Nat.le_refl _)
      have P4 := p12.trans (p3.trans p4)
      have c6 := call91 (pu := true) bkP (h.bk.pre P4) (by omega) h.bw
      have e5 : k55 = headC 5 k55 T5' := rfl
      rw [e5]
      simp [headC, k55, h0, c1, c2, c3, c4, c5, c6]
      exact c55_5 (m := m) (u := u) (v := v) (l := l) ⟨P4, h.bk.pre P4, h.bw, h.nb, SlR.pre P4 h.sc, h.sw, h.nl⟩ (by simp [E55, h0, h1, h2, h3, h4])
theorem call55 {H : Heap} {x z : Value} {b : List (List Int)} {l : List Ly} {m u v : Int} (hx : Bk H x b) (hb : BkW b) (nb : b.length ≤ 9223372036854775807) (hz : Sc H z l) (hl : ScW l) (nl : l.length ≤ 9223372036854775807) :
    Call tab false 55 [x, .int .i64 m, z, .int .i64 u, .int .i64 v] H = some (.bool true, H) :=
  Call_wp t55 (.inl rfl) rfl (c55_all (m := m) (u := u) (v := v) ⟨.refl, hx, hb, nb, hz, hl, nl⟩ (by simp [E55]))
end Fb
