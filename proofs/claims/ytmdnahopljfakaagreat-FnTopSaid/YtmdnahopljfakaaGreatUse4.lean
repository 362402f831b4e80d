/- What each function computes. -/
import Derived.Test.YtmdnahopljfakaaGreatUse3
set_option linter.unusedVariables false
set_option linter.unusedSimpArgs false
namespace Fb
open Go
theorem call453 {pu : Bool} {H : Heap} {q off ver : Nat} {f : List Int} (hf : VF f) (hr : rd H q off ver 12 = some (cs .u16 f)) : Call tab pu 453 [adr q off ver] H = some (iv .u16 (growF f), H) := by
  refine Call_wp t453 (.inr rfl) rfl ?_
  have hlf := hf.W.len
  obtain ⟨G0, hG0⟩ : ∃ G0, G0 = H ++ [(⟨cs .u16 (zr 12 0), 1, 0, false⟩ : Blk)] := ⟨_, rfl⟩
  have p0 : Pre H G0 := by rw [hG0]; exact Pre.one
  have hr0 := p0.rd hr
  have g0 : G0[H.length]? = some ⟨cs .u16 (zr 12 0), 1, 0, false⟩ := by rw [hG0]; exact get_last
  obtain ⟨G1, hG1⟩ : ∃ G1, G1 = G0.set H.length ⟨cs .u16 f, 1, 0, false⟩ := ⟨_, rfl⟩
  have w0 : wr H.length false G0 H.length 0 0 (cs .u16 f) = some G1 := by
    rw [wr_at g0 rfl rfl (by simp [may]) (by simp [hlf]), hG1]
    congr 2
    simp [splice, hlf]
  have p1 : Pre H G1 := by rw [hG1]; exact p0.set (Nat.le_refl _)
  have g1 : G1[H.length]? = some ⟨cs .u16 f, 1, 0, false⟩ := by rw [hG1]; exact get_set g0
  have l1 : G1.length = H.length + 1 := by rw [hG1, hG0]; simp
  have c1 := call440 (pu := true) hf.W (p1.rd hr)
  obtain ⟨G2, hG2⟩ : ∃ G2, G2 = G1 ++ [(⟨dotC f 144, 2, 0, false⟩ : Blk)] := ⟨_, rfl⟩
  rw [← hG2, l1] at c1
  have p2 : Pre G1 G2 := by rw [hG2]; exact Pre.one
  have g2 : G2[H.length]? = some ⟨cs .u16 f, 1, 0, false⟩ := by rw [p2.get (by omega)]; exact g1
  have d2 : G2[H.length + 1]? = some ⟨dotC f 144, 2, 0, false⟩ := by rw [hG2, ← l1]; exact get_last
  have hcl : (dotC f 144).length = (dotL f 144).length * 2 := by rw [dotC, mvsC_length]; simp
  have hle := dotL_len (f := f) (k := 144)
  have hz : (zr 12 0).length = 12 := by simp
  simp [c453, k453, zs_cs, agg_cs, ← hG0, hr, hlf, w0, c1, wbOf]
  obtain ⟨x4, hx4⟩ : ∃ x4, x4 = slc (H.length + 1) 0 0 (dotL f 144).length (dotL f 144).length := ⟨_, rfl⟩
  rw [← hx4]
  refine WP_count 5 (dotL f 144).length _ rfl (fun j e G => e 2 = iv .u16 (zr 12 0) ∧ e 3 = adr H.length 0 0 ∧ e 4 = x4 ∧ Pre H G ∧ G[H.length]? = some ⟨cs .u16 (grL f j), 1, 0, false⟩ ∧ G[H.length + 1]? = some ⟨dotC f 144, 2, 0, false⟩) (by omega) ?_ ?_ (by simp)
    ⟨by simp, by simp, by simp, p1.trans p2, by rw [grL_zero]; exact g2, d2⟩
  · rintro j e G _ hj hjj e5 h5 ⟨h2, h3, h4, pG, g, d⟩
    have hs : SlR G x4 2 (dotL f 144).length (dotC f 144) := ⟨hcl, .inr ⟨_, 0, 0, _, hx4, Nat.le_refl _, by rw [rd_at d rfl (by simp [hcl])]; simp [take_all (Nat.le_of_eq hcl)], _, d, rfl, rfl⟩⟩
    obtain ⟨q', o', v', ha, hr'⟩ := hs.get1 hj
    have hel : elem (dotC f 144) 2 j = mvC (dotM (at0 (dotL f 144) j)) := by
      unfold dotC
      rw [mvsC_elem (by simpa using hj), mv_map hj]
    rw [hel] at hr'
    have r1 := rd_part hr' (o := 0) (m := 1) (by omega)
    have r2 := rd_part hr' (o := 1) (m := 1) (by omega)
    obtain ⟨p, hp⟩ : ∃ p, p = at0 (dotL f 144) j := ⟨_, rfl⟩
    have hgs : grL f (j + 1) = gr1 p (grL f j) := by rw [hp]; exact grL_succ
    have hp144 : p < 144 := by
      have hm := at0_mem hj
      rw [← hp] at hm
      have := (List.mem_filter.1 (show p ∈ (List.range 144).filter (hasK f) from hm)).1
      simpa using this
    rw [← hp] at r1 r2
    have r1 : rd G q' o' v' 1 = some [.int .i8 ((p % 12 : Nat) : Int)] := r1
    have r2 : rd G q' (o' + 1) v' 1 = some [.int .i8 ((p / 12 : Nat) : Int)] := r2
    obtain ⟨X, hX⟩ : ∃ X : Int, X = ((p % 12 : Nat) : Int) := ⟨_, rfl⟩
    obtain ⟨Y, hY⟩ : ∃ Y : Int, Y = ((p / 12 : Nat) : Int) := ⟨_, rfl⟩
    rw [← hX] at r1
    rw [← hY] at r2
    unfold gr1 at hgs
    rw [← hX, ← hY] at hgs
    have bX : 0 ≤ X ∧ X < 12 := by omega
    have bY : 0 ≤ Y ∧ Y < 12 := by omega
    have w1 : IntKind.wrap .i64 X = X := wrap64 (by omega)
    have w2 : IntKind.wrap .i64 Y = Y := wrap64 (by omega)
    have w3 : IntKind.wrap .i64 (X - 1) = X - 1 := wrap64 (by omega)
    have w4 : IntKind.wrap .i64 (X + 1) = X + 1 := wrap64 (by omega)
    have w5 : IntKind.wrap .i64 (Y - 1) = Y - 1 := wrap64 (by omega)
    have w6 : IntKind.wrap .i64 (Y + 1) = Y + 1 := wrap64 (by omega)
    have V0 := grL_V hf (j := j)
    have V1 := putI_V (a := X - 1) (b := Y) V0
    have V2 := putI_V (a := X + 1) (b := Y) V1
    have V3 := putI_V (a := X) (b := Y - 1) V2
    have c2 := put305 (x := X - 1) (y := Y) g V0.W.len
    have g1 := get_set (k' := ⟨cs .u16 (putI (grL f j) (X - 1) Y), 1, 0, false⟩) g
    have c3 := put305 (x := X + 1) (y := Y) g1 V1.W.len
    rw [set_set] at c3
    have g2 := get_set (k' := ⟨cs .u16 (putI (putI (grL f j) (X - 1) Y) (X + 1) Y), 1, 0, false⟩) g
    have c4 := put305 (x := X) (y := Y - 1) g2 V2.W.len
    rw [set_set] at c4
    have g3 := get_set (k' := ⟨cs .u16 (putI (putI (putI (grL f j) (X - 1) Y) (X + 1) Y) X (Y - 1)), 1, 0, false⟩) g
    have c5 := put305 (x := X) (y := Y + 1) g3 V3.W.len
    rw [set_set, ← hgs] at c5
    have el : ∀ k v, elder H.length false (G.set H.length k) (v, G.set H.length k) = some (v, G.set H.length k) := fun k v => elder_same rfl
    have el2 : ∀ k k' v, elder H.length false (G.set H.length k) (v, G.set H.length k') = some (v, G.set H.length k') := fun k k' v => elder_same (by rw [Mv.set.take (Nat.le_refl _), Mv.set.take (Nat.le_refl _)])
    have el0 : ∀ k v, elder H.length false G (v, G.set H.length k) = some (v, G.set H.length k) := fun k v => elder_same (Mv.set.take (Nat.le_refl _))
    simp [b453_1, h5, h2, h3, h4, hs.lenV, hjj, ha, r1, r2, w1, w2, w3, w4, w5, w6, c2, c3, c4, c5, el0, el2, e5, wbOf]
    exact ⟨pG.set (Nat.le_refl _), get_set g, d⟩
  · rintro e G _ h5 ⟨h2, h3, h4, pG, g, d⟩
    rw [grL_all hf] at g
    have hs : SlR G x4 2 (dotL f 144).length (dotC f 144) := ⟨hcl, .inr ⟨_, 0, 0, _, hx4, Nat.le_refl _, by rw [rd_at d rfl (by simp [hcl])]; simp [take_all (Nat.le_of_eq hcl)], _, d, rfl, rfl⟩⟩
    have hl := (growF_V (f := f)).W.len
    have rF : rd G H.length 0 0 12 = some (cs .u16 (growF f)) := by rw [rd_at g rfl (by simp [hl])]; simp [take_all, hl]
    have z12 := stc_zr (k := .u16) (n := 12) (l := growF f) hl
    simp [b453_1, h5, h2, h3, h4, hs.lenV, rF, agg_cs, hl, z12, pG.take]
def jmL (b : List (List Int)) (k : Nat) : List Int := (List.range k).map fun i => difF (fr b i) (fr b (i + 1))
theorem jmL_succ {b : List (List Int)} {k : Nat} : jmL b (k + 1) = jmL b k ++ [difF (fr b k) (fr b (k + 1))] := by
  unfold jmL; rw [List.range_succ, List.map_append]; rfl
theorem jmL_len {b : List (List Int)} {k : Nat} : (jmL b k).length = k := by simp [jmL]
theorem jmL_nth {b : List (List Int)} {k i : Nat} (h : i < k) : nth (jmL b k) i = difF (fr b i) (fr b (i + 1)) := by
  simp [nth, jmL, h]
theorem call326 {pu : Bool} {H : Heap} {x : Value} {b : List (List Int)} (h : Bk H x b) (hV : ∀ f ∈ b, VF f) (hn : b.length ≤ 1000) :
    Call tab pu 326 [x] H = some (slc H.length 0 0 (b.length - 1) (b.length - 1), H ++ [⟨cs .i64 (jmL b (b.length - 1)), 1, 0, false⟩]) := by
  have hw : BkW b := fun f hf => (hV f hf).W
  refine Call_wp t326 (.inr rfl) rfl ?_
  have hf1 : fill (rep 0 [.int .i64 0]) [] = some [] := rfl
  obtain ⟨G1, hG1⟩ : ∃ G1, G1 = H ++ [(⟨[], 1, 0, false⟩ : Blk)] := ⟨_, rfl⟩
  have z : Gr H G1 (slc H.length 0 0 0 0) 1 0 (cs .i64 (jmL b 0)) := by rw [hG1]; exact Gr.new .refl
  simp [c326, k326, hf1, ← hG1]
  obtain ⟨N, hN⟩ : ∃ N, N = max 1 b.length := ⟨_, rfl⟩
  refine WP_from 4 1 N _ rfl (fun i e G => e 0 = x ∧ ∃ g, e 3 = g ∧ Gr H G g 1 (i - 1) (cs .i64 (jmL b (i - 1)))) (by omega) (by omega) ?_ ?_ (by simp) ⟨by simp, _, by simp, z⟩
  · rintro i e G hi1 hi hii e9 h4 ⟨h0, g, h3, hg⟩
    obtain ⟨k, rfl⟩ : ∃ k, i = k + 1 := ⟨i - 1, by omega⟩
    have hB := h.pre hg.pr
    have hlt : (k : Int) + 1 < b.length := by omega
    obtain ⟨q, off, ver, ha, hr⟩ := Bk.get hB hw (i := k) (by omega)
    obtain ⟨q', off', ver', ha', hr'⟩ := Bk.get hB hw (i := k + 1) (by omega)
    have V1 : VF (fr b k) := hV _ (at0_mem (by omega))
    have V2 : VF (fr b (k + 1)) := hV _ (at0_mem (by omega))
    have c1 := call324 (pu := true) (H := G) V1.W V2.W V1.ok V2.ok
    obtain ⟨g', G', c3, hg'⟩ := hg.push (c := [.int .i64 (difF (fr b k) (fr b (k + 1)))]) (bytes := 8) rfl (room8 (by omega)) (wb := false)
    rw [cs_push, Nat.add_sub_cancel, ← jmL_succ] at hg'
    have hf2 := fill_one (z := [.int .i64 0]) (v := .int .i64 (difF (fr b k) (fr b (k + 1)))) (esz := 1) rfl rfl
    have wk : IntKind.wrap .i64 (k : Int) = k := wrap64 (by omega)
    simp only [Int.natCast_add, Int.natCast_one] at *
    simp [b326_1, h4, h0, h3, hB.lenV, hlt, ha, hr, ha', hr', agg_cs, c1, hf2, c3, wbOf, e9, wk]
    exact hg'
  · rintro e G h4 ⟨h0, g, h3, hg⟩
    have hB := h.pre hg.pr
    have hlt : ¬ (N : Int) < b.length := by omega
    have hfin := hg.fin flat_cs
    have e1 : N - 1 = b.length - 1 := by omega
    rw [e1] at hfin
    have hlt' : ¬ N < b.length := by omega
    simp [b326_1, h4, h0, h3, hB.lenV, hlt', hfin]
theorem call94 {pu : Bool} {H : Heap} {x : Value} {b : List (List Int)} (h : Bk H x b) (hV : ∀ f ∈ b, VF f) (hn : b.length ≤ 40) :
    Call tab pu 94 [x] H = some (tup [slc H.length 0 0 (b.length - 1) (b.length - 1), .int .i64 0], H ++ [⟨cs .i64 (jmL b (b.length - 1)), 1, 0, false⟩]) := by
  have hw : BkW b := fun f hf => (hV f hf).W
  refine Call_wp t94 (.inr rfl) rfl ?_
  have c1 := call316 (pu := true) h hw (by omega)
  rw [okB_V hV hn] at c1
  have c2 := call326 (pu := true) h hV (by omega)
  have g : Gr H (H ++ [⟨cs .i64 (jmL b (b.length - 1)), 1, 0, false⟩]) (slc H.length 0 0 (b.length - 1) (b.length - 1)) 1 (b.length - 1) (cs .i64 (jmL b (b.length - 1))) := ⟨_, _, rfl, get_last, Nat.le_refl _, by simp [jmL_len], Pre.one⟩
  have hfin := g.fin2 flat_cs (c := 0)
  simp [c94, k94, c1, c2, hfin]
theorem call88 {pu : Bool} {H : Heap} {x : Value} {b : List (List Int)} (h : Bk H x b) (hV : ∀ f ∈ b, VF f) (hn : b.length ≤ 40) : Call tab pu 88 [x] H = some (tup [slc H.length 0 0 (dsL b b.length).1.length (dsL b b.length).1.length, slc (H.length + 1) 0 0 b.length b.length, .int .i64 0], dsH H b) := by
  have hw : BkW b := fun f hf => (hV f hf).W
  refine Call_wp t88 (.inr rfl) rfl ?_
  have c1 := call318 (pu := true) h hw (by omega)
  rw [okB_V hV hn] at c1
  have c2 := call319 (pu := true) h hV (by omega)
  have I := dsL_I (b := b) (k := b.length)
  have pp : Pre H (dsH H b) := ⟨_, rfl⟩
  have VD := dsL_V hV (k := b.length) (Nat.le_refl _)
  have g1 : GrB H (dsH H b) H.length (slc H.length 0 0 (dsL b b.length).1.length (dsL b b.length).1.length) 12 (dsL b b.length).1.length (bkC (dsL b b.length).1) := ⟨0, rfl, by simp [dsH], Nat.le_refl _, vl_size VD, pp⟩
  have g2 : GrB H (dsH H b) (H.length + 1) (slc (H.length + 1) 0 0 b.length b.length) 1 b.length (cs .i64 (dsL b b.length).2) := ⟨0, rfl, by simp [dsH], by omega, by simp [I.l2], pp⟩
  have hfin := fin_two g1 g2 (by omega) bkC_flat flat_cs (c := 0)
  simp [c88, k88, c1, c2, dsV, hfin]
  rfl
theorem call495 {G : Heap} {P k : Nat} (h : Src G P k) (hk : k ≤ 100000000) :
    ∃ f g G', Call tab false 495 [adr P 0 0] G = some (iv .u16 (f ++ mixF orI f g), G') ∧ VF f ∧ VF g ∧ Mv P G G' ∧ Src G' P (k + 500) := by
  have key : ∃ r, Call tab false 495 [adr P 0 0] G = some r ∧ ∃ f g G', r = (iv .u16 (f ++ mixF orI f g), G') ∧ VF f ∧ VF g ∧ Mv P G G' ∧ Src G' P (k + 500) := by
    refine Call_ex t495 (.inl rfl) rfl ?_
    have hl := h.lt
    obtain ⟨f, G1, c1, Vf, m1, s1⟩ := call368 h (by omega)
    have l1 := m1.len
    have hlf := Vf.W.len
    obtain ⟨G2, hG2⟩ : ∃ G2, G2 = G1 ++ [(⟨cs .u16 (zr 12 0), 1, 0, false⟩ : Blk)] := ⟨_, rfl⟩
    obtain ⟨G3, hG3⟩ : ∃ G3, G3 = G1 ++ [(⟨cs .u16 f, 1, 0, false⟩ : Blk)] := ⟨_, rfl⟩
    have w3 : wr G.length true G2 G1.length 0 0 (cs .u16 f) = some G3 := by
      rw [hG2, hG3]
      exact wr_last (b := ⟨cs .u16 (zr 12 0), 1, 0, false⟩) rfl rfl (by omega) (by simp [hlf])
    have p3 : Pre G1 G3 := by rw [hG3]; exact Pre.one
    have l3 : G3.length = G1.length + 1 := by rw [hG3]; simp
    obtain ⟨g, G4, c4, Vg, m4, s4⟩ := call368 (s1.pre p3) (by omega)
    have hlg := Vg.W.len
    have l4 : G4.length = G1.length + 1 := by rw [m4.len, l3]
    obtain ⟨G5, hG5⟩ : ∃ G5, G5 = G4 ++ [(⟨cs .u16 (zr 12 0), 1, 0, false⟩ : Blk)] := ⟨_, rfl⟩
    obtain ⟨G6, hG6⟩ : ∃ G6, G6 = G4 ++ [(⟨cs .u16 g, 1, 0, false⟩ : Blk)] := ⟨_, rfl⟩
    have w6 : wr G.length true G5 G4.length 0 0 (cs .u16 g) = some G6 := by
      rw [hG5, hG6]
      exact wr_last (b := ⟨cs .u16 (zr 12 0), 1, 0, false⟩) rfl rfl (by omega) (by simp [hlg])
    rw [l4] at w6
    have p6 : Pre G4 G6 := by rw [hG6]; exact Pre.one
    obtain ⟨d, G7, c7, m7, s7⟩ := call513 (n := 3) (s4.pre p6) (by omega) (by omega)
    have b1 : G7[G1.length]? = some ⟨cs .u16 f, 1, 0, false⟩ := by rw [m7.get _ (by omega), p6.get (by omega), m4.get _ (by omega), hG3]; exact get_last
    have b2 : G7[G1.length + 1]? = some ⟨cs .u16 g, 1, 0, false⟩ := by rw [m7.get _ (by omega), ← l4, hG6]; exact get_last
    have rr : ∀ {K : Heap} {q : Nat} {u : List Int}, K[q]? = some ⟨cs .u16 u, 1, 0, false⟩ → u.length = 12 → rd K q 0 0 12 = some (cs .u16 u) := fun hb hu => by rw [rd_at hb rfl (by simp [hu])]; simp [take_all, hu]
    have rf := rr b1 hlf
    have c8 := call453 (pu := true) Vf rf
    have vG := (growF_V (f := f))
    have hlG := vG.W.len
    have hG7 : ∀ j, j < G.length → j ≠ P → G7[j]? = G[j]? := fun j hj hp => by
      rw [m7.get _ hp, p6.get (by omega), m4.get _ hp, p3.get (by omega), m1.get _ hp]
    have l7 : G7.length = G1.length + 2 := by rw [m7.len, hG6]; simp [l4]
    have t7 : Mv P G (G7.take G.length) := ⟨by simp [l7, l1], fun j hj => by
      rw [List.getElem?_take]
      split
      · exact hG7 j ‹_› hj
      · exact (List.getElem?_eq_none (by omega)).symm⟩
    have hz : (zr 12 0).length = 12 := by simp
    cases d with
    | false =>
      have c9 := call337 (pu := true) hlf hlg rf (rr b2 hlg)
      have s3 := stc_zr (k := .u16) (n := 24) (l := f ++ mixF orI f g) (by simp [hlf, mixF_length])
      have ff := fill24 hlf (mixF_length (op := orI) (a := f) (b := g))
      simp [c495, k495, c1, wbOf, zs_cs, ← hG2, hlf, w3, c4, ← hG5, hlg, w6, c7, c9, rf, agg_cs, ff, s3, mixF_length, l4]
      exact ⟨_, _, ⟨rfl, rfl⟩, f, g, _, ⟨rfl, rfl⟩, Vf, Vg, t7, (s7.take hl).le (by omega)⟩
    | true =>
      obtain ⟨G8, hG8⟩ : ∃ G8, G8 = G7.set (G1.length + 1) ⟨cs .u16 (growF f), 1, 0, false⟩ := ⟨_, rfl⟩
      have w8 : wr G.length true G7 (G1.length + 1) 0 0 (cs .u16 (growF f)) = some G8 := by
        rw [wr_at b2 rfl rfl (by simp [may]) (by simp [hlg, hlG]), hG8]
        congr 2
        simp [splice, hlg, hlG]
      have b3 : G8[G1.length]? = some ⟨cs .u16 f, 1, 0, false⟩ := by rw [hG8, List.getElem?_set_ne (by omega)]; exact b1
      have b4 : G8[G1.length + 1]? = some ⟨cs .u16 (growF f), 1, 0, false⟩ := by rw [hG8]; exact get_set b2
      have rf8 := rr b3 hlf
      have c9 := call337 (pu := true) hlf hlG rf8 (rr b4 hlG)
      have s3 := stc_zr (k := .u16) (n := 24) (l := f ++ mixF orI f (growF f)) (by simp [hlf, mixF_length])
      have ff := fill24 hlf (mixF_length (op := orI) (a := f) (b := growF f))
      have t8 : G8.take G.length = G7.take G.length := by rw [hG8]; exact Mv.set.take (by omega)
      simp [c495, k495, c1, wbOf, zs_cs, ← hG2, hlf, w3, c4, ← hG5, hlg, w6, c7, rf, c8, hlG, w8, c9, rf8, agg_cs, ff, s3, mixF_length, l4]
      refine ⟨_, _, ⟨rfl, rfl⟩, f, growF f, _, ⟨rfl, rfl⟩, Vf, vG, by rw [t8]; exact t7, ?_⟩
      rw [t8]; exact (s7.take hl).le (by omega)
  obtain ⟨r, hc, f, g, G', rfl, h⟩ := key
  exact ⟨f, g, G', hc, h⟩
theorem LoG.app {G G' L : Heap} {P k esz n : Nat} {x : Value} {vs : List Value} (h : LoG G G' P k x esz n vs) : LoG G (G' ++ L) P k x esz n vs := by
  have hl := h.lt
  have hlen := h.len
  have g : ∀ j, j < G'.length → (G' ++ L)[j]? = G'[j]? := fun j hj => List.getElem?_append_left hj
  exact ⟨h.src.pre ⟨L, rfl⟩, by obtain ⟨ver, e, q⟩ := h.ls; exact ⟨ver, e, by rw [g _ (by omega)]; exact q⟩, h.size, by simp; omega, fun j hj hp => by rw [g _ (by omega)]; exact h.get j hj hp, hl⟩
/-- A drawn layer. -/
structure DLy (s : Ly) : Prop where
  W : LyW s
  ok : okLy s = true
  bx : -3 ≤ s.x ∧ s.x ≤ 3
  bz : -3 ≤ s.y ∧ s.y ≤ 3
  bd : 0 ≤ s.d ∧ s.d ≤ 8
theorem DLy.of {f g : List Int} {x y d : Int} (hf : VF f) (hg : VF g) (hx : -3 ≤ x ∧ x ≤ 3) (hy : -3 ≤ y ∧ y ≤ 3) (hd : 0 ≤ d ∧ d ≤ 8) : DLy ⟨f ++ mixF orI f g, x, y, d⟩ := by
  have V := or_V hf hg
  have e1 : inkL ⟨f ++ mixF orI f g, x, y, d⟩ = f := (join_sub hf.W.len V.W.len).1
  have e2 : mskL ⟨f ++ mixF orI f g, x, y, d⟩ = mixF orI f g := (join_sub hf.W.len V.W.len).2
  refine ⟨⟨by simp [hf.W.len, V.W.len], fun n hn => ?_, ⟨by simp only []; omega, by simp only []; omega⟩, ⟨by simp only []; omega, by simp only []; omega⟩, ⟨by simp only []; omega, by simp only []; omega⟩⟩, ?_, hx, hy, hd⟩
  · rcases List.mem_append.1 hn with h | h
    · exact hf.W.ok n h
    · exact V.W.ok n h
  · unfold okLy okCel
    rw [e1, e2, hf.ok, V.ok, less_none hf V fun u v hu hv h => by rw [mix_or hf hg hu hv, h]; rfl]
    simp [in1]; omega
theorem call328 {G : Heap} {P k : Nat} (h : Src G P k) (hk : k ≤ 10000000) :
    ∃ l G1, Call tab false 328 [adr P 0 0] G = some (slc G.length 0 0 l.length l.length, G1 ++ [⟨scC l, 27, 0, false⟩]) ∧ (∀ s ∈ l, DLy s) ∧ l.length ≤ 4 ∧ Mv P G G1 ∧ Src G1 P (k + 4000) := by
  have key : ∃ r, Call tab false 328 [adr P 0 0] G = some r ∧ ∃ l G1, r = (slc G.length 0 0 l.length l.length, G1 ++ [⟨scC l, 27, 0, false⟩]) ∧ (∀ s ∈ l, DLy s) ∧ l.length ≤ 4 ∧ Mv P G G1 ∧ Src G1 P (k + 4000) := by
    refine Call_ex t328 (.inl rfl) rfl ?_
    obtain ⟨G1, hG1⟩ : ∃ G1, G1 = G ++ [(⟨[], 27, 0, false⟩ : Blk)] := ⟨_, rfl⟩
    have L1 : LoG G G1 P k (slc G.length 0 0 0 0) 27 0 (scC []) := by rw [hG1]; exact LoG.new h
    obtain ⟨N, G2, c2, hN, L2⟩ := L1.pick (n := 5) (by omega) (by omega)
    obtain ⟨N, rfl⟩ := Int.eq_ofNat_of_zero_le hN.1
    have hf0 : fill (rep 0 lyZ) [] = some [] := rfl
    simp [c328, k328, z27, hf0, ← hG1, c2, wbOf]
    refine WK_loop (fun i e G' => e 0 = adr P 0 0 ∧ e 4 = .int .i64 ((N - i : Nat) : Int) ∧ ∃ l, l.length = i ∧ LoG G G' P (k + 2 + i * 600) (e 3) 27 i (scC l) ∧ ∀ s ∈ l, DLy s) N ?_ (Nat.zero_le _)
      ⟨by simp, by simp, [], rfl, by simp; exact L2, fun s hs => by cases hs⟩
    rintro i e G' _ hi ⟨h0, h4, l, hl, Lo, hD⟩
    obtain ⟨x, h3⟩ : ∃ x, e 3 = x := ⟨_, rfl⟩
    rw [h3] at Lo
    by_cases hiN : i = N
    · subst hiN
      rw [Nat.sub_self] at h4
      obtain ⟨d1, d2, d3⟩ := Lo.done scC_flat
      simp [b328_1, h0, h4, h3, d1]
      exact ⟨l, _, ⟨by rw [hl], rfl, rfl⟩, hD, by omega, d2, d3.le (by omega)⟩
    · have hpos : 0 < N - i := by omega
      have hiN' : i < N := by omega
      have e7 : IntKind.wrap .i64 (((N - i : Nat) : Int) - 1) = ((N - (i + 1) : Nat) : Int) := by rw [wrap64 (by omega)]; omega
      obtain ⟨f, g, G4, c4, Vf, Vg, m4, s4⟩ := call495 Lo.src (by omega)
      have L4 := Lo.mv m4 s4
      obtain ⟨a, G5, c5, ha, L5⟩ := L4.pick (n := 7) (by omega) (by omega)
      obtain ⟨b, G6, c6, hb, L6⟩ := L5.pick (n := 7) (by omega) (by omega)
      obtain ⟨G7, hG7⟩ : ∃ G7, G7 = G6 ++ [(⟨cs .i64 [0, 2, 3, 4, 8], 1, 0, false⟩ : Blk)] := ⟨_, rfl⟩
      have L7 : LoG G G7 P (k + 2 + i * 600 + 500 + 2 + 2) x 27 i (scC l) := by rw [hG7]; exact L6.app
      have hlt6 := L6.src.lt
      have hfl : fill (rep 5 [.int .i64 0]) [(0, 1, .int .i64 0), (1, 1, .int .i64 2), (2, 1, .int .i64 3), (3, 1, .int .i64 4), (4, 1, .int .i64 8)] = some (cs .i64 [0, 2, 3, 4, 8]) := rfl
      obtain ⟨d, G8, c8, hd, m8, s8⟩ := call496 (q := G6.length) (l := [0, 2, 3, 4, 8]) L7.src (by omega) (by omega) (by rw [hG7]; exact get_last) (by simp) (by simp)
      have L8 := L7.mv m8 s8
      have c8 : Call tab false 496 [adr P 0 0, slc G6.length 0 0 5 5] G7 = some (.int .i64 d, G8) := c8
      have hd' : 0 ≤ d ∧ d ≤ 8 := by simp at hd; omega
      have w1 : IntKind.wrap .i64 (a - 3) = a - 3 := wrap64 (by omega)
      have w2 : IntKind.wrap .i8 (a - 3) = a - 3 := wrap8 (by omega)
      have w3 : IntKind.wrap .i64 (b - 3) = b - 3 := wrap64 (by omega)
      have w4 : IntKind.wrap .i8 (b - 3) = b - 3 := wrap8 (by omega)
      have w5 : IntKind.wrap .i8 d = d := wrap8 (by omega)
      obtain ⟨F, hF⟩ : ∃ F, F = f ++ mixF orI f g := ⟨_, rfl⟩
      have D := DLy.of (x := a - 3) (y := b - 3) (d := d) Vf Vg (by omega) (by omega) hd'
      rw [← hF] at c4 D
      have hlF : F.length = 24 := D.W.len
      have hz : (zr 24 0).length = 24 := rfl
      have fl : fill lyZ [(0, 24, iv .u16 F), (24, 1, .int .i8 (a - 3))] = some (lyT F (.int .i8 (a - 3)) (.int .i8 0) (.int .i8 0)) := by
        have q1 : splice lyZ 0 (cs .u16 F) = lyT F (.int .i8 0) (.int .i8 0) (.int .i8 0) := by
          unfold splice lyZ lyT
          rw [List.take_zero, List.nil_append, Nat.zero_add, show (cs .u16 F).length = (cs .u16 (zr 24 0)).length by simp [hlF], List.drop_left]
        have q2 : splice (lyT F (.int .i8 0) (.int .i8 0) (.int .i8 0)) 24 [.int .i8 (a - 3)] = lyT F (.int .i8 (a - 3)) (.int .i8 0) (.int .i8 0) := by
          unfold splice
          rw [show 24 + [Value.int .i8 (a - 3)].length = 24 + 1 from rfl, lyT_at hlF]
          unfold lyT
          rw [List.take_left' (by simp [hlF])]; simp
        show (if (cellsOf (iv .u16 F)).length = 24 ∧ 0 + 24 ≤ lyZ.length then fill (splice lyZ 0 (cellsOf (iv .u16 F))) [(24, 1, .int .i8 (a - 3))] else none) = _
        rw [if_pos ⟨by simp [hlF], by decide⟩, show cellsOf (iv .u16 F) = cs .u16 F from rfl, q1]
        show (if (cellsOf (Value.int .i8 (a - 3))).length = 1 ∧ 24 + 1 ≤ (lyT F (.int .i8 0) (.int .i8 0) (.int .i8 0)).length then fill (splice (lyT F (.int .i8 0) (.int .i8 0) (.int .i8 0)) 24 [.int .i8 (a - 3)]) [] else none) = _
        rw [if_pos ⟨rfl, by rw [lyT_len hlF]; omega⟩, q2]; rfl
      have st0 := stLall (a := .int .i8 0) (b := .int .i8 0) (c := .int .i8 0) (a' := .int .i8 (a - 3)) (b' := .int .i8 0) (c' := .int .i8 0) hz hlF
      have st1 := stLy (a := .int .i8 (a - 3)) (b := .int .i8 0) (c := .int .i8 0) (v := .int .i8 (b - 3)) hlF
      have st2 := stLd (a := .int .i8 (a - 3)) (b := .int .i8 (b - 3)) (c := .int .i8 0) (v := .int .i8 d) hlF
      obtain ⟨x', G9, c9, L9⟩ := L8.push (c := lyC ⟨F, a - 3, b - 3, d⟩) (bytes := 52) (lyC_len D.W) (room52 (by omega))
      rw [scC_push] at L9
      have f27 := fill27 D.W
      simp only [lyC] at c9 f27
      simp only [lyZ] at st0 f27 fl
      have l8 : G8.length = G6.length + 1 := by rw [m8.len, hG7]; simp
      simp [b328_1, h0, h4, h3, hpos, z27, lyZ, c4, wbOf, c5, w1, w2, fl, st0, lyT_len hz, lyT_len hlF, c6, w3, w4, st1, hfl, ← hG7, c8, w5, st2, ldLall hlF, f27, c9, e7]
      refine ⟨hiN', _, by simp [hl], L9.le (by omega), fun s hs => ?_⟩
      rcases List.mem_append.1 hs with h1 | h1
      · exact hD s h1
      · rw [List.mem_singleton.1 h1]; exact D
  obtain ⟨r, hc, l, G1, rfl, h⟩ := key
  exact ⟨l, G1, hc, h⟩
theorem call96 {pu : Bool} {H : Heap} {x : Value} {bs : List Int} (hx : By H x bs) (hn : bs.length ≤ 1000000) :
    ∃ l, Call tab pu 96 [x] H = some (slc H.length 0 0 l.length l.length, H ++ [⟨scC l, 27, 0, false⟩]) ∧ (∀ s ∈ l, DLy s) ∧ l.length ≤ 4 := by
  obtain ⟨c1, s1⟩ := call315 (pu := true) hx.s hx.b hn
  obtain ⟨l, G2, c2, D, hl, m2, s2⟩ := call328 s1 (by omega)
  obtain ⟨H1, hH1⟩ : ∃ H1, H1 = H ++ [srB x 0 0] := ⟨_, rfl⟩
  rw [← hH1] at c1 c2 s1 m2
  have p1 : Pre H H1 := by rw [hH1]; exact Pre.one
  have l1 : H1.length = H.length + 1 := by rw [hH1]; simp
  have l2 : G2.length = H.length + 1 := by rw [m2.len, l1]
  have t2 : G2.take H.length = H := by rw [m2.take (Nat.le_refl _), p1.take]
  obtain ⟨G3, hG3⟩ : ∃ G3, G3 = G2 ++ [(⟨scC l, 27, 0, false⟩ : Blk)] := ⟨_, rfl⟩
  have t3 : G3.take H.length = H := by rw [hG3, List.take_append_of_le_length (by omega), t2]
  rw [← hG3] at c2
  have x2 : elder H.length false H1 (slc H1.length 0 0 l.length l.length, G3) = some (slc H1.length 0 0 l.length l.length, G3) := elder_same (by rw [t3, p1.take])
  have hfin : finish H.length G3 [slc H1.length 0 0 l.length l.length] = (slc H.length 0 0 l.length l.length, H ++ [⟨scC l, 27, 0, false⟩]) := by
    rw [finish_slc' (H := H) (G := G3) (b := H1.length) (k := ⟨scC l, 27, 0, false⟩) (by omega) (by rw [hG3, l1, ← l2]; exact get_last) rfl rfl scC_flat.all, t3]
  refine ⟨l, Call_wp t96 (.inr rfl) rfl ?_, D, hl⟩
  simp [c96, k96, c1, c2, x2, wbOf, hfin]
theorem shL_short {P : List Int} {k : Nat} (hk : k ≤ 24) : ∃ s, shL P k = some s ∧ ∀ i, i < s.length → (mv s i).2 ≤ k := by
  induction k with
  | zero => exact ⟨[], rfl, fun i hi => by simp at hi⟩
  | succ k ih =>
    obtain ⟨s, h1, h2⟩ := ih (by omega)
    have e : shL P (k + 1) = shS P k s := by rw [shL, h1]; rfl
    rw [e]
    unfold shS
    split
    · rename_i hc
      by_cases h0 : s.length = 0
      · have : s = [] := List.length_eq_zero_iff.1 h0
        subst this
        exact ⟨_, rfl, fun i hi => by
          have : i = 0 := by simpa using hi
          subst this
          show ((default : Int × Int).2 + 1 : Int) ≤ _
          have : (default : Int × Int).2 = 0 := rfl
          omega⟩
      · have hl := h2 (s.length - 1) (by omega)
        rw [if_neg (by omega)]
        refine ⟨_, rfl, fun i hi => ?_⟩
        have hdl : s.dropLast.length = s.length - 1 := List.length_dropLast
        have hi : i < s.length - 1 + 1 := by simpa [hdl] using hi
        rw [mv_app, hdl]
        by_cases hi2 : i < s.length - 1
        · rw [if_pos hi2]
          have e2 : mv s.dropLast i = mv s i := by
            unfold mv at0
            rw [List.getD_eq_getElem?_getD, List.getD_eq_getElem?_getD, List.getElem?_dropLast, if_pos hi2]
          rw [e2]
          have := h2 i (by omega)
          omega
        · rw [if_neg hi2, if_pos (by omega)]
          simp only []
          omega
    · refine ⟨_, rfl, fun i hi => ?_⟩
      have hi : i < s.length + 1 := by simpa using hi
      rw [mv_app]
      by_cases hi2 : i < s.length
      · rw [if_pos hi2]; have := h2 i hi2; omega
      · rw [if_neg hi2, if_pos (by omega)]; simp only []; omega
theorem difF_sym {f g : List Int} (hf : VF f) (hg : VF g) : difF f g = difF g f := by
  unfold difF
  congr 1
  refine (xor_V' hf hg).ext (xor_V' hg hf) fun x y hx hy => ?_
  rw [mix_xor hf hg hx hy, mix_xor hg hf hx hy, Bool.xor_comm]
def Q10 (n0 : Nat) (H : Heap) : Ex → Env → Heap → Prop := fun x e' H' => (∀ i, x ≠ .exit i) ∧ (resVs e' H' [.t 4]).map (finish n0 H') = some (.bool true, H)
def U23 : Cd := tailC 23 k10
theorem c10_23 {H G : Heap} {e : Env} {M S : List Int} (hP : Pre H G) (hM : M.length = 24) (hS : S.length = 12)
    (rows : ∀ i, i < 12 → bitsOf .andNot .u16 (nth M i) (nth S i) = 0 ∧ bitsOf .and .u16 (nth S i) (nth M (12 + i)) = nth M i)
    (h40 : e 40 = iv .u16 M) (h31 : e 31 = iv .u16 S) : WK tab H.length false U23 [] e G (Q10 H.length H) := by
  simp [U23, tailC, k10]
  refine WP_forH 42 12 12 rfl (by omega) (fun i e => e 40 = iv .u16 M ∧ e 31 = iv .u16 S) ?_ ?_ (by simp) ⟨by simp [h40], by simp [h31]⟩
  · rintro i e hi hii e9 h42 ⟨h40, h31⟩
    obtain ⟨r1, r2⟩ := rows i hi
    have l1 : ldc 1 false (iv .u16 M) i = some (.int .u16 (nth M i)) := ldc_iv1 (by omega)
    have l2 : ldc 1 false (iv .u16 M) (12 + i) = some (.int .u16 (nth M (12 + i))) := ldc_iv1 (by omega)
    have l3 : ldc 1 false (iv .u16 S) i = some (.int .u16 (nth S i)) := ldc_iv1 (by omega)
    simp [b10_2, h42, hii, h40, h31, hi, l1, l2, l3, r1, r2, e9]
  · rintro e h42 ⟨h40, h31⟩
    simp [b10_2, h42, Q10, hP.take]
theorem okSc_D {l : List Ly} (hD : ∀ s ∈ l, DLy s) (hn : l.length ≤ 4) : okSc l = true := by
  unfold okSc
  rw [allN_true fun i hi => (hD _ (at0_mem hi)).ok]
  simp; omega
theorem c10_13 {H G : Heap} {e : Env} {y : Value} {bs : List Int} (hP : Pre H G) (hy : By G y bs) (hn : bs.length ≤ 1000000) (h1 : e 1 = y) :
    WK tab H.length false (tailC 13 k10) [] e G (Q10 H.length H) := by
  obtain ⟨l, c0, hD, hl4⟩ := call96 (pu := true) hy hn
  obtain ⟨G1, hG1⟩ : ∃ G1, G1 = G ++ [(⟨scC l, 27, 0, false⟩ : Blk)] := ⟨_, rfl⟩
  rw [← hG1] at c0
  have p1 : Pre G G1 := by rw [hG1]; exact Pre.one
  have hw : ScW l := fun s hs => (hD s hs).W
  obtain ⟨z, hz⟩ : ∃ z, z = slc G.length 0 0 l.length l.length := ⟨_, rfl⟩
  rw [← hz] at c0
  have hs : Sc G1 z l := by rw [hG1, hz]; exact (own_new (H := G) (esz := 27) (n := l.length) (vs := scC l) (scC_length hw)).sl
  have hok := okSc_D hD hl4
  have hc : cmC l 3 (-2) = 0 := by unfold cmC; rw [if_pos hok]; rfl
  have c1 := call97 (pu := true) (x := 3) (y := -2) hw hs
  have c2 := call98 (pu := true) (x := 3) (y := -2) hw (by omega) hs
  have c3 := call99 (pu := true) (x := 3) (y := -2) hw hs
  have sl : (shwF l 3 (-2)).length = 12 := by unfold shwF; split <;> simp [flI_len]
  have fl : (flatF l 3 (-2)).length = 24 := by unfold flatF; split <;> simp [flI_len, cvr_len]
  have s1 := stc_zr (k := .u16) (n := 12) (l := shwF l 3 (-2)) sl
  have s2 := stc_zr (k := .u16) (n := 24) (l := flatF l 3 (-2)) fl
  have q1 := eqV_iv (k := .u16) sl sl
  rw [decide_eq_true rfl] at q1
  have hl := SlR.lenV hs
  have eS : shwF l 3 (-2) = flI l 3 (-2) l.length := by unfold shwF; rw [if_pos hc]
  have eF : flatF l 3 (-2) = (flatY l 3 (-2)).f := by unfold flatF; rw [if_pos hc]; rfl
  have c4 := call100 (pu := true) (H := G1) (flatY_W (l := l) (x := 3) (y := -2))
  rw [flatY_ok hw hok, if_pos rfl, if_pos rfl, flatY_ink, ← eS, ← eF] at c4
  by_cases h0 : l.length = 0
  · have : shwF l 3 (-2) = zr 12 0 := by rw [eS, h0, flI_zero]
    have hl0 : lenV z = some (.int .i64 0) := by rw [hl, h0]; rfl
    have q0 := eqV_iv (k := .u16) (n := 12) (f := zr 12 0) (g := zr 12 0) (by simp) (by simp)
    rw [decide_eq_true rfl] at q0
    rw [this] at c1 c2 c4 s1
    simp [tailC, k10, h1, c0, c1, c2, c3, c4, zs_cs, agg_cs, fl, s1, s2, hc, q0, hl0, fill0, (hP.trans p1).take, Q10]
  · have h0 : 0 < l.length := by omega
    have hl0 : ((l.length : Int) == 0) = false := by rw [beq_eq_false_iff_ne]; omega
    have c5 := call101 (pu := true) (x := 3) (y := -2) hw hs hc h0
    have hw0 := hw _ (at0_mem h0)
    have hk0 := okSc_get hok h0
    have D0 := hD _ (at0_mem h0)
    obtain ⟨q, off, ver, ha, hr, _⟩ := Sc.get hs hw h0
    have ha' : idxAV 27 z (.int .i64 0) = some (adr q off ver) := ha
    have r24 : rd G1 q off ver 24 = some (cs .u16 (at0 l 0).f) := by
      have := rd_part hr (o := 0) (m := 24) (by omega)
      rw [Nat.add_zero, List.drop_zero] at this
      rw [this, lyC, lyT, List.take_left' (by simp [hw0.len])]
    have c6 := call102 (pu := true) (H := G1) (x := 3) (y := -2) hw0 hk0 (by omega) (by omega)
    have ml : (mvC24 (at0 l 0) (offX (at0 l 0) 3) (offY (at0 l 0) (-2))).length = 24 := by unfold mvC24; split <;> simp [shF_length]
    have s3 := stc_zr (k := .u16) (n := 24) ml
    have al := hw0.len
    have hin : (in1 (offX (at0 l 0) 3) (-12) 12 && in1 (offY (at0 l 0) (-2)) (-12) 12) = true := by
      have b1 := D0.bx
      have b2 := D0.bz
      have b3 := D0.bd
      unfold offX offY in1
      simp only [Bool.and_eq_true, decide_eq_true_eq]
      omega
    have hm : mvCc (offX (at0 l 0) 3) (offY (at0 l 0) (-2)) = 0 := by unfold mvCc; rw [if_pos hin]
    have eM : mvC24 (at0 l 0) (offX (at0 l 0) 3) (offY (at0 l 0) (-2)) = lyI (at0 l 0) 3 (-2) ++ lyM (at0 l 0) 3 (-2) := by unfold mvC24; rw [if_pos hin]; rfl
    rw [hm] at c6
    have rows : ∀ i, i < 12 → bitsOf .andNot .u16 (nth (mvC24 (at0 l 0) (offX (at0 l 0) 3) (offY (at0 l 0) (-2))) i) (nth (shwF l 3 (-2)) i) = 0 ∧ bitsOf .and .u16 (nth (shwF l 3 (-2)) i) (nth (mvC24 (at0 l 0) (offX (at0 l 0) 3) (offY (at0 l 0) (-2))) (12 + i)) = nth (mvC24 (at0 l 0) (offX (at0 l 0) 3) (offY (at0 l 0) (-2))) i := fun i hi => by
      have e1 : nth (lyI (at0 l 0) 3 (-2) ++ lyM (at0 l 0) 3 (-2)) i = nth (lyI (at0 l 0) 3 (-2)) i := by
        unfold nth
        rw [List.getD_eq_getElem?_getD, List.getD_eq_getElem?_getD, List.getElem?_append_left (by rw [lyI_W.len]; exact hi)]
      have e2 : nth (lyI (at0 l 0) 3 (-2) ++ lyM (at0 l 0) 3 (-2)) (12 + i) = nth (lyM (at0 l 0) 3 (-2)) i := by
        unfold nth
        rw [List.getD_eq_getElem?_getD, List.getD_eq_getElem?_getD, List.getElem?_append_right (by rw [lyI_W.len]; omega), lyI_W.len, show 12 + i - 12 = i by omega]
      rw [eM, eS, e1, e2]
      exact top_rows hw hok h0 hi
    generalize mvC24 (at0 l 0) (offX (at0 l 0) 3) (offY (at0 l 0) (-2)) = M at *
    generalize shwF l 3 (-2) = S at *
    have e9 : tailC 13 k10 = headC 10 (tailC 13 k10) U23 := rfl
    rw [e9]
    simp [headC, tailC, k10, h1, c0, c1, c2, c3, c4, zs_cs, agg_cs, sl, fl, s1, s2, hc, q1, hl, hl0, c5, ha', r24, al, c6, ml, s3]
    exact c10_23 (hP.trans p1) ml sl rows (by simp) (by simp)
def U13 : Cd := tailC 13 k10
structure K10 (H G : Heap) (x y : Value) (b : List (List Int)) (bs : List Int) : Prop where
  pr : Pre H G
  bk : Bk G x b
  V : ∀ f ∈ b, VF f
  nb : b.length ≤ 7
  by' : By G y bs
  ny : bs.length ≤ 1000000
theorem c10_U13 {H G : Heap} {e : Env} {x y : Value} {b : List (List Int)} {bs : List Int} (h : K10 H G x y b bs) (h1 : e 1 = y) : WK tab H.length false U13 [] e G (Q10 H.length H) :=
  c10_13 h.pr h.by' h.ny h1
theorem c10_1 {H G : Heap} {e : Env} {x y j : Value} {b : List (List Int)} {bs : List Int} {few : Int} (h : K10 H G x y b bs) (hj : SlR G j 1 (b.length - 1) (cs .i64 (jmL b (b.length - 1))))
    (hb : ∀ i, i < b.length - 1 → few ≤ difF (fr b i) (fr b (i + 1))) (h1 : e 1 = y) (h5 : e 5 = x) (h21 : e 21 = .int .i64 few) (h23 : e 23 = j) (h25 : e 25 = .int .i64 0) :
    WK tab H.length false (.loop b10_1) [.blk 0, .seq U13] e G (Q10 H.length H) := by
  have hnb := h.nb
  have hw : BkW b := fun f hf => (h.V f hf).W
  refine WP_forH 25 (b.length - 1) _ rfl (by omega) (fun i e => e 1 = y ∧ e 5 = x ∧ e 21 = .int .i64 few ∧ e 23 = j) ?_ ?_ h25 ⟨h1, h5, h21, h23⟩
  · rintro i e hi hii e9 h25 ⟨h1, h5, h21, h23⟩
    obtain ⟨q, off, ver, ha, hr⟩ := Bk.get h.bk hw (i := i) (by omega)
    obtain ⟨q', off', ver', ha', hr'⟩ := Bk.get h.bk hw (i := i + 1) (by omega)
    obtain ⟨q2, off2, ver2, ha2, hr2⟩ := hj.get1 hi
    rw [elem_i (by rw [jmL_len]; exact hi), jmL_nth hi] at hr2
    have V1 : VF (fr b i) := h.V _ (at0_mem (by omega))
    have V2 : VF (fr b (i + 1)) := h.V _ (at0_mem (by omega))
    have c1 := call95 (pu := true) (H := G) V1 V2
    have hlt : ¬ difF (fr b i) (fr b (i + 1)) < few := by have := hb i hi; omega
    have hii' : decide ((i : Int) < ((b.length - 1 : Nat) : Int)) = true := decide_eq_true hii
    simp only [Int.natCast_add, Int.natCast_one] at ha'
    simp [b10_1, h25, h1, h5, h21, h23, hj.lenV, hi, e9, ha, hr, ha', hr', agg_cs, c1, ha2, hr2, hlt]
  · rintro e h25 ⟨h1, h5, h21, h23⟩
    simp [b10_1, h25, h23, hj.lenV]
    exact c10_U13 h (by simp [h1])
theorem c10_8 {H G : Heap} {e : Env} {x y : Value} {b : List (List Int)} {bs : List Int} (h : K10 H G x y b bs) (h1 : e 1 = y) (h5 : e 5 = x) : WK tab H.length false (tailC 8 k10) [] e G (Q10 H.length H) := by
  have hnb := h.nb
  have hw : BkW b := fun f hf => (h.V f hf).W
  have c1 := call92 (pu := true) (least := 2) h.bk hw (by omega)
  have c2 := call93 (pu := true) (least := 2) h.bk hw (by omega)
  have c3 := call94 (pu := true) h.bk h.V (by omega)
  have hok := okB_V h.V (by omega)
  obtain ⟨G1, hG1⟩ : ∃ G1, G1 = G ++ [(⟨cs .i64 (jmL b (b.length - 1)), 1, 0, false⟩ : Blk)] := ⟨_, rfl⟩
  have p1 : Pre G G1 := by rw [hG1]; exact Pre.one
  rw [← hG1] at c3
  obtain ⟨j, hj⟩ : ∃ j, j = slc G.length 0 0 (b.length - 1) (b.length - 1) := ⟨_, rfl⟩
  rw [← hj] at c3
  have hs : SlR G1 j 1 (b.length - 1) (cs .i64 (jmL b (b.length - 1))) := by
    rw [hG1, hj]; exact (own_new (H := G) (esz := 1) (n := b.length - 1) (vs := cs .i64 (jmL b (b.length - 1))) (by simp [jmL_len])).sl
  have h' : K10 H G1 x y b bs := ⟨h.pr.trans p1, h.bk.pre p1, h.V, h.nb, h.by'.pre p1, h.ny⟩
  have w1 : IntKind.wrap .i64 ((b.length : Int) - 1) = (b.length : Int) - 1 := wrap64 (by omega)
  have hmx : (((b.length - 1 : Nat) : Int) != if (1 : Int) < (b.length : Int) then (b.length : Int) - 1 else 0) = false := by
    simp only [bne_eq_false_iff_eq]
    split <;> omega
  have e9 : tailC 8 k10 = headC 5 (tailC 8 k10) U13 := rfl
  rw [e9]
  by_cases hlt : b.length < 2
  · have e1 : lpR b 2 = tup [.int .i64 0, .int .i64 0, .int .i64 0, .int .i64 6] := by rw [lpR, if_pos hok, if_neg (by omega), if_pos (by omega)]
    rw [e1] at c1 c2
    simp [headC, tailC, k10, h5, c1, c2, c3, g4a, g4b, g4c, g4d, h.bk.lenV, hs.lenV, w1, hmx]
    exact c10_1 (few := 0) h' hs (fun i hi => by omega) (by simp [h1]) (by simp [h5]) (by simp) (by simp) (by simp)
  · obtain ⟨f, c, d, b1, b2, b3, b4, b5⟩ := best_loop (b := b) (least := 2) (by omega) (by omega)
    have e1 : lpR b 2 = tup [.int .i64 f, .int .i64 c, .int .i64 d, .int .i64 0] := by
      rw [lpR, if_pos hok, if_neg (by omega), if_neg (by omega), show (2 : Int).toNat = 2 from rfl, b1]
    rw [e1] at c1 c2
    have hb : ∀ i, i < b.length - 1 → d ≤ difF (fr b i) (fr b (i + 1)) := fun i hi => by
      have := (b5 2 i (by omega) (by omega)).1
      unfold lpD at this
      rw [show i + 2 - 1 = i + 1 by omega, difF_sym (f := fr b (i + 1)) (g := fr b i) (h.V _ (at0_mem (by omega))) (h.V _ (at0_mem (by omega)))] at this
      exact this
    simp [headC, tailC, k10, h5, c1, c2, c3, g4a, g4b, g4c, g4d, h.bk.lenV, hs.lenV, w1, hmx]
    exact c10_1 (few := d) h' hs hb (by simp [h1]) (by simp [h5]) (by simp) (by simp) (by simp)
theorem c10_2 {H G : Heap} {e : Env} {x y : Value} {b : List (List Int)} {bs : List Int} (h : K10 H G x y b bs) (h1 : e 1 = y) (h5 : e 5 = x) : WK tab H.length false (tailC 3 k10) [] e G (Q10 H.length H) := by
  have hnb := h.nb
  have hw : BkW b := fun f hf => (h.V f hf).W
  have I := dsL_I (b := b) (k := b.length)
  obtain ⟨s, hs, _⟩ := shL_short (P := (dsL b b.length).2) (k := b.length) (by omega)
  have J := shL_I hs (by rw [I.l2]; omega)
  have c1 := call86 (pu := true) h.bk h.V (by omega)
  rw [hs] at c1
  simp only [sh86] at c1
  obtain ⟨G1, hG1⟩ : ∃ G1, G1 = G ++ [(⟨mvsC s, 2, 0, false⟩ : Blk)] := ⟨_, rfl⟩
  rw [← hG1] at c1
  have p1 : Pre G G1 := by rw [hG1]; exact Pre.one
  have c2 := call87 (pu := true) (h.bk.pre p1) h.V (by omega)
  rw [hs] at c2
  simp only [sh87] at c2
  obtain ⟨G2, hG2⟩ : ∃ G2, G2 = G1 ++ [(⟨mvsC s, 2, 0, false⟩ : Blk)] := ⟨_, rfl⟩
  rw [← hG2] at c2
  have p2 : Pre G1 G2 := by rw [hG2]; exact Pre.one
  have s1 : SlR G1 (slc G.length 0 0 s.length s.length) 2 s.length (mvsC s) := by rw [hG1]; exact (own_new (H := G) (esz := 2) (n := s.length) (vs := mvsC s) mvsC_length).sl
  have s2 : SlR G2 (slc G1.length 0 0 s.length s.length) 2 s.length (mvsC s) := by rw [hG2]; exact (own_new (H := G1) (esz := 2) (n := s.length) (vs := mvsC s) mvsC_length).sl
  have hsl := J.len
  have p12 := p1.trans p2
  have c4 := call88 (pu := true) (h.bk.pre p12) h.V (by omega)
  obtain ⟨G3, hG3⟩ : ∃ G3, G3 = dsH G2 b := ⟨_, rfl⟩
  have p3 : Pre G2 G3 := by rw [hG3]; exact ⟨_, rfl⟩
  rw [← hG3] at c4
  have VD := dsL_V h.V (k := b.length) (Nat.le_refl _)
  have bkD : Bk G3 (slc G2.length 0 0 (dsL b b.length).1.length (dsL b b.length).1.length) (dsL b b.length).1 := bk_of (by rw [hG3]; simp [dsH]) VD rfl (Nat.le_refl _)
  have hk2 : okShs s (dsL b b.length).1.length := by
    refine ⟨by omega, fun i hi => ?_⟩
    obtain ⟨j, j1, j2⟩ := J.val i hi
    obtain ⟨q, q1, q2, _⟩ := I.at' j j1
    have := J.hold i hi
    rw [j2, q1]
    omega
  have hT : tckL s s.length = (dsL b b.length).2 := by rw [J.tck]; exact List.take_of_length_le (by rw [I.l2]; exact Nat.le_refl _)
  have c5 := call89 (pu := true) bkD VD (by have := I.l1; omega) (SlR.pre p3 s2) hk2 (by rw [hT, I.l2]; omega)
  rw [hT, plB_ds, I.l2] at c5
  obtain ⟨G4, hG4⟩ : ∃ G4, G4 = G3 ++ [(⟨bkC b, 12, 0, false⟩ : Blk)] := ⟨_, rfl⟩
  have p4 : Pre G3 G4 := by rw [hG4]; exact Pre.one
  rw [← hG4] at c5
  have p34 := p3.trans p4
  have c3 := call90 (pu := true) (SlR.pre (p2.trans p34) s1) (SlR.pre p34 s2) (by omega)
  have bkP : Bk G4 (slc G3.length 0 0 b.length b.length) b := bk_of (by rw [hG4]; exact get_last) h.V rfl (Nat.le_refl _)
  have P4 := p12.trans p34
  have c6 := call91 (pu := true) bkP (h.bk.pre P4) (by omega) hw
  have e5 : tailC 3 k10 = headC 5 (tailC 3 k10) (tailC 8 k10) := rfl
  rw [e5]
  have e8 : ∃ T, T = tailC 8 k10 := ⟨_, rfl⟩
  obtain ⟨T, hT8⟩ := e8
  rw [← hT8]
  simp [headC, tailC, k10, h5, c1, c2, c3, c4, c5, c6]
  rw [hT8]
  exact c10_8 (x := x) (y := y) (b := b) (bs := bs) ⟨h.pr.trans P4, h.bk.pre P4, h.V, h.nb, h.by'.pre P4, h.ny⟩ (by simp [h1]) (by simp [h5])
theorem call10 {H : Heap} {x y : Value} {bs bs' : List Int} (hx : By H x bs) (hy : By H y bs') : ∃ H', Call tab false 10 [x, y] H = some (.bool true, H') := by
  refine ⟨H, Call_wp t10 (.inl rfl) rfl ?_⟩
  have c84 := call84 (pu := true) hx hy
  cases hb : decide (3000 < bs.length) || decide (3000 < bs'.length) with
  | true =>
    rw [hb] at c84
    simp [c10, k10, c84]
  | false =>
    rw [hb] at c84
    simp at hb
    obtain ⟨L, c85, Vb, hbl⟩ := call85 (pu := true) hx (by omega)
    obtain ⟨HB, hHB⟩ : ∃ HB, HB = H ++ [(⟨bkC L, 12, 0, false⟩ : Blk)] := ⟨_, rfl⟩
    have pB : Pre H HB := by rw [hHB]; exact Pre.one
    rw [← hHB] at c85
    have hbk : Bk HB (slc H.length 0 0 L.length L.length) L := bk_of (by rw [hHB]; exact get_last) Vb rfl (Nat.le_refl _)
    show WK tab H.length false k10 [] (ini [x, y]) H (Q10 H.length H)
    have e5 : k10 = headC 3 k10 (tailC 3 k10) := rfl
    rw [e5]
    obtain ⟨T, hT⟩ : ∃ T, T = tailC 3 k10 := ⟨_, rfl⟩
    rw [← hT]
    simp [headC, k10, c84, c85]
    rw [hT]
    exact c10_2 (b := L) (bs := bs') ⟨pB, hbk, Vb, hbl, hy.pre pB, by omega⟩ (by simp) (by simp)
end Fb
