/- What each function computes. -/
import Derived.Test.YtkjlnflhimibdaaUse0
set_option linter.unusedVariables false
set_option linter.unusedSimpArgs false
namespace Fb
open Go
theorem call355 {pu : Bool} {H : Heap} {q off ver : Nat} {f : List Int} {dx dy : Int} (hw : FrW f) (hr : rd H q off ver 12 = some (cs .u16 f)) (hx : -1000 ≤ dx ∧ dx ≤ 1000) (hy : -1000 ≤ dy ∧ dy ≤ 1000) :
    Call tab pu 355 [adr q off ver, .int .i64 dx, .int .i64 dy] H = some (iv .u16 (shF f dx dy), H) := by
  refine Call_wp t355 (.inr rfl) rfl ?_
  have hl := hw.len
  have hz := stc_zr (k := .u16) (n := 12) (l := shF f dx dy) shF_length
  have hle := dotL_len (f := f) (k := 144)
  obtain ⟨G0, hG0⟩ : ∃ G0, G0 = H ++ [⟨cs .u16 (zr 12 0), 1, 0, false⟩] := ⟨_, rfl⟩
  have hP0 : Pre H G0 := by rw [hG0]; exact Pre.one
  have hlen0 : G0.length = H.length + 1 := by rw [hG0]; simp
  have hc := call440 (pu := true) hw (hP0.rd hr)
  have hwr : wr H.length false (H ++ [⟨cs .u16 (zr 12 0), 1, 0, false⟩]) H.length 0 0 (cs .u16 (zr 12 0)) = some G0 := by
    rw [wr_at get_last rfl rfl (by simp [may]) (by simp), hG0]
    simp [splice]
  simp [c355, k355, zs_cs, agg_cs, fill, rep, hwr, wbOf, hc]
  refine WP_count 9 (dotL f 144).length _ rfl (fun j e G => e 1 = .int .i64 dx ∧ e 2 = .int .i64 dy ∧ e 6 = iv .u16 (zr 12 0) ∧ e 7 = adr H.length 0 0 ∧ e 8 = slc G0.length 0 0 (dotL f 144).length (dotL f 144).length ∧
    G = H ++ [⟨cs .u16 (mvS dx dy ((dotL f 144).take j)), 1, 0, false⟩, ⟨dotC f 144, 2, 0, false⟩]) (by omega) ?_ ?_ (by simp) ⟨by simp, by simp, by simp, by simp, by simp, by rw [hG0]; simp; rfl⟩
  · rintro j e _ _ hj hjj e4 h9 ⟨h1, h2, h6, h7, h8, rfl⟩
    obtain ⟨y, x, hp, hy12, hx12, hni, htk⟩ := dotL_at hj
    obtain ⟨F, hF⟩ : ∃ F, F = mvS dx dy ((dotL f 144).take j) := ⟨_, rfl⟩
    have hFl : F.length = 12 := by rw [hF, mvS_length]
    have hF1 : mvS dx dy ((dotL f 144).take (j + 1)) = mv1 dx dy (y * 12 + x) F := by rw [htk, mvS_snoc, hF]
    rw [hF1, ← hF]
    obtain ⟨G, hG⟩ : ∃ G, G = H ++ [⟨cs .u16 F, 1, 0, false⟩, ⟨dotC f 144, 2, 0, false⟩] := ⟨_, rfl⟩
    have hGG : G = H ++ [⟨cs .u16 F, 1, 0, false⟩] ++ [⟨dotC f 144, 2, 0, false⟩] := by rw [hG]; simp
    have pG : G[G0.length]? = some ⟨dotC f 144, 2, 0, false⟩ := by
      rw [hGG, hlen0]
      have := get_last (H := H ++ [⟨cs .u16 F, 1, 0, false⟩]) (b := ⟨dotC f 144, 2, 0, false⟩)
      rw [List.length_append] at this
      exact this
    have pF : G[H.length]? = some ⟨cs .u16 F, 1, 0, false⟩ := by
      rw [hGG, List.getElem?_append_left (by simp)]; exact get_last
    have hcl : (dotC f 144).length = (dotL f 144).length * 2 := by rw [dotC, mvsC_length]; simp
    have hs0 : SlR G (slc G0.length 0 0 (dotL f 144).length (dotL f 144).length) 2 (dotL f 144).length (dotC f 144) := ⟨hcl, .inr ⟨_, 0, 0, _, rfl, Nat.le_refl _, by rw [rd_at pG rfl (by simp [hcl])]; simp [take_all (Nat.le_of_eq hcl)], _, pG, rfl, rfl⟩⟩
    obtain ⟨b, o, v, ha, hr2⟩ := hs0.get1 hj
    have hel : elem (dotC f 144) 2 j = mvC ((x : Int), (y : Int)) := by
      rw [dotC, mvsC_elem (by simpa using hj), mv_map hj, hp, dotM_yx hx12]
    rw [hel] at hr2
    have d0 := rd_part hr2 (o := 0) (m := 1) (by omega)
    have d1 := rd_part hr2 (o := 1) (m := 1) (by omega)
    simp [mvC] at d0 d1
    have w1 : IntKind.wrap .i64 (x : Int) = x := wrap64 (by omega)
    have w2 : IntKind.wrap .i64 (y : Int) = y := wrap64 (by omega)
    have c1 : IntKind.wrap .i64 ((x : Int) + dx) = (x : Int) + dx := wrap64 (by omega)
    have c2 : IntKind.wrap .i64 ((y : Int) + dy) = (y : Int) + dy := wrap64 (by omega)
    rw [← hG]
    cases ho : okP ((x : Int) + dx) ((y : Int) + dy) with
    | false =>
      have hpo := put_off (G := G) (b := H.length) ho
      rw [mv1_out hx12 ho]
      simp [b355_1, h9, h1, h2, h6, h7, h8, hjj, ha, d0, d1, w1, w2, c1, c2, hpo, wbOf, e4, ← hG]
    | true =>
      obtain ⟨u, v, eu, ev, hu, hv⟩ := okP_get ho
      have hput := call305 (x := u) (y := v) pF hFl hu hv
      rw [mv1_in hx12 eu ev hu hv]
      have hset : G.set H.length ⟨cs .u16 (putF F u v), 1, 0, false⟩ = H ++ [⟨cs .u16 (putF F u v), 1, 0, false⟩, ⟨dotC f 144, 2, 0, false⟩] := by
        rw [hGG, List.set_append_left _ _ (by simp), set_last]; simp
      rw [hset] at hput
      rw [eu] at c1
      rw [ev] at c2
      have hel2 : elder H.length false G (tup [], H ++ [⟨cs .u16 (putF F u v), 1, 0, false⟩, ⟨dotC f 144, 2, 0, false⟩]) = some (tup [], H ++ [⟨cs .u16 (putF F u v), 1, 0, false⟩, ⟨dotC f 144, 2, 0, false⟩]) := elder_same (by rw [hG]; simp)
      simp [b355_1, h9, h1, h2, h6, h7, h8, hjj, ha, d0, d1, w1, w2, eu, ev, c1, c2, hput, hel2, wbOf, e4]
  · rintro e _ _ h9 ⟨h1, h2, h6, h7, h8, rfl⟩
    have hrd : rd (H ++ [⟨cs .u16 (mvS dx dy ((dotL f 144).take (dotL f 144).length)), 1, 0, false⟩, ⟨dotC f 144, 2, 0, false⟩]) H.length 0 0 12 = some (cs .u16 (shF f dx dy)) := by
      rw [List.take_length, mvS_all]
      have := rd_app (L := [⟨dotC f 144, 2, 0, false⟩]) (rd_last (H := H) (b := ⟨cs .u16 (shF f dx dy), 1, 0, false⟩) (n := 12) rfl (by simp [shF_length]))
      simpa using this
    rw [List.take_length] at hrd
    simp [b355_1, h9, h6, h7, h8, hrd, hz, shF_length, agg_cs]
/-- A list that has grown, or is none yet. -/
def GrN (H G : Heap) (x : Value) (esz n : Nat) (vs : List Value) : Prop := Gr H G x esz n vs ∨ (x = .slice none 0 0 ∧ n = 0 ∧ vs = [] ∧ Pre H G)
theorem GrN.pre {H G : Heap} {x : Value} {esz n : Nat} {vs : List Value} (g : GrN H G x esz n vs) : Pre H G := by
  rcases g with g | ⟨_, _, _, p⟩
  · exact g.pre
  · exact p
theorem GrN.sl {H G : Heap} {x : Value} {esz n : Nat} {vs : List Value} (g : GrN H G x esz n vs) : SlR G x esz n vs := by
  rcases g with g | ⟨rfl, rfl, rfl, _⟩
  · exact g.sl
  · exact ⟨by simp, .inl ⟨rfl, rfl⟩⟩
theorem GrN.push {H G : Heap} {x : Value} {esz n bytes : Nat} {vs c : List Value} (g : GrN H G x esz n vs) (hc : c.length = esz) (hb : (n + 1) * bytes ≤ roomMax) {wb : Bool} :
    ∃ x' G', ((srcOf esz (G ++ [⟨c, esz, 0, false⟩]) (slc G.length 0 0 1 1)).bind fun q => appendTo H.length wb esz bytes (G ++ [⟨c, esz, 0, false⟩]) x q.1 q.2) = some (x', G') ∧ GrN H G' x' esz (n + 1) (vs ++ c) := by
  rcases g with g | ⟨rfl, rfl, rfl, p⟩
  · obtain ⟨x', G', h1, h2⟩ := g.push hc hb (wb := wb)
    exact ⟨x', G', h1, .inl h2⟩
  · have e1 : srcOf esz (G ++ [⟨c, esz, 0, false⟩]) (slc G.length 0 0 1 1) = some (1, c) := by
      show (rd (G ++ [⟨c, esz, 0, false⟩]) G.length 0 0 (1 * esz)).map (fun cs => (1, cs)) = _
      rw [Nat.one_mul, rd_last rfl (by simpa using hc)]; rfl
    refine ⟨slc (G ++ [(⟨c, esz, 0, false⟩ : Blk)]).length 0 0 1 1, G ++ [(⟨c, esz, 0, false⟩ : Blk)] ++ [⟨c, esz, 0, false⟩], ?_, .inl ⟨_, 0, rfl, get_last, ?_, by simp [hc], (p.app).app⟩⟩
    · rw [e1, Option.bind_some]
      unfold appendTo
      simp only []
      rw [if_neg (by decide), if_pos (by simpa using hb)]
    · have := p.len
      simp; omega
theorem GrN.old {H G : Heap} {x : Value} {esz n : Nat} {vs : List Value} (g : GrN H G x esz n vs) : x = .slice none 0 0 ∨ old0 H.length x = false := by
  rcases g with ⟨b, ver, rfl, _, h, _⟩ | ⟨rfl, _⟩
  · right; rw [old0_slc]; simp; omega
  · exact .inl rfl
/-- A step in a block of its own. -/
structure StO (H G : Heap) (P : Nat) (s : Sted) (y : Value) : Prop where
  pre : Pre H G
  ge : H.length ≤ P
  blk : G[P]? = some ⟨stC s y, 1, 0, false⟩
  row : ∃ b, y = slc b 0 0 s.rows.length s.rows.length ∧ H.length ≤ b ∧ b ≠ P ∧ G[b]? = some ⟨chsC s.rows, 2, 0, false⟩
theorem StO.rd {H G : Heap} {P : Nat} {s : Sted} {y : Value} (h : StO H G P s y) : rd G P 0 0 5 = some (stC s y) := by
  rw [rd_at h.blk rfl (by simp [stC])]; rfl
theorem StO.app {H G G' : Heap} {P : Nat} {s : Sted} {y : Value} (p : Pre G G') (h : StO H G P s y) : StO H G' P s y := by
  refine ⟨h.pre.trans p, h.ge, by rw [p.get (List.getElem?_eq_some_iff.1 h.blk).1]; exact h.blk, ?_⟩
  obtain ⟨b, e, h1, h2, h3⟩ := h.row
  exact ⟨b, e, h1, h2, by rw [p.get (List.getElem?_eq_some_iff.1 h3).1]; exact h3⟩
theorem GrN.app {H G G' : Heap} {x : Value} {esz n : Nat} {vs : List Value} (g : GrN H G x esz n vs) (p : Pre G G') : GrN H G' x esz n vs := by
  rcases g with g | ⟨e1, e2, e3, q⟩
  · obtain ⟨L, rfl⟩ := p
    exact .inl g.app
  · exact .inr ⟨e1, e2, e3, q.trans p⟩
theorem GrN.low {H G G' : Heap} {x : Value} {esz n : Nat} {vs : List Value} (g : GrN G G' x esz n vs) (p : Pre H G) : GrN H G' x esz n vs := by
  rcases g with ⟨b, ver, e1, e2, e3, e4, q⟩ | ⟨e1, e2, e3, q⟩
  · exact .inl ⟨b, ver, e1, e2, Nat.le_trans p.len e3, e4, p.trans q⟩
  · exact .inr ⟨e1, e2, e3, p.trans q⟩
structure StP (H G : Heap) (P : Nat) (s : Sted) (y : Value) : Prop where
  ge : H.length ≤ P
  blk : G[P]? = some ⟨stC s y, 1, 0, false⟩
  row : GrN H G y 2 s.rows.length (chsC s.rows)
theorem StP.rd {H G : Heap} {P : Nat} {s : Sted} {y : Value} (h : StP H G P s y) : rd G P 0 0 5 = some (stC s y) := by
  rw [rd_at h.blk rfl (by simp [stC])]; rfl
theorem StP.app {H G G' : Heap} {P : Nat} {s : Sted} {y : Value} (p : Pre G G') (h : StP H G P s y) : StP H G' P s y :=
  ⟨h.ge, by rw [p.get (List.getElem?_eq_some_iff.1 h.blk).1]; exact h.blk, h.row.app p⟩
theorem GrN.set {H G : Heap} {y : Value} {n P : Nat} {vs : List Value} {k k' : Blk} (g : GrN H G y 2 n vs) (ge : H.length ≤ P) (hP : G[P]? = some k) (hk : k.esz = 1) : GrN H (G.set P k') y 2 n vs := by
  rcases g with ⟨b, ver, e1, e2, e3, e4, q⟩ | ⟨e1, e2, e3, q⟩
  · have hne : P ≠ b := by
      rintro rfl
      rw [hP] at e2
      cases e2
      cases hk
    exact .inl ⟨b, ver, e1, by rw [List.getElem?_set_ne hne]; exact e2, e3, e4, q.set ge⟩
  · exact .inr ⟨e1, e2, e3, q.set ge⟩
/-- A list of steps that grows: the rows stand in blocks of their own. -/
def GrS (H G : Heap) (x : Value) (l : List Sted) : Prop := ∃ b ver vs, x = slc b 0 ver l.length l.length ∧ G[b]? = some ⟨vs, 5, ver, false⟩ ∧ H.length ≤ b ∧ vs.length = l.length * 5 ∧ Pre H G ∧
  ∀ i, i < l.length → ∃ y, elem vs 5 i = stC (at0 l i) y ∧ GrN H G y 2 (at0 l i).rows.length (chsC (at0 l i).rows)
theorem GrN.put {H G : Heap} {y : Value} {n P : Nat} {vs : List Value} {k k' : Blk} (g : GrN H G y 2 n vs) (ge : H.length ≤ P) (hP : G[P]? = some k) (hk : k.esz ≠ 2) : GrN H (G.set P k') y 2 n vs := by
  rcases g with ⟨b, ver, e1, e2, e3, e4, q⟩ | ⟨e1, e2, e3, q⟩
  · have hne : P ≠ b := by
      rintro rfl
      rw [hP] at e2
      cases e2
      exact hk rfl
    exact .inl ⟨b, ver, e1, by rw [List.getElem?_set_ne hne]; exact e2, e3, e4, q.set ge⟩
  · exact .inr ⟨e1, e2, e3, q.set ge⟩
theorem GrS.new {H G : Heap} (p : Pre H G) : GrS H (G ++ [⟨[], 5, 0, false⟩]) (slc G.length 0 0 0 0) [] := ⟨_, _, _, rfl, get_last, p.len, by simp, p.app, fun i hi => by simp at hi⟩
theorem GrS.pre {H G : Heap} {x : Value} {l : List Sted} (g : GrS H G x l) : Pre H G := by obtain ⟨_, _, _, _, _, _, _, p, _⟩ := g; exact p
theorem at0_app {α : Type} [Inhabited α] {l : List α} {a : α} {i : Nat} : at0 (l ++ [a]) i = if i < l.length then at0 l i else if i = l.length then a else default := by
  unfold at0
  by_cases h : i < l.length
  · rw [if_pos h]; simp [List.getD_eq_getElem?_getD, List.getElem?_append_left h]
  · rw [if_neg h]
    by_cases h2 : i = l.length
    · rw [if_pos h2]; subst h2; simp [List.getD_eq_getElem?_getD]
    · rw [if_neg h2, List.getD_eq_getElem?_getD, List.getElem?_eq_none (by simp; omega)]; rfl
theorem GrS.push {H G : Heap} {x : Value} {l : List Sted} {s : Sted} {y : Value} (g : GrS H G x l) (hy : GrN H G y 2 s.rows.length (chsC s.rows)) (hb : (l.length + 1) * 32 ≤ roomMax) {wb : Bool} :
    ∃ x' G', ((srcOf 5 (G ++ [⟨stC s y, 5, 0, false⟩]) (slc G.length 0 0 1 1)).bind fun q => appendTo H.length wb 5 32 (G ++ [⟨stC s y, 5, 0, false⟩]) x q.1 q.2) = some (x', G') ∧ GrS H G' x' (l ++ [s]) ∧ ∀ (b' : Nat) (k : Blk), G[b']? = some k → k.esz ≠ 5 → G'[b']? = some k := by
  obtain ⟨b, ver, vs, rfl, h1, h2, h3, h4, h5⟩ := g
  obtain ⟨G1, hG1⟩ : ∃ G1, G1 = G ++ [(⟨stC s y, 5, 0, false⟩ : Blk)] := ⟨_, rfl⟩
  have p1 : Pre G G1 := by rw [hG1]; exact Pre.one
  have h1' : G1[b]? = some ⟨vs, 5, ver, false⟩ := by rw [p1.get (List.getElem?_eq_some_iff.1 h1).1]; exact h1
  have e1 : srcOf 5 G1 (slc G.length 0 0 1 1) = some (1, stC s y) := by
    show (rd G1 G.length 0 0 (1 * 5)).map (fun cs => (1, cs)) = _
    rw [Nat.one_mul, hG1, rd_last rfl (by simp [stC])]; rfl
  rw [← hG1]
  have hl : (stC s y).length = 5 := rfl
  refine ⟨slc b 0 (ver + 1) (l.length + 1) (l.length + 1), G1.set b ⟨vs ++ stC s y, 5, ver + 1, false⟩, ?_, ⟨b, ver + 1, vs ++ stC s y, by simp, get_set h1', h2, by simp [h3, hl]; omega, (h4.trans p1).set h2, fun i hi => ?_⟩, fun b' k hk he => ?_⟩
  · rw [e1, Option.bind_some]
    exact appendTo_grow h1' rfl rfl (by simp [may, h2]) rfl h3.symm (by omega) hb
  · rw [at0_app]
    by_cases hil : i < l.length
    · rw [if_pos hil]
      obtain ⟨y', e2, e3⟩ := h5 i hil
      have hm := mul_next (esz := 5) hil
      refine ⟨y', ?_, (e3.app p1).put h2 h1' (by simp)⟩
      rw [← e2]
      unfold elem
      rw [List.drop_append_of_le_length (by omega), List.take_append_of_le_length (by simp; omega)]
    · have hie : i = l.length := by simp at hi; omega
      rw [if_neg hil, if_pos hie]
      subst hie
      refine ⟨y, ?_, (hy.app p1).put h2 h1' (by simp)⟩
      unfold elem
      rw [← h3, List.drop_left, List.take_of_length_le (by rw [hl]; omega)]
  · have hne : b ≠ b' := by
      rintro rfl
      rw [h1] at hk
      cases hk
      exact he rfl
    rw [List.getElem?_set_ne hne, p1.get (List.getElem?_eq_some_iff.1 hk).1]
    exact hk
/-- Only blocks of one kind have changed. -/
def KeepE (e : Nat) (G G' : Heap) : Prop := ∀ (b : Nat) (k : Blk), G[b]? = some k → k.esz ≠ e → G'[b]? = some k
theorem KeepE.pre {e : Nat} {G G' : Heap} (p : Pre G G') : KeepE e G G' := fun b k h _ => by rw [p.get (List.getElem?_eq_some_iff.1 h).1]; exact h
theorem KeepE.trans {e : Nat} {A B C : Heap} (h : KeepE e A B) (h' : KeepE e B C) : KeepE e A C := fun b k q n => h' b k (h b k q n) n
theorem GrN.keep {e : Nat} {H G G' : Heap} {y : Value} {n : Nat} {vs : List Value} (g : GrN H G y 2 n vs) (k : KeepE e G G') (he : e ≠ 2) (p : Pre H G') : GrN H G' y 2 n vs := by
  rcases g with ⟨b, ver, e1, e2, e3, e4, _⟩ | ⟨e1, e2, e3, _⟩
  · exact .inl ⟨b, ver, e1, k _ _ e2 (by simp only []; omega), e3, e4, p⟩
  · exact .inr ⟨e1, e2, e3, p⟩
theorem GrS.keep {e : Nat} {H G G' : Heap} {x : Value} {l : List Sted} (g : GrS H G x l) (k : KeepE e G G') (he : e ≠ 2) (he5 : e ≠ 5) (p : Pre H G') : GrS H G' x l := by
  obtain ⟨b, ver, vs, e1, h1, h2, h3, _, h5⟩ := g
  refine ⟨b, ver, vs, e1, k _ _ h1 (by simp only []; omega), h2, h3, p, fun i hi => ?_⟩
  obtain ⟨y, e2, e3⟩ := h5 i hi
  exact ⟨y, e2, e3.keep k he p⟩
theorem Gr.keep {e esz : Nat} {H G G' : Heap} {x : Value} {n : Nat} {vs : List Value} (g : Gr H G x esz n vs) (k : KeepE e G G') (he : e ≠ esz) (p : Pre H G') : Gr H G' x esz n vs := by
  obtain ⟨b, ver, e1, h1, h2, h3, _⟩ := g
  exact ⟨b, ver, e1, k _ _ h1 (by simp only []; omega), h2, h3, p⟩
@[simp] theorem blkOf_adr {b o v : Nat} : blkOf (adr b o v) = some b := rfl
@[simp] theorem blkOf_slc {b o v n c : Nat} : blkOf (slc b o v n c) = some b := rfl
@[simp] theorem blkOf_nil {n c : Nat} : blkOf (.slice none n c) = none := rfl
/-- A piece appended to a list of a call's own. -/
theorem push_at {n0 b ver n esz bytes : Nat} {G : Heap} {vs c : List Value} {wb : Bool} (hg : G[b]? = some ⟨vs, esz, ver, false⟩) (hb : n0 ≤ b) (hl : vs.length = n * esz) (hc : c.length = esz) (hr : (n + 1) * bytes ≤ roomMax) :
    ((srcOf esz (G ++ [⟨c, esz, 0, false⟩]) (slc G.length 0 0 1 1)).bind fun q => appendTo n0 wb esz bytes (G ++ [⟨c, esz, 0, false⟩]) (slc b 0 ver n n) q.1 q.2) =
      some (slc b 0 (ver + 1) (n + 1) (n + 1), (G ++ [(⟨c, esz, 0, false⟩ : Blk)]).set b ⟨vs ++ c, esz, ver + 1, false⟩) := by
  have h1' : (G ++ [(⟨c, esz, 0, false⟩ : Blk)])[b]? = some ⟨vs, esz, ver, false⟩ := by rw [List.getElem?_append_left (List.getElem?_eq_some_iff.1 hg).1]; exact hg
  have e1 : srcOf esz (G ++ [⟨c, esz, 0, false⟩]) (slc G.length 0 0 1 1) = some (1, c) := by
    show (rd (G ++ [⟨c, esz, 0, false⟩]) G.length 0 0 (1 * esz)).map (fun cs => (1, cs)) = _
    rw [Nat.one_mul, rd_last rfl (by simpa using hc)]; rfl
  rw [e1, Option.bind_some]
  exact appendTo_grow h1' rfl rfl (by simp [may, hb]) rfl hl.symm (by omega) hr
theorem push_get {b b' : Nat} {G : Heap} {k k' : Blk} (hb : b' ≠ b) (hl : b' < G.length) : ((G ++ [k']).set b k)[b']? = G[b']? := by
  rw [List.getElem?_set_ne (Ne.symm hb), List.getElem?_append_left hl]
theorem push_self {b : Nat} {G : Heap} {k k' : Blk} (hl : b < G.length) : ((G ++ [k']).set b k)[b]? = some k := by
  rw [List.getElem?_set_self (by simp; omega)]
theorem push_pre {H G : Heap} {b : Nat} {k k' : Blk} (p : Pre H G) (hb : H.length ≤ b) : Pre H ((G ++ [k']).set b k) := (p.app).set hb
theorem GrN.ownC {H G : Heap} {x : Value} {esz n : Nat} {vs : List Value} (g : GrN H G x esz n vs) : Own G x (blkOf x) H.length esz n vs := by
  rcases g with ⟨b, ver, rfl, h1, h2, h3, _⟩ | ⟨rfl, rfl, rfl, _⟩
  · exact ⟨h3, h2, ver, n, [], rfl, Nat.le_refl _, by rw [List.append_nil]; exact h1⟩
  · exact ⟨by simp, rfl, rfl⟩
/-- Cells of records of five, the last of which leads to rows of its own. -/
structure RawD (n0 : Nat) (G : Heap) (b ver n : Nat) (ys : Nat → Value) (β : Nat → Option Nat) (hd : Nat → List Value) (m : Nat → Nat) (rc : Nat → List Value) : Prop where
  lo : n0 ≤ b
  out : ∃ vs, G[b]? = some ⟨vs, 5, ver, false⟩ ∧ vs.length = n * 5 ∧ ∀ i, i < n → elem vs 5 i = hd i ++ [ys i]
  hl : ∀ i, i < n → (hd i).length = 4
  row : ∀ i, i < n → Own G (ys i) (β i) n0 2 (m i) (rc i)
  dis : ∀ i j q, i < n → j < n → β i = some q → β j = some q → i = j
theorem RawD.lt {n0 b ver n : Nat} {G : Heap} {ys : Nat → Value} {β : Nat → Option Nat} {hd rc : Nat → List Value} {m : Nat → Nat} (h : RawD n0 G b ver n ys β hd m rc) : b < G.length := by
  obtain ⟨vs, hg, _⟩ := h.out
  exact (List.getElem?_eq_some_iff.1 hg).1
theorem RawD.ne {n0 b ver n : Nat} {G : Heap} {ys : Nat → Value} {β : Nat → Option Nat} {hd rc : Nat → List Value} {m : Nat → Nat} (h : RawD n0 G b ver n ys β hd m rc) {i q : Nat} (hi : i < n) (hq : β i = some q) : q ≠ b := by
  rintro rfl
  obtain ⟨vs, hg, _⟩ := h.out
  obtain ⟨_, h2⟩ := h.row i hi
  rw [hq] at h2
  obtain ⟨_, ver', cap, rest, _, _, hg'⟩ := h2
  rw [hg] at hg'
  cases hg'
/-- What keeps the blocks keeps the list. -/
theorem RawD.keep {n0 b ver n : Nat} {G G' : Heap} {ys : Nat → Value} {β : Nat → Option Nat} {hd rc : Nat → List Value} {m : Nat → Nat} (h : RawD n0 G b ver n ys β hd m rc)
    (k : ∀ (b' : Nat) (k : Blk), G[b']? = some k → k.esz ≠ 1 → G'[b']? = some k) : RawD n0 G' b ver n ys β hd m rc := by
  refine ⟨h.lo, ?_, h.hl, fun i hi => ?_, h.dis⟩
  · obtain ⟨vs, hg, h2⟩ := h.out
    exact ⟨vs, k _ _ hg (by simp), h2⟩
  · obtain ⟨h1, h2⟩ := h.row i hi
    refine ⟨h1, ?_⟩
    cases hb : β i with
    | none => rw [hb] at h2; exact h2
    | some q =>
      rw [hb] at h2
      obtain ⟨hb, ver', cap, rest, e1, hc, hg⟩ := h2
      exact ⟨hb, ver', cap, rest, e1, hc, k _ _ hg (by simp)⟩
theorem RawD.pre {n0 b ver n : Nat} {G G' : Heap} {ys : Nat → Value} {β : Nat → Option Nat} {hd rc : Nat → List Value} {m : Nat → Nat} (p : Pre G G') (h : RawD n0 G b ver n ys β hd m rc) : RawD n0 G' b ver n ys β hd m rc :=
  h.keep fun b' k hk _ => by rw [p.get (List.getElem?_eq_some_iff.1 hk).1]; exact hk
theorem RawD.low {n0 n1 b ver n : Nat} {G : Heap} {ys : Nat → Value} {β : Nat → Option Nat} {hd rc : Nat → List Value} {m : Nat → Nat} (h : RawD n0 G b ver n ys β hd m rc) (hn : n1 ≤ n0) : RawD n1 G b ver n ys β hd m rc :=
  ⟨Nat.le_trans hn h.lo, h.out, h.hl, fun i hi => (h.row i hi).low hn, h.dis⟩
theorem elem_set {vs : List Value} {esz i o j : Nat} {v : Value} (ho : o < esz) : elem (vs.set (i * esz + o) v) esz j = if j = i then (elem vs esz i).set o v else elem vs esz j := by
  unfold elem
  rw [List.drop_set]
  by_cases h : j = i
  · subst h
    rw [if_pos rfl, if_neg (by omega), List.take_set, show j * esz + o - j * esz = o by omega]
  · rw [if_neg h]
    rcases Nat.lt_or_ge i j with h1 | h1
    · have := mul_next (esz := esz) h1
      rw [if_pos (by omega)]
    · have := mul_next (esz := esz) (show j < i by omega)
      rw [if_neg (by omega), List.take_set, List.set_eq_of_length_le]
      rw [List.length_take]; omega
theorem RawD.cell {n0 b ver n n1 : Nat} {G : Heap} {ys : Nat → Value} {β : Nat → Option Nat} {hd rc : Nat → List Value} {m : Nat → Nat} (h : RawD n0 G b ver n ys β hd m rc) {i o : Nat} {v : Value} (hi : i < n) (ho : o < 4) (hv : old0 0 v = true) :
    ∃ G', wr n1 true G b (i * 5 + o) ver [v] = some G' ∧ SameB G G' (some b) ∧ RawD n0 G' b ver n ys β (fun j => if j = i then (hd i).set o v else hd j) m rc := by
  obtain ⟨vs, hg, hl, he⟩ := h.out
  have hm := mul_next (esz := 5) hi
  refine ⟨_, wr_at hg rfl rfl (by simp [may, hv]) (by simp; omega), .set, h.lo, ⟨_, get_set hg, ?_, fun j hj => ?_⟩, fun j hj => ?_, fun j hj => ?_, h.dis⟩
  · simp only []
    rw [splice_one (by omega)]; simpa using hl
  · simp only []
    rw [splice_one (by omega), elem_set (by omega), he i hi, he j hj, List.set_append_left _ _ (by rw [h.hl i hi]; exact ho)]
    by_cases hji : j = i
    · subst hji; rw [if_pos rfl, if_pos rfl]
    · rw [if_neg hji, if_neg hji]
  · split
    · rw [List.length_set]; exact h.hl i hi
    · exact h.hl j hj
  · exact (h.row j hj).agree fun q hq => by rw [List.getElem?_set_ne (Ne.symm (h.ne hj hq))]
theorem RawD.rows {n0 b ver n : Nat} {G G' : Heap} {ys : Nat → Value} {β : Nat → Option Nat} {hd rc : Nat → List Value} {m : Nat → Nat} (h : RawD n0 G b ver n ys β hd m rc) {i : Nat} {c : List Value} (hi : i < n) (s : SameB G G' (β i)) (ho : Own G' (ys i) (β i) n0 2 (m i) c) :
    RawD n0 G' b ver n ys β hd m (fun j => if j = i then c else rc j) := by
  refine ⟨h.lo, ?_, h.hl, fun j hj => ?_, h.dis⟩
  · obtain ⟨vs, hg, h2⟩ := h.out
    refine ⟨vs, ?_, h2⟩
    rw [s.get]
    · exact hg
    · intro hq; exact h.ne hi hq rfl
  · by_cases hji : j = i
    · subst hji; simp only [if_pos rfl]; exact ho
    · simp only [if_neg hji]
      exact (h.row j hj).agree fun q hq => s.get q fun he => hji (h.dis j i q hj hi hq he)
/- Marks. -/
def msH (c : Int) : List Value := [.int .i8 (IntKind.wrap .i8 c), .int .i8 (IntKind.wrap .i8 (c + 1)), .int .i8 (IntKind.wrap .i8 (c + 2)), .int .i8 (IntKind.wrap .i8 (c + 3))]
def mkP (m : Nat → Nat) (i : Nat) : Int := 101 + (mkS m i : Nat)
/-- A list of steps, with rows of its own. -/
def StD (n0 : Nat) (G : Heap) (b ver : Nat) (l : List Sted) : Prop := ∃ ys β, RawD n0 G b ver l.length ys β (fun i => [.int .i8 (at0 l i).a, .int .i8 (at0 l i).b, .int .i8 (at0 l i).c, .int .i8 (at0 l i).d]) (fun i => (at0 l i).rows.length) (fun i => chsC (at0 l i).rows)
theorem StD.new {n0 : Nat} {G : Heap} (h : n0 ≤ G.length) : StD n0 (G ++ [⟨[], 5, 0, false⟩]) G.length 0 [] :=
  ⟨fun _ => U, fun _ => none, h, ⟨_, get_last, rfl, fun i hi => by simp at hi⟩, fun i hi => by simp at hi, fun i hi => by simp at hi, fun i j q hi => by simp at hi⟩
theorem StD.pre {n0 b ver : Nat} {G G' : Heap} {l : List Sted} (p : Pre G G') (h : StD n0 G b ver l) : StD n0 G' b ver l := by
  obtain ⟨ys, β, h⟩ := h; exact ⟨ys, β, h.pre p⟩
theorem StD.lt {n0 b ver : Nat} {G : Heap} {l : List Sted} (h : StD n0 G b ver l) : b < G.length := by
  obtain ⟨ys, β, h⟩ := h; exact h.lt
theorem StD.lo {n0 b ver : Nat} {G : Heap} {l : List Sted} (h : StD n0 G b ver l) : n0 ≤ b := by
  obtain ⟨ys, β, h⟩ := h; exact h.lo
/-- Another step. -/
theorem StD.push {n0 b ver : Nat} {K G : Heap} {l : List Sted} {s : Sted} {y : Value} (g : StD n0 K b ver l) (p : Pre K G) (hy : GrN K G y 2 s.rows.length (chsC s.rows)) (hn : n0 ≤ K.length) (hb : (l.length + 1) * 32 ≤ roomMax) {wb : Bool} :
    ∃ G', ((srcOf 5 (G ++ [⟨stC s y, 5, 0, false⟩]) (slc G.length 0 0 1 1)).bind fun q => appendTo n0 wb 5 32 (G ++ [⟨stC s y, 5, 0, false⟩]) (slc b 0 ver l.length l.length) q.1 q.2) = some (slc b 0 (ver + 1) (l.length + 1) (l.length + 1), G') ∧
      StD n0 G' b (ver + 1) (l ++ [s]) ∧ (∀ (b' : Nat) (k : Blk), b' ≠ b → G[b']? = some k → G'[b']? = some k) ∧ ∀ H : Heap, Pre H G → H.length ≤ b → Pre H G' := by
  obtain ⟨ys, β, g⟩ := g
  have hβK : ∀ i q, i < l.length → β i = some q → q < K.length := fun i q hi hq => by
    obtain ⟨_, h2⟩ := g.row i hi
    rw [hq] at h2
    obtain ⟨_, _, _, _, _, _, h3⟩ := h2
    exact (List.getElem?_eq_some_iff.1 h3).1
  have hbK := g.lt
  have g' := g.pre p
  obtain ⟨vs, h1, h3, h5⟩ := g'.out
  have hbG := g'.lt
  have hlen : (stC s y).length = 5 := rfl
  have oy := hy.ownC
  have hne : ∀ q, blkOf y = some q → q ≠ b := fun q hq => by have := oy.below q hq; omega
  have hkeep : ∀ (b' : Nat) (k : Blk), b' ≠ b → G[b']? = some k → ((G ++ [(⟨stC s y, 5, 0, false⟩ : Blk)]).set b ⟨vs ++ stC s y, 5, ver + 1, false⟩)[b']? = some k := fun b' k hb' hk => by
    rw [push_get hb' (List.getElem?_eq_some_iff.1 hk).1]; exact hk
  refine ⟨_, push_at h1 g.lo h3 rfl hb, ⟨fun i => if i < l.length then ys i else y, fun i => if i < l.length then β i else blkOf y, g.lo, ⟨_, push_self hbG, by simp [h3, hlen]; omega, fun i hi => ?_⟩, fun i hi => rfl, fun i hi => ?_, fun i j q hi hj => ?_⟩, hkeep, fun H pH hH => push_pre pH hH⟩
  · rw [at0_app]
    by_cases hil : i < l.length
    · have hm := mul_next (esz := 5) hil
      simp only [if_pos hil]
      rw [← h5 i hil]
      unfold elem
      rw [List.drop_append_of_le_length (by omega), List.take_append_of_le_length (by simp; omega)]
    · have hie : i = l.length := by simp at hi; omega
      simp only [if_neg hil, if_pos hie]
      subst hie
      unfold elem
      rw [← h3, List.drop_left, List.take_of_length_le (by rw [hlen]; omega)]; rfl
  · by_cases hil : i < l.length
    · simp only [at0_app, if_pos hil]
      exact (g'.row i hil).agree fun q hq => by
        have := hβK i q hil hq
        have := p.len
        exact push_get (g'.ne hil hq) (by omega)
    · have hie : i = l.length := by simp at hi; omega
      simp only [at0_app, if_neg hil, if_pos hie]
      exact (oy.low hn).agree fun q hq => by
        obtain ⟨_, h2⟩ := oy
        rw [hq] at h2
        obtain ⟨_, _, _, _, _, _, h3⟩ := h2
        exact push_get (hne q hq) (List.getElem?_eq_some_iff.1 h3).1
  · simp at hi hj
    by_cases hil : i < l.length
    · by_cases hjl : j < l.length
      · simp only [if_pos hil, if_pos hjl]
        exact g.dis i j q hil hjl
      · simp only [if_pos hil, if_neg hjl]
        intro e1 e2
        have := hβK i q hil e1
        have := oy.below q e2
        omega
    · by_cases hjl : j < l.length
      · simp only [if_neg hil, if_pos hjl]
        intro e1 e2
        have := hβK j q hjl e2
        have := oy.below q e1
        omega
      · intro _ _; omega
/-- Steps with rows of their own, or nothing. -/
def StX (n0 : Nat) (G : Heap) (x : Value) (l : List Sted) : Prop := (x = .slice none 0 0 ∧ l = []) ∨ ∃ b ver, x = slc b 0 ver l.length l.length ∧ StD n0 G b ver l
theorem StX.pre {n0 : Nat} {G G' : Heap} {x : Value} {l : List Sted} (p : Pre G G') (h : StX n0 G x l) : StX n0 G' x l := by
  rcases h with h | ⟨b, ver, rfl, h⟩
  · exact .inl h
  · exact .inr ⟨b, ver, rfl, h.pre p⟩
/-- Marks over steps. -/
def MkX (n0 : Nat) (G : Heap) (x : Value) (l : List Sted) : Prop := (x = .slice none 0 0 ∧ l = []) ∨ ∃ b ver ys β, x = slc b 0 ver l.length l.length ∧
  RawD n0 G b ver l.length ys β (fun i => msH (mkP (fun i => (at0 l i).rows.length) i)) (fun i => (at0 l i).rows.length) (fun i => mkL (ms2 (mkP (fun i => (at0 l i).rows.length) i + 4)) ((at0 l i).rows.length * 2))
theorem MkX.pre {n0 : Nat} {G G' : Heap} {x : Value} {l : List Sted} (p : Pre G G') (h : MkX n0 G x l) : MkX n0 G' x l := by
  rcases h with h | ⟨b, ver, ys, β, rfl, h⟩
  · exact .inl h
  · exact .inr ⟨b, ver, ys, β, rfl, h.pre p⟩
inductive Lo (σ : Type) where
  | go (s : σ)
  | st (s : σ)
/- Moves, compared by how far they go. -/
def szI (a : Int) : Int := if a < -a then -a else a
def mkey (a : Int × Int) : Int := szI a.1 + szI a.2
abbrev ML := List (Int × Int)
/-- Halves. -/
def hf (i j : Int) : Int := (i + j) / 2
/- The moves up to a size, as both sides order them. -/
def rgI (m : Int) : List Int := (List.range (2 * m + 1).toNat).map fun (i : Nat) => (i : Int) - m
def gridM (m : Int) : ML := (rgI m).flatMap fun a => (rgI m).map fun b => (a, b)
def farM (m : Int) : ML := (List.range (2 * m + 1).toNat).flatMap fun (d : Nat) => (gridM m).filter fun a => decide (mkey a = d)
/-- The list that is being sorted, in its block. -/
def hp (G0 : Heap) (bq ver : Nat) (l : ML) : Heap := G0.set bq ⟨mvsC l, 2, ver, false⟩
theorem call549 {pu : Bool} {H : Heap} {a b : Int} : Call tab pu 549 [.int .i64 a, .int .i64 b] H = some (.int .i64 (if b < a then a else b), H) := by
  refine Call_wp t549 (.inr rfl) rfl ?_
  by_cases h : b < a
  · simp [c549, k549, h]
  · simp [c549, k549, h]
theorem szI_max {a : Int} : (if -a < a then a else -a) = szI a := by unfold szI; split <;> split <;> omega
theorem own_nil {H : Heap} {esz : Nat} : Own H (.slice none 0 0) none H.length esz 0 [] := ⟨by simp, rfl, rfl⟩
theorem SlR.cells {H : Heap} {x : Value} {esz n : Nat} {vs : List Value} (h : SlR H x esz n vs) : cellsOf x = [x] := by
  rcases h.is with ⟨rfl, _⟩ | ⟨b, off, ver, cap, rfl, _⟩ <;> rfl
def cpP (b c : List (List Int)) (a : Int × Int) (p : Nat) : Bool := allN (fun i => decide (fr b (p + i) = shF (fr c i) a.1 a.2)) c.length
/-- Which move is the first one that makes a copy at p. -/
def mcJ (b c : List (List Int)) (m p : Nat) : Int := findN (fun j => cpP b c (mv (farM m) j) p) (farM m).length
def mcS (b c : List (List Int)) (m p : Nat) (s : List Int × ML) : List Int × ML := if 0 ≤ mcJ b c m p then (s.1 ++ [(p : Int)], s.2 ++ [mv (farM m) (mcJ b c m p).toNat]) else s
def mcK (b c : List (List Int)) (m k : Nat) : List Int × ML := itN (mcS b c m) ([], []) k
theorem mcK_zero {b c : List (List Int)} {m : Nat} : mcK b c m 0 = ([], []) := itN_zero
theorem mcK_succ {b c : List (List Int)} {m k : Nat} : mcK b c m (k + 1) = mcS b c m k (mcK b c m k) := itN_succ
theorem mcK_len {b c : List (List Int)} {m k : Nat} : (mcK b c m k).1.length ≤ k ∧ (mcK b c m k).2.length = (mcK b c m k).1.length := by
  induction k with
  | zero => rw [mcK_zero]; simp
  | succ k ih =>
    rw [mcK_succ, mcS]
    split
    · simp [ih.2]; omega
    · exact ⟨by omega, ih.2⟩
def mcC (b c : List (List Int)) (m : Int) : Int := if (okB b && okB c) = true then if (in1 m 0 4 && !((c.length : Int) == 0)) = true then 0 else 2 else 1
/-- How many places there are. -/
def mcN (b c : List (List Int)) : Nat := b.length + 1 - c.length
def mcR (b c : List (List Int)) (m : Int) : List Int × ML := if mcC b c m = 0 then mcK b c m.toNat (mcN b c) else ([], [])
/-- What 352 hands back. -/
def RsM (H : Heap) (r : Value × Heap) (q : List Int × ML) (c : Int) : Prop :=
  (c ≠ 0 ∧ r = (tup [.slice none 0 0, .slice none 0 0, .int .i64 c], H)) ∨
  (c = 0 ∧ r = (tup [slc H.length 0 0 q.1.length q.1.length, slc (H.length + 1) 0 0 q.1.length q.1.length, .int .i64 c], H ++ [⟨cs .i64 q.1, 1, 0, false⟩, ⟨mvsC q.2, 2, 0, false⟩]))
/-- Two lists of its own, and a code. -/
def RsD (H : Heap) (r : Value × Heap) (q : List Int × ML) (c : Int) : Prop := ∃ r1 r2 G β1 β2, r = (tup [r1, r2, .int .i64 c], G) ∧ Pre H G ∧ Own G r1 β1 H.length 1 q.1.length (cs .i64 q.1) ∧ Own G r2 β2 H.length 2 q.1.length (mvsC q.2) ∧ ∀ b, β1 = some b → β2 ≠ some b
theorem mcR_len {b c : List (List Int)} {m : Int} : (mcR b c m).2.length = (mcR b c m).1.length := by
  by_cases h : mcC b c m = 0
  · rw [mcR, if_pos h]; exact mcK_len.2
  · rw [mcR, if_neg h]; rfl
theorem two_own {H : Heap} {vs ws : List Value} {e1 e2 n1 n2 : Nat} (h1 : vs.length = n1 * e1) (h2 : ws.length = n2 * e2) :
    Own (H ++ [⟨vs, e1, 0, false⟩, ⟨ws, e2, 0, false⟩]) (slc H.length 0 0 n1 n1) (some H.length) H.length e1 n1 vs ∧ Own (H ++ [⟨vs, e1, 0, false⟩, ⟨ws, e2, 0, false⟩]) (slc (H.length + 1) 0 0 n2 n2) (some (H.length + 1)) H.length e2 n2 ws :=
  ⟨⟨h1, Nat.le_refl _, 0, n1, [], rfl, Nat.le_refl _, by simp⟩, ⟨h2, by omega, 0, n2, [], rfl, Nat.le_refl _, by simp⟩⟩
theorem RsM.d {b c : List (List Int)} {m : Int} {H : Heap} {r : Value × Heap} (h : RsM H r (mcR b c m) (mcC b c m)) : RsD H r (mcR b c m) (mcC b c m) := by
  rcases h with ⟨hc, rfl⟩ | ⟨hc, rfl⟩
  · refine ⟨_, _, H, none, none, rfl, .refl, ?_, ?_, by intro b h; cases h⟩
    · rw [mcR, if_neg hc]; exact own_nil
    · rw [mcR, if_neg hc]; exact own_nil
  · obtain ⟨o1, o2⟩ := two_own (H := H) (vs := cs .i64 (mcR b c m).1) (ws := mvsC (mcR b c m).2) (e1 := 1) (e2 := 2) (n1 := (mcR b c m).1.length) (n2 := (mcR b c m).1.length) (by simp) (by rw [mvsC_length, mcR_len])
    exact ⟨_, _, _, _, _, rfl, ⟨_, rfl⟩, o1, o2, by intro b h; cases h; simp⟩
structure Ly where
  f : List Int
  x : Int
  y : Int
  d : Int
instance : Inhabited Ly := ⟨⟨[], 0, 0, 0⟩⟩
structure LyW (s : Ly) : Prop where
  len : s.f.length = 24
  ok : ∀ n ∈ s.f, u16' n
  x : i8 s.x
  y : i8 s.y
  d : i8 s.d
def lyT (f : List Int) (a b c : Value) : List Value := cs .u16 f ++ [a, b, c]
def lyC (s : Ly) : List Value := lyT s.f (.int .i8 s.x) (.int .i8 s.y) (.int .i8 s.d)
def scC (l : List Ly) : List Value := rowsC lyC l
abbrev ScW (l : List Ly) : Prop := ∀ s ∈ l, LyW s
theorem lyT_len {f : List Int} {a b c : Value} (h : f.length = 24) : (lyT f a b c).length = 27 := by simp [lyT, h]
theorem lyC_len {s : Ly} (h : LyW s) : (lyC s).length = 27 := lyT_len h.len
theorem scC_elem {l : List Ly} (h : ScW l) {i : Nat} (hi : i < l.length) : elem (scC l) 27 i = lyC (at0 l i) := rows_elem (f := lyC) (esz := 27) (fun s hs => lyC_len (h s hs)) hi
theorem lyT_at {f : List Int} {a b c : Value} (h : f.length = 24) {k : Nat} : (lyT f a b c).drop (24 + k) = [a, b, c].drop k := by
  unfold lyT
  rw [show 24 + k = (cs .u16 f).length + k by simp [h], List.drop_length_add_append]
theorem stL_at {l : List Value} {o : Nat} {vs : List Value} (h : o + vs.length ≤ l.length) : stc (agg l) o vs = some (agg (splice l o vs)) := by
  unfold stc agg
  simp only [List.size_toArray]
  rw [if_pos h]
abbrev Sc (H : Heap) (x : Value) (l : List Ly) : Prop := SlR H x 27 l.length (scC l)
def inkL (s : Ly) : List Int := sub s.f 0 12
def mskL (s : Ly) : List Int := sub s.f 12 12
theorem LyW.ink {s : Ly} (h : LyW s) : FrW (inkL s) := ⟨sub_length (by rw [h.len]; omega), fun n hn => h.ok n (sub_mem hn)⟩
theorem LyW.msk {s : Ly} (h : LyW s) : FrW (mskL s) := ⟨sub_length (by rw [h.len]; omega), fun n hn => h.ok n (sub_mem hn)⟩
theorem anyN_not {p : Nat → Bool} {n : Nat} : (!anyN (fun i => !p i) n) = allN p n := by
  unfold anyN allN
  induction (List.range n) with
  | nil => rfl
  | cons a r ih => simp only [List.any_cons, List.all_cons, Bool.not_or, Bool.not_not, ih]
/- The spec's side, in memory. -/
theorem lyC_parts {s : Ly} (h : s.f.length = 24) : ((lyC s).drop 0).take 12 = cs .u16 (inkL s) ∧ ((lyC s).drop 12).take 12 = cs .u16 (mskL s) ∧ ((lyC s).drop 24).take 1 = [.int .i8 s.x] ∧ ((lyC s).drop 25).take 1 = [.int .i8 s.y] ∧ ((lyC s).drop 26).take 1 = [.int .i8 s.d] := by
  refine ⟨?_, ?_, ?_, ?_, ?_⟩
  · unfold lyC lyT inkL
    rw [List.drop_zero, List.take_append_of_le_length (by simp [h]), show (cs .u16 s.f).take 12 = ((cs .u16 s.f).drop 0).take 12 by simp, cs_sub]
  · unfold lyC lyT mskL
    rw [List.drop_append_of_le_length (by simp [h]), List.take_append_of_le_length (by simp [h]), cs_sub]
  · unfold lyC
    rw [show 24 = 24 + 0 from rfl, lyT_at h]; rfl
  · unfold lyC
    rw [show 25 = 24 + 1 from rfl, lyT_at h]; rfl
  · unfold lyC
    rw [show 26 = 24 + 2 from rfl, lyT_at h]; rfl
/-- A layer in memory. -/
structure LyR (H : Heap) (q off ver : Nat) (s : Ly) : Prop where
  ink : rd H q off ver 12 = some (cs .u16 (inkL s))
  msk : rd H q (off + 12) ver 12 = some (cs .u16 (mskL s))
  x : rd H q (off + 24) ver 1 = some [.int .i8 s.x]
  y : rd H q (off + 25) ver 1 = some [.int .i8 s.y]
  d : rd H q (off + 26) ver 1 = some [.int .i8 s.d]
theorem LyR.of {H : Heap} {q off ver : Nat} {s : Ly} (h : rd H q off ver 27 = some (lyC s)) (hf : s.f.length = 24) : LyR H q off ver s := by
  obtain ⟨h1, h2, h3, h4, h5⟩ := lyC_parts hf
  have g1 := rd_part h (o := 0) (m := 12) (by omega)
  rw [h1, Nat.add_zero] at g1
  exact ⟨g1, by rw [rd_part h (by omega), h2], by rw [rd_part h (by omega), h3], by rw [rd_part h (by omega), h4], by rw [rd_part h (by omega), h5]⟩
theorem LyR.pre {H G : Heap} {q off ver : Nat} {s : Ly} (p : Pre H G) (h : LyR H q off ver s) : LyR G q off ver s := ⟨p.rd h.ink, p.rd h.msk, p.rd h.x, p.rd h.y, p.rd h.d⟩
theorem Sc.get {H : Heap} {x : Value} {l : List Ly} (hs : Sc H x l) (hw : ScW l) {i : Nat} (hi : i < l.length) : ∃ q off ver, idxAV 27 x (.int .i64 (i : Int)) = some (adr q off ver) ∧ rd H q off ver 27 = some (lyC (at0 l i)) ∧ LyR H q off ver (at0 l i) := by
  obtain ⟨q, off, ver, h1, h2⟩ := SlR.get1 hs hi
  rw [scC_elem hw hi] at h2
  exact ⟨q, off, ver, h1, h2, LyR.of h2 (hw _ (at0_mem hi)).len⟩
/- Keys. -/
abbrev Ky := Int × Int × Int
def kyC (k : Ky) : List Value := [.int .i16 k.1, .int .i8 k.2.1, .int .i8 k.2.2]
def kysC (l : List Ky) : List Value := rowsC kyC l
theorem kyC_flat {k : Ky} : NoRef (kyC k) := by
  intro v hv n
  simp only [kyC, List.mem_cons, List.not_mem_nil, or_false] at hv
  rcases hv with rfl | rfl | rfl <;> exact old0_int
theorem kysC_length {l : List Ky} : (kysC l).length = l.length * 3 := rows_length (f := kyC) (esz := 3) fun _ _ => rfl
theorem kysC_elem {l : List Ky} {i : Nat} (hi : i < l.length) : elem (kysC l) 3 i = kyC (at0 l i) := rows_elem (f := kyC) (esz := 3) (fun _ _ => rfl) hi
theorem kysC_flat {l : List Ky} : NoRef (kysC l) := rows_flat fun _ _ => kyC_flat
def kyF : List Value := [.int .i16 (-30101), .int .i8 (-101), .int .i8 (-101)]
theorem ldc3a {a b c : Value} : ldc 1 false (agg [a, b, c]) 0 = some a := by simp [ldc]
theorem ldc3b {a b c : Value} : ldc 1 false (agg [a, b, c]) 1 = some b := by simp [ldc]
theorem ldc3c {a b c : Value} : ldc 1 false (agg [a, b, c]) 2 = some c := by simp [ldc]
/- Parts. -/
structure Pt where
  f : List Int
  e : Int
  ks : List Ky
  len : f.length = 12
instance : Inhabited Pt := ⟨⟨zr 12 0, 0, [], rfl⟩⟩
structure PtW (s : Pt) : Prop where
  ok : ∀ n ∈ s.f, u16' n
  e : i8 s.e
  ks : ∀ k ∈ s.ks, (-32768 ≤ k.1 ∧ k.1 ≤ 32767) ∧ i8 k.2.1 ∧ i8 k.2.2
def ptT (f : List Int) (a b : Value) : List Value := cs .u16 f ++ [a, b]
def ptC (s : Pt) (y : Value) : List Value := ptT s.f (.int .i8 s.e) y
theorem ptT_len {f : List Int} {a b : Value} (h : f.length = 12) : (ptT f a b).length = 14 := by simp [ptT, h]
theorem ptC_len {s : Pt} {y : Value} : (ptC s y).length = 14 := ptT_len s.len
def ptZ : List Value := ptT (zr 12 0) (.int .i8 0) (.slice none 0 0)
theorem z14 : ([.int .u16 0, .int .u16 0, .int .u16 0, .int .u16 0, .int .u16 0, .int .u16 0, .int .u16 0, .int .u16 0, .int .u16 0, .int .u16 0, .int .u16 0, .int .u16 0, .int .i8 0, .slice none 0 0] : List Value) = ptZ := rfl
theorem ptT_at {f : List Int} {a b : Value} (h : f.length = 12) {k : Nat} : (ptT f a b).drop (12 + k) = [a, b].drop k := by
  unfold ptT
  rw [show 12 + k = (cs .u16 f).length + k by simp [h], List.drop_length_add_append]
theorem ldP0 {f : List Int} {a b : Value} (h : f.length = 12) : ldc 12 true (agg (ptT f a b)) 0 = some (iv .u16 f) := by
  unfold ldc
  rw [cellsOf_agg, if_pos (by rw [ptT_len h]; omega)]
  simp only [List.drop_zero, ptT]
  rw [List.take_left' (by simp [h])]; rfl
theorem ldP12 {f : List Int} {a b : Value} (h : f.length = 12) : ldc 1 false (agg (ptT f a b)) 12 = some a := by
  unfold ldc
  rw [cellsOf_agg, if_pos (by rw [ptT_len h]; omega), show 12 = 12 + 0 from rfl, ptT_at h]; rfl
theorem ldP13 {f : List Int} {a b : Value} (h : f.length = 12) : ldc 1 false (agg (ptT f a b)) 13 = some b := by
  unfold ldc
  rw [cellsOf_agg, if_pos (by rw [ptT_len h]; omega), show 13 = 12 + 1 from rfl, ptT_at h]; rfl
theorem ldPall {f : List Int} {a b : Value} (h : f.length = 12) : ldc 14 true (agg (ptT f a b)) 0 = some (agg (ptT f a b)) := by
  unfold ldc
  rw [cellsOf_agg, if_pos (by rw [ptT_len h]; omega), List.drop_zero, List.take_of_length_le (by rw [ptT_len h]; omega)]; rfl
theorem stP12 {f : List Int} {a b v : Value} (h : f.length = 12) : stc (agg (ptT f a b)) 12 [v] = some (agg (ptT f v b)) := by
  rw [stL_at (by rw [ptT_len h]; simp)]
  congr 2
  unfold splice
  rw [show 12 + [v].length = 12 + 1 from rfl, ptT_at h]
  unfold ptT
  rw [List.take_left' (by simp [h])]; simp
theorem stP13 {f : List Int} {a b v : Value} (h : f.length = 12) : stc (agg (ptT f a b)) 13 [v] = some (agg (ptT f a v)) := by
  rw [stL_at (by rw [ptT_len h]; simp)]
  congr 2
  unfold splice
  rw [show 13 + [v].length = 12 + 2 from rfl, ptT_at h]
  unfold ptT
  rw [show 13 = (cs .u16 f).length + 1 by simp [h], List.take_length_add_append]; simp
theorem stPall {f g : List Int} {a b a' b' : Value} (h : f.length = 12) (hg : g.length = 12) : stc (agg (ptT f a b)) 0 (ptT g a' b') = some (agg (ptT g a' b')) := by
  rw [stL_at (by rw [ptT_len h, ptT_len hg]; omega)]
  congr 2
  unfold splice
  rw [List.take_zero, List.nil_append, List.drop_eq_nil_of_le (by rw [ptT_len h, ptT_len hg]; omega), List.append_nil]
/-- Keys of a part in memory. -/
abbrev Kr (G : Heap) (y : Value) (s : Pt) : Prop := SlR G y 3 s.ks.length (kysC s.ks)
abbrev KrC (G : Heap) (y : Value) (s : Pt) : Prop := IsCp G y 3 s.ks.length (kysC s.ks) kyF
/-- Parts in memory. -/
def PtS (G : Heap) (x : Value) (l : List Pt) : Prop := ∃ vs, SlR G x 14 l.length vs ∧ ∀ i, i < l.length → ∃ y, elem vs 14 i = ptC (at0 l i) y ∧ Kr G y (at0 l i)
theorem PtS.pre {H G : Heap} {x : Value} {l : List Pt} (p : Pre H G) (h : PtS H x l) : PtS G x l := by
  obtain ⟨vs, h1, h2⟩ := h
  exact ⟨vs, h1.pre p, fun i hi => by obtain ⟨y, h3, h4⟩ := h2 i hi; exact ⟨y, h3, h4.pre p⟩⟩
theorem PtS.lenV {G : Heap} {x : Value} {l : List Pt} (h : PtS G x l) : lenV x = some (.int .i64 l.length) := by
  obtain ⟨vs, h1, _⟩ := h; exact h1.lenV
theorem PtS.get {G : Heap} {x : Value} {l : List Pt} (h : PtS G x l) {i : Nat} (hi : i < l.length) : ∃ q off ver y, idxAV 14 x (.int .i64 (i : Int)) = some (adr q off ver) ∧ rd G q off ver 14 = some (ptC (at0 l i) y) ∧ Kr G y (at0 l i) := by
  obtain ⟨vs, h1, h2⟩ := h
  obtain ⟨q, off, ver, h3, h4⟩ := h1.get1 hi
  obtain ⟨y, h5, h6⟩ := h2 i hi
  rw [h5] at h4
  exact ⟨q, off, ver, y, h3, h4, h6⟩
/-- A copy of a part: what stands in the block, whatever stands in that block itself. -/
structure CqI (H G : Heap) (b : Nat) (flag : Bool) (s : Pt) (y : Value) : Prop where
  r : ∀ k, Kr (G.set b k) y s
  n : y = .slice none 0 0 ∨ old0 H.length y = false
  c : flag = false → (∀ k, KrC (G.set b k) y s) ∧ old0 H.length y = false
theorem CqI.set {H G : Heap} {b : Nat} {flag : Bool} {s : Pt} {y : Value} {k : Blk} (h : CqI H G b flag s y) : CqI H (G.set b k) b flag s y := ⟨fun k' => by rw [set_set]; exact h.r k', h.n, fun hf => ⟨fun k' => by rw [set_set]; exact (h.c hf).1 k', (h.c hf).2⟩⟩
theorem CqI.pre {H G G' : Heap} {b : Nat} {flag : Bool} {s : Pt} {y : Value} (h : CqI H G b flag s y) (p : Pre G G') (hb : b < G.length) : CqI H G' b flag s y :=
  ⟨fun k => (h.r k).pre (set_pre p hb), h.n, fun hf => ⟨fun k => ((h.c hf).1 k).pre (set_pre p hb), (h.c hf).2⟩⟩
theorem ptC_old {n0 : Nat} {s : Pt} {y : Value} : (ptC s y).all (old0 n0) = old0 n0 y := by simp [ptC, ptT]
theorem keepP {n0 : Nat} {H : Heap} {s : Pt} {y : Value} (h : old0 n0 y = false) : finish n0 H [agg (ptC s y)] = (agg (ptC s y), H) := finish_keep (by rw [ptC_old]; exact h)
def ptF : Pt := ⟨bkF, -101, [(-30101, -101, -101)], rfl⟩
theorem ptZ_len : ptZ.length = 14 := rfl
/-- Steps copied, with room behind. -/
def CqS (G : Heap) (x : Value) (l : List Pt) : Prop := ∃ b ver vs, x = slc b 0 ver l.length (l.length + roomN l.length) ∧ G[b]? = some ⟨vs, 14, ver, false⟩ ∧ vs.length = (l.length + roomN l.length) * 14 ∧
  (∀ i, i < l.length → ∃ y, elem vs 14 i = ptC (at0 l i) y ∧ KrC G y (at0 l i)) ∧ ∀ i, l.length ≤ i → i < l.length + roomN l.length → ∃ y, elem vs 14 i = ptC ptF y ∧ Kr G y ptF
theorem CqS.sl {G : Heap} {x : Value} {l : List Pt} (h : CqS G x l) : PtS G x l := by
  obtain ⟨b, ver, vs, rfl, hg, hl, h1, h2⟩ := h
  have e1 : l.length * 14 ≤ vs.length := by omega
  refine ⟨vs.take (l.length * 14), ⟨by simp; omega, .inr ⟨b, 0, ver, _, rfl, by omega, by rw [rd_at hg rfl (by simp; omega)]; simp, _, hg, rfl, rfl⟩⟩, fun i hi => ?_⟩
  obtain ⟨y, h3, h4⟩ := h1 i hi
  exact ⟨y, by rw [elem_take hi, h3], h4.sl kysC_length rfl⟩
theorem CqS.pre {H G : Heap} {x : Value} {l : List Pt} (p : Pre H G) (h : CqS H x l) : CqS G x l := by
  obtain ⟨b, ver, vs, rfl, hg, hl, h1, h2⟩ := h
  refine ⟨b, ver, vs, rfl, by rw [p.get (List.getElem?_eq_some_iff.1 hg).1]; exact hg, hl, fun i hi => ?_, fun i hi hi2 => ?_⟩
  · obtain ⟨y, h3, h4⟩ := h1 i hi; exact ⟨y, h3, h4.pre p⟩
  · obtain ⟨y, h3, h4⟩ := h2 i hi hi2; exact ⟨y, h3, h4.pre p⟩
def ky (ks : List Ky) (i : Nat) : Ky := at0 ks i
def kyB (ks : List Ky) (j : Nat) : Bool := ((in1 (ky ks j).1 0 200 && in1 (ky ks j).2.1 (-24) 24) && in1 (ky ks j).2.2 (-24) 24) && (decide (j = 0) || decide ((ky ks (j - 1)).1 < (ky ks j).1))
def okTk (ks : List Ky) : Bool := allN (kyB ks) ks.length && in1 ks.length 1 20
def okPt (s : Pt) : Bool := (okF s.f && okTk s.ks) && in1 s.e 0 3
def okPts (l : List Pt) : Bool := allN (fun i => okPt (at0 l i)) l.length
abbrev KyW (ks : List Ky) : Prop := ∀ k ∈ ks, (-32768 ≤ k.1 ∧ k.1 ≤ 32767) ∧ i8 k.2.1 ∧ i8 k.2.2
theorem KyW.at {ks : List Ky} (h : KyW ks) {i : Nat} (hi : i < ks.length) : (-32768 ≤ (ky ks i).1 ∧ (ky ks i).1 ≤ 32767) ∧ i8 (ky ks i).2.1 ∧ i8 (ky ks i).2.2 := h _ (at0_mem hi)
theorem Kr.at {H : Heap} {y : Value} {ks : List Ky} (h : SlR H y 3 ks.length (kysC ks)) {j : Nat} (hj : j < ks.length) : ∃ q off ver, idxAV 3 y (.int .i64 (j : Int)) = some (adr q off ver) ∧ rd H q off ver 3 = some (kyC (ky ks j)) ∧
    rd H q off ver 1 = some [.int .i16 (ky ks j).1] ∧ rd H q (off + 1) ver 1 = some [.int .i8 (ky ks j).2.1] ∧ rd H q (off + 2) ver 1 = some [.int .i8 (ky ks j).2.2] := by
  obtain ⟨q, off, ver, h1, h2⟩ := SlR.get1 h hj
  rw [kysC_elem hj] at h2
  have r0 := rd_part h2 (o := 0) (m := 1) (by omega)
  have r1 := rd_part h2 (o := 1) (m := 1) (by omega)
  have r2 := rd_part h2 (o := 2) (m := 1) (by omega)
  rw [Nat.add_zero] at r0
  exact ⟨q, off, ver, h1, h2, r0, r1, r2⟩
theorem call432 {pu : Bool} {H : Heap} {t : Int} : Call tab pu 432 [.int .i64 t] H = some (.bool (in1 t 0 200), H) := by
  refine Call_wp t432 (.inr rfl) rfl ?_
  simp [c432, k432, in304]
theorem call435 {pu : Bool} {H : Heap} {t : Int} : Call tab pu 435 [.int .i64 t] H = some (.bool (in1 t 0 200), H) := by
  refine Call_wp t435 (.inr rfl) rfl ?_
  simp [c435, k435, in295]
theorem call605 {pu : Bool} {H : Heap} {t : Int} : Call tab pu 605 [.int .i64 t] H = some (.bool (in1 t (-24) 24), H) := by
  refine Call_wp t605 (.inr rfl) rfl ?_
  simp [c605, k605, in304]
theorem call551 {pu : Bool} {H : Heap} {t : Int} : Call tab pu 551 [.int .i64 t] H = some (.bool (in1 t (-24) 24), H) := by
  refine Call_wp t551 (.inr rfl) rfl ?_
  simp [c551, k551, in295]
theorem call574 {pu : Bool} {H : Heap} {t : Int} : Call tab pu 574 [.int .i64 t] H = some (.bool (in1 t 0 3), H) := by
  refine Call_wp t574 (.inr rfl) rfl ?_
  simp [c574, k574, in304]
theorem call462 {pu : Bool} {H : Heap} {t : Int} : Call tab pu 462 [.int .i64 t] H = some (.bool (in1 t 0 3), H) := by
  refine Call_wp t462 (.inr rfl) rfl ?_
  simp [c462, k462, in295]
theorem call575 {pu : Bool} {H : Heap} {y : Value} {ks : List Ky} (h : SlR H y 3 ks.length (kysC ks)) (hw : KyW ks) (hn : ks.length ≤ 1000000) : Call tab pu 575 [y] H = some (.bool (okTk ks), H) := by
  refine Call_wp t575 (.inr rfl) rfl ?_
  simp [c575, k575]
  refine WP_forH 3 ks.length _ rfl (by omega) (fun i e => e 0 = y ∧ ∀ j, j < i → kyB ks j = true) ?_ ?_ (by simp) ⟨by simp, fun j hj => by omega⟩
  · rintro i e hi hii e4 h3 ⟨h0, hj⟩
    obtain ⟨q, off, ver, ha, _, r0, r1, r2⟩ := Kr.at h hi
    obtain ⟨b1, b2, b3⟩ := hw.at hi
    have w1 : IntKind.wrap .i64 (ky ks i).1 = (ky ks i).1 := wrap64 (by omega)
    have w2 : IntKind.wrap .i64 (ky ks i).2.1 = (ky ks i).2.1 := wrap64 (by omega)
    have w3 : IntKind.wrap .i64 (ky ks i).2.2 = (ky ks i).2.2 := wrap64 (by omega)
    have bad : kyB ks i = false → okTk ks = false := fun hb => by unfold okTk; rw [allN_false hi hb]; rfl
    have hB : kyB ks i = (((in1 (ky ks i).1 0 200 && in1 (ky ks i).2.1 (-24) 24) && in1 (ky ks i).2.2 (-24) 24) && (decide (i = 0) || decide ((ky ks (i - 1)).1 < (ky ks i).1))) := rfl
    cases k1 : in1 (ky ks i).1 0 200 with
    | false =>
      rw [k1] at hB
      simp [b575_1, h3, h0, SlR.lenV h, hii, ha, r0, w1, call432, k1, skip, bad hB]
    | true =>
      cases k2 : in1 (ky ks i).2.1 (-24) 24 with
      | false =>
        rw [k1, k2] at hB
        simp [b575_1, h3, h0, SlR.lenV h, hii, ha, r0, r1, w1, w2, call432, k1, call605, k2, skip, bad hB]
      | true =>
        cases k3 : in1 (ky ks i).2.2 (-24) 24 with
        | false =>
          rw [k1, k2, k3] at hB
          simp [b575_1, h3, h0, SlR.lenV h, hii, ha, r0, r1, r2, w1, w2, w3, call432, k1, call605, k2, k3, bad hB]
        | true =>
          rw [k1, k2, k3] at hB
          by_cases hi0 : i = 0
          · subst hi0
            have hB' : kyB ks 0 = true := by rw [hB]; simp
            simp at h3 ha hii e4
            simp [b575_1, h3, h0, SlR.lenV h, hii, ha, r0, r1, r2, w1, w2, w3, call432, k1, call605, k2, k3, skip, e4]
            exact hB'
          · obtain ⟨m, rfl⟩ : ∃ m, i = m + 1 := ⟨i - 1, by omega⟩
            obtain ⟨q', off', ver', ha', _, r0', _, _⟩ := Kr.at h (j := m) (by omega)
            have e5 : IntKind.wrap .i64 (((m + 1 : Nat) : Int) - 1) = (m : Int) := by rw [wrap64 (by omega)]; omega
            have hpos : (0 : Int) < ((m + 1 : Nat) : Int) := by omega
            by_cases hlt : (ky ks m).1 < (ky ks (m + 1)).1
            · have hB' : kyB ks (m + 1) = true := by rw [hB]; simp [hlt]
              have hnle : ¬ (ky ks (m + 1)).1 ≤ (ky ks m).1 := by omega
              simp [b575_1, h3, h0, SlR.lenV h, hii, hpos, e5, ha, ha', r0, r1, r2, r0', w1, w2, w3, call432, k1, call605, k2, k3, hnle, e4, -Int.natCast_add]
              exact upto_succ hj hB'
            · have hB' : kyB ks (m + 1) = false := by rw [hB]; simp [hlt]
              have hle : (ky ks (m + 1)).1 ≤ (ky ks m).1 := by omega
              simp [b575_1, h3, h0, SlR.lenV h, hii, hpos, e5, ha, ha', r0, r1, r2, r0', w1, w2, w3, call432, k1, call605, k2, k3, hle, bad hB', -Int.natCast_add]
  · rintro e h3 ⟨h0, hj⟩
    have : okTk ks = in1 ks.length 1 20 := by unfold okTk; rw [allN_true hj]; rfl
    simp [b575_1, h3, h0, SlR.lenV h, in304, this]
theorem call461 {pu : Bool} {H : Heap} {y : Value} {ks : List Ky} (h : SlR H y 3 ks.length (kysC ks)) (hw : KyW ks) (hn : ks.length ≤ 1000000) : Call tab pu 461 [y] H = some (.bool (okTk ks), H) := by
  refine Call_wp t461 (.inr rfl) rfl ?_
  simp [c461, k461, SlR.lenV h]
  refine WP_forH 7 ks.length _ rfl (by omega) (fun i e => e 0 = y ∧ e 5 = y ∧ e 6 = .int .i64 ks.length ∧ ∀ j, j < i → kyB ks j = true) ?_ ?_ (by simp) ⟨by simp, by simp, by simp, fun j hj => by omega⟩
  · rintro i e hi hii e4 h7 ⟨h0, h5, h6, hj⟩
    obtain ⟨q, off, ver, ha, hr, _⟩ := Kr.at h hi
    obtain ⟨b1, b2, b3⟩ := hw.at hi
    have w1 : IntKind.wrap .i64 (ky ks i).1 = (ky ks i).1 := wrap64 (by omega)
    have w2 : IntKind.wrap .i64 (ky ks i).2.1 = (ky ks i).2.1 := wrap64 (by omega)
    have w3 : IntKind.wrap .i64 (ky ks i).2.2 = (ky ks i).2.2 := wrap64 (by omega)
    have bad : kyB ks i = false → okTk ks = false := fun hb => by unfold okTk; rw [allN_false hi hb]; rfl
    have hB : kyB ks i = (((in1 (ky ks i).1 0 200 && in1 (ky ks i).2.1 (-24) 24) && in1 (ky ks i).2.2 (-24) 24) && (decide (i = 0) || decide ((ky ks (i - 1)).1 < (ky ks i).1))) := rfl
    simp only [kyC] at hr
    cases k1 : in1 (ky ks i).1 0 200 with
    | false =>
      rw [k1] at hB
      simp [b461_1, h7, h0, h5, h6, hii, ha, hr, stc3, ldc3a, ldc3b, ldc3c, w1, call435, k1, skip, bad hB]
    | true =>
      cases k2 : in1 (ky ks i).2.1 (-24) 24 with
      | false =>
        rw [k1, k2] at hB
        simp [b461_1, h7, h0, h5, h6, hii, ha, hr, stc3, ldc3a, ldc3b, ldc3c, w1, w2, call435, call551, k1, k2, skip, bad hB]
      | true =>
        cases k3 : in1 (ky ks i).2.2 (-24) 24 with
        | false =>
          rw [k1, k2, k3] at hB
          simp [b461_1, h7, h0, h5, h6, hii, ha, hr, stc3, ldc3a, ldc3b, ldc3c, w1, w2, w3, call435, call551, k1, k2, k3, skip, bad hB]
        | true =>
          rw [k1, k2, k3] at hB
          by_cases hi0 : i = 0
          · subst hi0
            have hB' : kyB ks 0 = true := by rw [hB]; simp
            simp at h7 ha hii e4
            simp [b461_1, h7, h0, h5, h6, hii, ha, hr, stc3, ldc3a, ldc3b, ldc3c, w1, w2, w3, call435, call551, k1, k2, k3, skip, e4]
            exact hB'
          · obtain ⟨m, rfl⟩ : ∃ m, i = m + 1 := ⟨i - 1, by omega⟩
            obtain ⟨q', off', ver', ha', _, r0', _, _⟩ := Kr.at h (j := m) (by omega)
            have e5 : IntKind.wrap .i64 (((m + 1 : Nat) : Int) - 1) = (m : Int) := by rw [wrap64 (by omega)]; omega
            have hpos : (0 : Int) < ((m + 1 : Nat) : Int) := by omega
            by_cases hlt : (ky ks m).1 < (ky ks (m + 1)).1
            · have hB' : kyB ks (m + 1) = true := by rw [hB]; simp [hlt]
              have hnle : ¬ (ky ks (m + 1)).1 ≤ (ky ks m).1 := by omega
              simp [b461_1, h7, h0, h5, h6, hii, hpos, e5, ha, ha', hr, r0', stc3, ldc3a, ldc3b, ldc3c, w1, w2, w3, call435, call551, k1, k2, k3, hnle, e4, -Int.natCast_add]
              exact upto_succ hj hB'
            · have hB' : kyB ks (m + 1) = false := by rw [hB]; simp [hlt]
              have hle : (ky ks (m + 1)).1 ≤ (ky ks m).1 := by omega
              simp [b461_1, h7, h0, h5, h6, hii, hpos, e5, ha, ha', hr, r0', stc3, ldc3a, ldc3b, ldc3c, w1, w2, w3, call435, call551, k1, k2, k3, hle, bad hB', -Int.natCast_add]
  · rintro e h7 ⟨h0, h5, h6, hj⟩
    have : okTk ks = in1 ks.length 1 20 := by unfold okTk; rw [allN_true hj]; rfl
    simp [b461_1, h7, h0, h6, SlR.lenV h, in295, this]
theorem call263 {pu : Bool} {H : Heap} {s : Pt} {y : Value} (hy : Kr H y s) (hw : PtW s) (hn : s.ks.length ≤ 1000000) : Call tab pu 263 [agg (ptC s y)] H = some (.bool (okPt s), H) := by
  refine Call_wp t263 (.inr rfl) rfl ?_
  have hl := s.len
  have c1 := call234 (pu := true) (H := H) hl
  have c2 := call461 (pu := true) hy hw.ks hn
  have he := hw.e
  have w1 : IntKind.wrap .i64 s.e = s.e := wrap64 (by omega)
  cases k1 : okF s.f with
  | false => simp [c263, k263, ptC, ldP0 hl, c1, k1, skip, okPt]
  | true =>
    cases k2 : okTk s.ks with
    | false => simp [c263, k263, ptC, ldP0 hl, ldP13 hl, c1, k1, c2, k2, skip, okPt]
    | true => simp [c263, k263, ptC, ldP0 hl, ldP12 hl, ldP13 hl, c1, k1, c2, k2, w1, call462, okPt]
theorem s578 : tab 578 = some (.fn (ixFC 14 true)) := t578
theorem s541 : tab 541 = some (.fn (ctFC 578)) := t541
theorem call542 {pu : Bool} {H : Heap} {s : Pt} {y : Value} (hy : Kr H y s) (hw : PtW s) (hn : s.ks.length ≤ 1000000) : Call tab pu 542 [agg (ptC s y)] H = some (.bool (!okPt s), H) := by
  refine Call_wp t542 (.inr rfl) rfl ?_
  have c1 := call263 (pu := true) hy hw hn
  simp only [ptC] at c1 ⊢
  simp [c542, k542, ldPall s.len, c1]
structure PtsW (l : List Pt) : Prop where
  w : ∀ s ∈ l, PtW s
  n : l.length ≤ 1000000
  r : ∀ s ∈ l, s.ks.length ≤ 1000000
theorem call425 {pu : Bool} {H : Heap} {x : Value} {l : List Pt} (hs : PtS H x l) (hw : PtsW l) : Call tab pu 425 [x] H = some (.bool (okPts l), H) := by
  refine Call_wp t425 (.inr rfl) rfl ?_
  obtain ⟨vs, h1, h2⟩ := hs
  have hc := ctF_call s541 s578 (pu := true) (F := .func (.func 542) #[] #[]) (p := fun i => !okPt (at0 l i)) h1 (by have := hw.n; omega) fun i hi => by
    obtain ⟨y, e1, e2⟩ := h2 i hi
    exact ⟨agg (ptC (at0 l i) y), by rw [e1]; rfl, by simp [call542 e2 (hw.w _ (at0_mem hi)) (hw.r _ (at0_mem hi))]⟩
  simp [c425, k425, hc, anyN_not, okPts]
/-- A part in memory. -/
structure PtR (H : Heap) (q off ver : Nat) (s : Pt) (y : Value) : Prop where
  rf : rd H q off ver 12 = some (cs .u16 s.f)
  re : rd H q (off + 12) ver 1 = some [.int .i8 s.e]
  ry : rd H q (off + 13) ver 1 = some [y]
  rk : Kr H y s
theorem PtR.of {H : Heap} {q off ver : Nat} {s : Pt} {y : Value} (h : rd H q off ver 14 = some (ptC s y)) (hk : Kr H y s) : PtR H q off ver s y := by
  have hl := s.len
  have g1 := rd_part h (o := 0) (m := 12) (by omega)
  have g2 := rd_part h (o := 12) (m := 1) (by omega)
  have g3 := rd_part h (o := 13) (m := 1) (by omega)
  unfold ptC at g1 g2 g3
  rw [show 12 = 12 + 0 from rfl, ptT_at hl] at g2
  rw [show 13 = 12 + 1 from rfl, ptT_at hl] at g3
  rw [Nat.add_zero, List.drop_zero] at g1
  unfold ptT at g1
  rw [List.take_left' (by simp [hl])] at g1
  exact ⟨g1, g2, g3, hk⟩
theorem PtR.pre {H G : Heap} {q off ver : Nat} {s : Pt} {y : Value} (p : Pre H G) (h : PtR H q off ver s y) : PtR G q off ver s y := ⟨p.rd h.rf, p.rd h.re, p.rd h.ry, SlR.pre p h.rk⟩
theorem call537 {pu : Bool} {H : Heap} {q off ver : Nat} {s : Pt} {y : Value} (hr : PtR H q off ver s y) (hw : PtW s) (hn : s.ks.length ≤ 1000000) : Call tab pu 537 [adr q off ver] H = some (.bool (okPt s), H) := by
  refine Call_wp t537 (.inr rfl) rfl ?_
  have c1 := call359 (pu := true) s.len hr.rf
  have c2 := call575 (pu := true) hr.rk hw.ks hn
  have he := hw.e
  have w1 : IntKind.wrap .i64 s.e = s.e := wrap64 (by omega)
  cases k1 : okF s.f with
  | false => simp [c537, k537, c1, k1, skip, okPt]
  | true =>
    cases k2 : in1 s.e 0 3 with
    | false => simp [c537, k537, c1, k1, hr.re, w1, call574, k2, skip, okPt]
    | true => simp [c537, k537, c1, k1, hr.re, hr.ry, w1, call574, k2, c2, okPt]
theorem call421 {pu : Bool} {H : Heap} {x : Value} {l : List Pt} {b : Bool} (hs : PtS H x l) (hw : PtsW l) : Call tab pu 421 [x, .bool b] H = some (.int .i64 (if okPts l = true then if b = true then if 6 < l.length then 3 else 0 else 2 else 1), H) := by
  refine Call_wp t421 (.inr rfl) rfl ?_
  have hn := hw.n
  simp [c421, k421]
  refine WP_forH 5 l.length _ rfl (by omega) (fun i e => e 0 = x ∧ e 1 = .bool b ∧ ∀ j, j < i → okPt (at0 l j) = true) ?_ ?_ (by simp) ⟨by simp, by simp, fun j hj => by omega⟩
  · rintro i e hi hii e4 h5 ⟨h0, h1, hj⟩
    obtain ⟨q, off, ver, y, ha, hr, hk⟩ := hs.get hi
    have c1 := call537 (pu := true) (PtR.of hr hk) (hw.w _ (at0_mem hi)) (hw.r _ (at0_mem hi))
    cases hk : okPt (at0 l i) with
    | true =>
      rw [hk] at c1
      simp [b421_1, h5, h0, h1, hs.lenV, hii, ha, c1, e4]
      exact upto_succ hj hk
    | false =>
      rw [hk] at c1
      have : okPts l = false := allN_false hi hk
      simp [b421_1, h5, h0, h1, hs.lenV, hii, ha, c1, this]
  · rintro e h5 ⟨h0, h1, hj⟩
    have : okPts l = true := allN_true hj
    have e6 : (6 < (l.length : Int)) ↔ 6 < l.length := by omega
    cases b with
    | false => simp [b421_1, h5, h0, h1, hs.lenV, this]
    | true =>
      by_cases h6 : 6 < l.length
      · have h6' : 6 < (l.length : Int) := by omega
        simp [b421_1, h5, h0, h1, hs.lenV, this, h6, h6']
      · have h6' : ¬ 6 < (l.length : Int) := by omega
        simp [b421_1, h5, h0, h1, hs.lenV, this, h6, h6']
/- Shares. -/
def shV (e a s : Int) : Int :=
  if e = 0 then a * 1000 / s else if e = 1 then a * a * 1000 / (s * s) else if e = 2 then 1000 - (s - a) * (s - a) * 1000 / (s * s)
  else if 2 * a < s then 2 * a * a * 1000 / (s * s) else 1000 - 2 * (s - a) * (s - a) * 1000 / (s * s)
theorem mulB {a b A B : Int} (ha : 0 ≤ a ∧ a ≤ A) (hb : 0 ≤ b ∧ b ≤ B) : 0 ≤ a * b ∧ a * b ≤ A * B := by
  refine ⟨Int.mul_nonneg ha.1 hb.1, ?_⟩
  have h1 : a * b ≤ A * b := Int.mul_le_mul_of_nonneg_right ha.2 hb.1
  have h2 : A * b ≤ A * B := Int.mul_le_mul_of_nonneg_left hb.2 (by omega)
  omega
theorem quoB {p q : Int} (hp : 0 ≤ p) (hq : 0 < q) (h : p ≤ 1000 * q) : 0 ≤ p / q ∧ p / q ≤ 1000 := ⟨Int.ediv_nonneg hp (by omega), Int.ediv_le_of_le_mul hq h⟩
theorem shV_ok {e a s : Int} (h0 : 0 ≤ a) (h1 : a ≤ s) (hs : 0 < s) : 0 ≤ shV e a s ∧ shV e a s ≤ 1000 := by
  have hss : 0 < s * s := Int.mul_pos hs hs
  unfold shV
  split
  · exact quoB (by omega) hs (by omega)
  · have k1 := mulB ⟨h0, h1⟩ ⟨h0, h1⟩
    have k2 := mulB (a := s - a) (A := s) ⟨by omega, by omega⟩ (b := s - a) (B := s) ⟨by omega, by omega⟩
    split
    · exact quoB (by omega) hss (by omega)
    · split
      · have := quoB (p := (s - a) * (s - a) * 1000) (q := s * s) (by omega) hss (by omega)
        omega
      · split
        · have k3 := mulB (a := 2 * a) (A := s) ⟨by omega, by omega⟩ (b := a) (B := s) ⟨h0, h1⟩
          exact quoB (by omega) hss (by omega)
        · have k3 := mulB (a := 2 * (s - a)) (A := s) ⟨by omega, by omega⟩ (b := s - a) (B := s) ⟨by omega, by omega⟩
          have := quoB (p := 2 * (s - a) * (s - a) * 1000) (q := s * s) (by omega) hss (by omega)
          omega
theorem shV_zero {e s : Int} (hs : 0 < s) : shV e 0 s = 0 := by
  have hss : 0 < s * s := Int.mul_pos hs hs
  have h1 : s * s * 1000 / (s * s) = 1000 := by rw [Int.mul_comm]; exact Int.mul_ediv_cancel _ (by omega)
  unfold shV
  split
  · simp
  · split
    · simp
    · split
      · rw [Int.sub_zero, h1]; rfl
      · rw [if_pos (by omega)]; simp
theorem wr6 {p : Int} (h : 0 ≤ p ∧ p ≤ 1000000000) : IntKind.wrap .i64 p = p := wrap64 (by omega)
theorem call576 {pu : Bool} {H : Heap} {e a s : Int} (he : 0 ≤ e ∧ e ≤ 3) (h0 : 0 ≤ a) (h1 : a ≤ s) (hs : 0 < s) (hs2 : s ≤ 200) : Call tab pu 576 [.int .i64 e, .int .i64 a, .int .i64 s] H = some (.int .i64 (shV e a s), H) := by
  refine Call_wp t576 (.inr rfl) rfl ?_
  have hss : 0 < s * s := Int.mul_pos hs hs
  have hv := shV_ok (e := e) h0 h1 hs
  have k0 := mulB (a := s) (A := 200) ⟨by omega, hs2⟩ (b := s) (B := 200) ⟨by omega, hs2⟩
  have k1 := mulB (a := a) (A := 200) ⟨h0, by omega⟩ (b := a) (B := 200) ⟨h0, by omega⟩
  have k2 := mulB (a := s - a) (A := 200) ⟨by omega, by omega⟩ (b := s - a) (B := 200) ⟨by omega, by omega⟩
  have k3 := mulB (a := 2 * a) (A := 400) ⟨by omega, by omega⟩ (b := a) (B := 200) ⟨h0, by omega⟩
  have k4 := mulB (a := 2 * (s - a)) (A := 400) ⟨by omega, by omega⟩ (b := s - a) (B := 200) ⟨by omega, by omega⟩
  have w0 := wr6 (p := s - a) (by omega)
  have w1 := wr6 (p := s * s) (by omega)
  have w2 := wr6 (p := a * 1000) (by omega)
  have w3 := wr6 (p := a * a) (by omega)
  have w4 := wr6 (p := a * a * 1000) (by omega)
  have w5 := wr6 (p := (s - a) * (s - a)) (by omega)
  have w6 := wr6 (p := (s - a) * (s - a) * 1000) (by omega)
  have w7 := wr6 (p := 2 * a) (by omega)
  have w8 := wr6 (p := 2 * a * a) (by omega)
  have w9 := wr6 (p := 2 * a * a * 1000) (by omega)
  have wa := wr6 (p := 2 * (s - a)) (by omega)
  have wb := wr6 (p := 2 * (s - a) * (s - a)) (by omega)
  have wc := wr6 (p := 2 * (s - a) * (s - a) * 1000) (by omega)
  have hs0 : s ≠ 0 := by omega
  have hss0 : s * s ≠ 0 := by omega
  have d1 : (a * 1000).tdiv s = a * 1000 / s := Int.tdiv_eq_ediv_of_nonneg (by omega)
  have d2 : (a * a * 1000).tdiv (s * s) = a * a * 1000 / (s * s) := Int.tdiv_eq_ediv_of_nonneg (by omega)
  have d3 : ((s - a) * (s - a) * 1000).tdiv (s * s) = (s - a) * (s - a) * 1000 / (s * s) := Int.tdiv_eq_ediv_of_nonneg (by omega)
  have d4 : (2 * a * a * 1000).tdiv (s * s) = 2 * a * a * 1000 / (s * s) := Int.tdiv_eq_ediv_of_nonneg (by omega)
  have d5 : (2 * (s - a) * (s - a) * 1000).tdiv (s * s) = 2 * (s - a) * (s - a) * 1000 / (s * s) := Int.tdiv_eq_ediv_of_nonneg (by omega)
  have : e = 0 ∨ e = 1 ∨ e = 2 ∨ e = 3 := by omega
  rcases this with rfl | rfl | rfl | rfl
  · have e1 : shV 0 a s = a * 1000 / s := rfl
    rw [e1] at hv ⊢
    have we := wr6 (p := a * 1000 / s) (by omega)
    simp [c576, k576, w0, w1, w2, hs0, d1, we]
  · have e1 : shV 1 a s = a * a * 1000 / (s * s) := rfl
    rw [e1] at hv ⊢
    have we := wr6 (p := a * a * 1000 / (s * s)) (by omega)
    simp [c576, k576, w0, w1, w3, w4, hs0, d2, we]
  · have e1 : shV 2 a s = 1000 - (s - a) * (s - a) * 1000 / (s * s) := rfl
    have := quoB (p := (s - a) * (s - a) * 1000) (q := s * s) (by omega) hss (by have := mulB (a := s - a) (A := s) ⟨by omega, by omega⟩ (b := s - a) (B := s) ⟨by omega, by omega⟩; omega)
    have we := wr6 (p := (s - a) * (s - a) * 1000 / (s * s)) (by omega)
    have wf := wr6 (p := 1000 - (s - a) * (s - a) * 1000 / (s * s)) (by omega)
    simp [c576, k576, w0, w1, w5, w6, hs0, d3, we, wf, e1]
  · by_cases h2 : 2 * a < s
    · have e1 : shV 3 a s = 2 * a * a * 1000 / (s * s) := by unfold shV; rw [if_neg (by omega), if_neg (by omega), if_neg (by omega), if_pos h2]
      rw [e1] at hv ⊢
      have we := wr6 (p := 2 * a * a * 1000 / (s * s)) (by omega)
      simp [c576, k576, w0, w1, w7, w8, w9, hs0, h2, d4, we]
    · have e1 : shV 3 a s = 1000 - 2 * (s - a) * (s - a) * 1000 / (s * s) := by unfold shV; rw [if_neg (by omega), if_neg (by omega), if_neg (by omega), if_neg h2]
      have := quoB (p := 2 * (s - a) * (s - a) * 1000) (q := s * s) (by omega) hss (by have := mulB (a := 2 * (s - a)) (A := s) ⟨by omega, by omega⟩ (b := s - a) (B := s) ⟨by omega, by omega⟩; omega)
      have we := wr6 (p := 2 * (s - a) * (s - a) * 1000 / (s * s)) (by omega)
      have wf := wr6 (p := 1000 - 2 * (s - a) * (s - a) * 1000 / (s * s)) (by omega)
      simp [c576, k576, w0, w1, w7, wa, wb, wc, hs0, h2, d5, we, wf, e1]
theorem call579 {pu : Bool} {H : Heap} {e a s : Int} (he : 0 ≤ e ∧ e ≤ 3) (h0 : 0 ≤ a) (h1 : a ≤ s) (hs : 0 < s) (hs2 : s ≤ 200) : Call tab pu 579 [.int .i64 e, .int .i64 a, .int .i64 s] H = some (.int .i64 (shV e a s), H) := by
  refine Call_wp t579 (.inr rfl) rfl ?_
  have hss : 0 < s * s := Int.mul_pos hs hs
  have hv := shV_ok (e := e) h0 h1 hs
  have k0 := mulB (a := s) (A := 200) ⟨by omega, hs2⟩ (b := s) (B := 200) ⟨by omega, hs2⟩
  have k1 := mulB (a := a) (A := 200) ⟨h0, by omega⟩ (b := a) (B := 200) ⟨h0, by omega⟩
  have k2 := mulB (a := s - a) (A := 200) ⟨by omega, by omega⟩ (b := s - a) (B := 200) ⟨by omega, by omega⟩
  have k3 := mulB (a := 2 * a) (A := 400) ⟨by omega, by omega⟩ (b := a) (B := 200) ⟨h0, by omega⟩
  have k4 := mulB (a := 2 * (s - a)) (A := 400) ⟨by omega, by omega⟩ (b := s - a) (B := 200) ⟨by omega, by omega⟩
  have w0 := wr6 (p := s - a) (by omega)
  have w1 := wr6 (p := s * s) (by omega)
  have w2 := wr6 (p := a * 1000) (by omega)
  have w3 := wr6 (p := a * a) (by omega)
  have w4 := wr6 (p := a * a * 1000) (by omega)
  have w5 := wr6 (p := (s - a) * (s - a)) (by omega)
  have w6 := wr6 (p := (s - a) * (s - a) * 1000) (by omega)
  have w7 := wr6 (p := 2 * a) (by omega)
  have w8 := wr6 (p := 2 * a * a) (by omega)
  have w9 := wr6 (p := 2 * a * a * 1000) (by omega)
  have wa := wr6 (p := 2 * (s - a)) (by omega)
  have wb := wr6 (p := 2 * (s - a) * (s - a)) (by omega)
  have wc := wr6 (p := 2 * (s - a) * (s - a) * 1000) (by omega)
  have hs0 : s ≠ 0 := by omega
  have hss0 : s * s ≠ 0 := by omega
  have d1 : (a * 1000).tdiv s = a * 1000 / s := Int.tdiv_eq_ediv_of_nonneg (by omega)
  have d2 : (a * a * 1000).tdiv (s * s) = a * a * 1000 / (s * s) := Int.tdiv_eq_ediv_of_nonneg (by omega)
  have d3 : ((s - a) * (s - a) * 1000).tdiv (s * s) = (s - a) * (s - a) * 1000 / (s * s) := Int.tdiv_eq_ediv_of_nonneg (by omega)
  have d4 : (2 * a * a * 1000).tdiv (s * s) = 2 * a * a * 1000 / (s * s) := Int.tdiv_eq_ediv_of_nonneg (by omega)
  have d5 : (2 * (s - a) * (s - a) * 1000).tdiv (s * s) = 2 * (s - a) * (s - a) * 1000 / (s * s) := Int.tdiv_eq_ediv_of_nonneg (by omega)
  have : e = 0 ∨ e = 1 ∨ e = 2 ∨ e = 3 := by omega
  rcases this with rfl | rfl | rfl | rfl
  · have e1 : shV 0 a s = a * 1000 / s := rfl
    rw [e1] at hv ⊢
    have we := wr6 (p := a * 1000 / s) (by omega)
    simp [c579, k579, w0, w1, w2, hs0, d1, we]
  · have e1 : shV 1 a s = a * a * 1000 / (s * s) := rfl
    rw [e1] at hv ⊢
    have we := wr6 (p := a * a * 1000 / (s * s)) (by omega)
    simp [c579, k579, w0, w1, w3, w4, hs0, d2, we]
  · have e1 : shV 2 a s = 1000 - (s - a) * (s - a) * 1000 / (s * s) := rfl
    have := quoB (p := (s - a) * (s - a) * 1000) (q := s * s) (by omega) hss (by have := mulB (a := s - a) (A := s) ⟨by omega, by omega⟩ (b := s - a) (B := s) ⟨by omega, by omega⟩; omega)
    have we := wr6 (p := (s - a) * (s - a) * 1000 / (s * s)) (by omega)
    have wf := wr6 (p := 1000 - (s - a) * (s - a) * 1000 / (s * s)) (by omega)
    simp [c579, k579, w0, w1, w5, w6, hs0, d3, we, wf, e1]
  · by_cases h2 : 2 * a < s
    · have e1 : shV 3 a s = 2 * a * a * 1000 / (s * s) := by unfold shV; rw [if_neg (by omega), if_neg (by omega), if_neg (by omega), if_pos h2]
      rw [e1] at hv ⊢
      have we := wr6 (p := 2 * a * a * 1000 / (s * s)) (by omega)
      simp [c579, k579, w0, w1, w7, w8, w9, hs0, h2, d4, we]
    · have e1 : shV 3 a s = 1000 - 2 * (s - a) * (s - a) * 1000 / (s * s) := by unfold shV; rw [if_neg (by omega), if_neg (by omega), if_neg (by omega), if_neg h2]
      have := quoB (p := 2 * (s - a) * (s - a) * 1000) (q := s * s) (by omega) hss (by have := mulB (a := 2 * (s - a)) (A := s) ⟨by omega, by omega⟩ (b := s - a) (B := s) ⟨by omega, by omega⟩; omega)
      have we := wr6 (p := 2 * (s - a) * (s - a) * 1000 / (s * s)) (by omega)
      have wf := wr6 (p := 1000 - 2 * (s - a) * (s - a) * 1000 / (s * s)) (by omega)
      simp [c579, k579, w0, w1, w7, wa, wb, wc, hs0, h2, d5, we, wf, e1]
def btw (a b w : Int) : Int := if b < a then a - ((a - b) * w + 500) / 1000 else a + ((b - a) * w + 500) / 1000
theorem btw_zero {a b : Int} : btw a b 0 = a := by unfold btw; split <;> simp
theorem btw_ok {a b w : Int} (ha : -24 ≤ a ∧ a ≤ 24) (hb : -24 ≤ b ∧ b ≤ 24) (hw : 0 ≤ w ∧ w ≤ 1000) : -100 ≤ btw a b w ∧ btw a b w ≤ 100 := by
  unfold btw
  split
  · have := mulB (a := a - b) (A := 48) ⟨by omega, by omega⟩ hw
    omega
  · have := mulB (a := b - a) (A := 48) ⟨by omega, by omega⟩ hw
    omega
theorem call577 {pu : Bool} {H : Heap} {a b w : Int} (ha : -24 ≤ a ∧ a ≤ 24) (hb : -24 ≤ b ∧ b ≤ 24) (hw : 0 ≤ w ∧ w ≤ 1000) : Call tab pu 577 [.int .i64 a, .int .i64 b, .int .i64 w] H = some (.int .i64 (btw a b w), H) := by
  refine Call_wp t577 (.inr rfl) rfl ?_
  have c606 : ∀ d : Int, -48 ≤ d ∧ d ≤ 48 → Call tab true 606 [.int .i64 d] H = some (.int .i64 (szI d), H) := fun d hd => by
    refine Call_wp t606 (.inr rfl) rfl ?_
    have w1 : IntKind.wrap .i64 (-d) = -d := wrap64 (by omega)
    have c1 := call549 (pu := true) (H := H) (a := d) (b := -d)
    rw [szI_max] at c1
    simp [c606, k606, w1, c1]
  have h6 := c606 (b - a) (by omega)
  have w1 : IntKind.wrap .i64 (b - a) = b - a := wrap64 (by omega)
  by_cases h : b < a
  · have hz : szI (b - a) = a - b := by unfold szI; rw [if_pos (by omega)]; omega
    rw [hz] at h6
    have k := mulB (a := a - b) (A := 48) ⟨by omega, by omega⟩ hw
    have w2 := wr6 (p := (a - b) * w) (by omega)
    have w3 := wr6 (p := (a - b) * w + 500) (by omega)
    have d1 : ((a - b) * w + 500).tdiv 1000 = ((a - b) * w + 500) / 1000 := Int.tdiv_eq_ediv_of_nonneg (by omega)
    have w4 := wr6 (p := ((a - b) * w + 500) / 1000) (by omega)
    have w5 : IntKind.wrap .i64 (a - ((a - b) * w + 500) / 1000) = a - ((a - b) * w + 500) / 1000 := wrap64 (by omega)
    simp [c577, k577, w1, h6, w2, w3, d1, w4, h, w5, btw]
  · have hz : szI (b - a) = b - a := by unfold szI; rw [if_neg (by omega)]
    rw [hz] at h6
    have k := mulB (a := b - a) (A := 48) ⟨by omega, by omega⟩ hw
    have w2 := wr6 (p := (b - a) * w) (by omega)
    have w3 := wr6 (p := (b - a) * w + 500) (by omega)
    have d1 : ((b - a) * w + 500).tdiv 1000 = ((b - a) * w + 500) / 1000 := Int.tdiv_eq_ediv_of_nonneg (by omega)
    have w4 := wr6 (p := ((b - a) * w + 500) / 1000) (by omega)
    have w5 : IntKind.wrap .i64 (a + ((b - a) * w + 500) / 1000) = a + ((b - a) * w + 500) / 1000 := wrap64 (by omega)
    simp [c577, k577, w1, h6, w2, w3, d1, w4, h, w5, btw]
theorem call580 {pu : Bool} {H : Heap} {a b w : Int} (ha : -24 ≤ a ∧ a ≤ 24) (hb : -24 ≤ b ∧ b ≤ 24) (hw : 0 ≤ w ∧ w ≤ 1000) : Call tab pu 580 [.int .i64 a, .int .i64 b, .int .i64 w] H = some (.int .i64 (btw a b w), H) := by
  refine Call_wp t580 (.inr rfl) rfl ?_
  by_cases h : b < a
  · have k := mulB (a := a - b) (A := 48) ⟨by omega, by omega⟩ hw
    have w1 := wr6 (p := a - b) (by omega)
    have w2 := wr6 (p := (a - b) * w) (by omega)
    have w3 := wr6 (p := (a - b) * w + 500) (by omega)
    have d1 : ((a - b) * w + 500).tdiv 1000 = ((a - b) * w + 500) / 1000 := Int.tdiv_eq_ediv_of_nonneg (by omega)
    have w4 := wr6 (p := ((a - b) * w + 500) / 1000) (by omega)
    have w5 : IntKind.wrap .i64 (a - ((a - b) * w + 500) / 1000) = a - ((a - b) * w + 500) / 1000 := wrap64 (by omega)
    simp [c580, k580, h, w1, w2, w3, d1, w4, w5, btw]
  · have k := mulB (a := b - a) (A := 48) ⟨by omega, by omega⟩ hw
    have w1 := wr6 (p := b - a) (by omega)
    have w2 := wr6 (p := (b - a) * w) (by omega)
    have w3 := wr6 (p := (b - a) * w + 500) (by omega)
    have d1 : ((b - a) * w + 500).tdiv 1000 = ((b - a) * w + 500) / 1000 := Int.tdiv_eq_ediv_of_nonneg (by omega)
    have w4 := wr6 (p := ((b - a) * w + 500) / 1000) (by omega)
    have w5 : IntKind.wrap .i64 (a + ((b - a) * w + 500) / 1000) = a + ((b - a) * w + 500) / 1000 := wrap64 (by omega)
    simp [c580, k580, h, w1, w2, w3, d1, w4, w5, btw]
/-- How many keys lie at or before a tick. -/
def ckK (ks : List Ky) (t : Int) (k : Nat) : Nat := itN (fun i c => if c = i ∧ (ky ks i).1 ≤ t then i + 1 else c) 0 k
theorem ckK_prop {ks : List Ky} {t : Int} {k : Nat} : ckK ks t k ≤ k ∧ (∀ j, j < ckK ks t k → (ky ks j).1 ≤ t) ∧ (ckK ks t k < k → t < (ky ks (ckK ks t k)).1) := by
  induction k with
  | zero =>
    have : ckK ks t 0 = 0 := itN_zero
    rw [this]
    exact ⟨Nat.le_refl _, fun j hj => by omega, fun h => by omega⟩
  | succ k ih =>
    obtain ⟨h1, h2, h3⟩ := ih
    have hs : ckK ks t (k + 1) = if ckK ks t k = k ∧ (ky ks k).1 ≤ t then k + 1 else ckK ks t k := itN_succ
    rw [hs]
    split
    · rename_i hc
      refine ⟨Nat.le_refl _, fun j hj => ?_, fun h => by omega⟩
      by_cases hjk : j < k
      · exact h2 j (by omega)
      · rw [show j = k by omega]; exact hc.2
    · rename_i hc
      refine ⟨by omega, h2, fun h => ?_⟩
      by_cases hk : ckK ks t k < k
      · exact h3 hk
      · have : ckK ks t k = k := by omega
        rw [this]
        have : ¬ (ky ks k).1 ≤ t := fun z => hc ⟨‹_›, z⟩
        omega
structure TkV (ks : List Ky) : Prop where
  n1 : 1 ≤ ks.length
  n20 : ks.length ≤ 20
  r : ∀ i, i < ks.length → (0 ≤ (ky ks i).1 ∧ (ky ks i).1 ≤ 200) ∧ (-24 ≤ (ky ks i).2.1 ∧ (ky ks i).2.1 ≤ 24) ∧ -24 ≤ (ky ks i).2.2 ∧ (ky ks i).2.2 ≤ 24
  s : ∀ i, i + 1 < ks.length → (ky ks i).1 < (ky ks (i + 1)).1
theorem okTk_V {ks : List Ky} (h : okTk ks = true) : TkV ks := by
  simp only [okTk, Bool.and_eq_true] at h
  obtain ⟨h1, h2⟩ := h
  have hl : 1 ≤ ks.length ∧ ks.length ≤ 20 := by simp [in1] at h2; omega
  refine ⟨hl.1, hl.2, fun i hi => ?_, fun i hi => ?_⟩
  · have := allN_get (p := kyB ks) h1 hi
    simp only [kyB, Bool.and_eq_true, in1, decide_eq_true_eq] at this
    exact ⟨this.1.1.1, this.1.1.2, this.1.2⟩
  · have := allN_get (p := kyB ks) h1 hi
    simp only [kyB, Bool.and_eq_true, in1, decide_eq_true_eq, Bool.or_eq_true] at this
    rcases this.2 with h | h
    · omega
    · exact h
def plW (ks : List Ky) (e t : Int) (c : Nat) : Int := shV e (t - (ky ks (c - 1)).1) ((ky ks c).1 - (ky ks (c - 1)).1)
def plc (ks : List Ky) (e t : Int) : Int × Int :=
  if ckK ks t ks.length = 0 then ((ky ks 0).2.1, (ky ks 0).2.2) else if ckK ks t ks.length = ks.length then ((ky ks (ks.length - 1)).2.1, (ky ks (ks.length - 1)).2.2)
  else (btw (ky ks (ckK ks t ks.length - 1)).2.1 (ky ks (ckK ks t ks.length)).2.1 (plW ks e t (ckK ks t ks.length)), btw (ky ks (ckK ks t ks.length - 1)).2.2 (ky ks (ckK ks t ks.length)).2.2 (plW ks e t (ckK ks t ks.length)))
theorem plc_ok {ks : List Ky} {e t : Int} (V : TkV ks) : (-100 ≤ (plc ks e t).1 ∧ (plc ks e t).1 ≤ 100) ∧ -100 ≤ (plc ks e t).2 ∧ (plc ks e t).2 ≤ 100 := by
  have n1 := V.n1
  obtain ⟨c1, c2, c3⟩ := ckK_prop (ks := ks) (t := t) (k := ks.length)
  unfold plc
  generalize ckK ks t ks.length = c at *
  split
  · have := V.r 0 (by omega)
    simp only []
    omega
  · split
    · have := V.r (ks.length - 1) (by omega)
      simp only []
      omega
    · have a1 := V.r (c - 1) (by omega)
      have a2 := V.r c (by omega)
      have a3 := V.s (c - 1) (by omega)
      rw [show c - 1 + 1 = c by omega] at a3
      have a4 := c2 (c - 1) (by omega)
      have a5 := c3 (by omega)
      have hw := shV_ok (e := e) (a := t - (ky ks (c - 1)).1) (s := (ky ks c).1 - (ky ks (c - 1)).1) (by omega) (by omega) (by omega)
      have h1 := btw_ok a1.2.1 a2.2.1 hw
      have h2 := btw_ok a1.2.2 a2.2.2 hw
      exact ⟨h1, h2⟩
theorem call543 {pu : Bool} {H : Heap} {y : Value} {ks : List Ky} {e t : Int} (h : SlR H y 3 ks.length (kysC ks)) (V : TkV ks) (he : 0 ≤ e ∧ e ≤ 3) (ht : 0 ≤ t ∧ t ≤ 200) :
    Call tab pu 543 [y, .int .i64 e, .int .i64 t] H = some (tup [.int .i64 (plc ks e t).1, .int .i64 (plc ks e t).2], H) := by
  refine Call_wp t543 (.inr rfl) rfl ?_
  have n1 := V.n1
  have n20 := V.n20
  obtain ⟨c1, c2, c3⟩ := ckK_prop (ks := ks) (t := t) (k := ks.length)
  have hpl : plc ks e t = plc ks e t := rfl
  unfold plc at hpl ⊢
  clear hpl
  generalize ckK ks t ks.length = c at *
  simp [c543, k543]
  refine WK_loop (fun i e' G => e' 0 = y ∧ e' 1 = .int .i64 e ∧ e' 2 = .int .i64 t ∧ e' 8 = .int .i64 i ∧ H = G) c ?_ (Nat.zero_le _) ⟨by simp, by simp, by simp, by simp, rfl⟩
  rintro i e' _ _ hi ⟨h0, h1, h2, h8, rfl⟩
  by_cases hic : i < c
  · obtain ⟨q, off, ver, ha, _, r0, _, _⟩ := Kr.at h (j := i) (by omega)
    obtain ⟨b1, _⟩ := V.r i (by omega)
    have w1 : IntKind.wrap .i64 (ky ks i).1 = (ky ks i).1 := wrap64 (by omega)
    have hle := c2 i hic
    have hlt : (i : Int) < ks.length := by omega
    have e9 : IntKind.wrap .i64 ((i : Int) + 1) = ((i + 1 : Nat) : Int) := by rw [wrap64 (by omega)]; omega
    simp [b543_1, h0, h1, h2, h8, SlR.lenV h, hlt, ha, r0, w1, hle, e9, -Int.natCast_add]
    exact hic
  · obtain rfl : i = c := by omega
    by_cases hic0 : i = 0
    · subst hic0
      obtain ⟨q, off, ver, ha, hr, r0, _, _⟩ := Kr.at h (j := 0) (by omega)
      obtain ⟨b1, b2, b3⟩ := V.r 0 (by omega)
      have w1 : IntKind.wrap .i64 (ky ks 0).1 = (ky ks 0).1 := wrap64 (by omega)
      have w2 : IntKind.wrap .i64 (ky ks 0).2.1 = (ky ks 0).2.1 := wrap64 (by omega)
      have w3 : IntKind.wrap .i64 (ky ks 0).2.2 = (ky ks 0).2.2 := wrap64 (by omega)
      have hnle : ¬ (ky ks 0).1 ≤ t := by have := c3 (by omega); omega
      have hlt : (0 : Int) < ks.length := by omega
      have hlt' : 0 < ks.length := by omega
      simp at h8 ha
      simp only [kyC] at hr
      simp [b543_1, h0, h1, h2, h8, SlR.lenV h, hlt', ha, r0, w1, hnle, hr, stc3, ldc3b, ldc3c, w2, w3, skip]
    · obtain ⟨m, rfl⟩ : ∃ m, i = m + 1 := ⟨i - 1, by omega⟩
      obtain ⟨q, off, ver, ha, hr, r0, _, _⟩ := Kr.at h (j := m) (by omega)
      obtain ⟨b1, b2, b3⟩ := V.r m (by omega)
      have w2 : IntKind.wrap .i64 (ky ks m).2.1 = (ky ks m).2.1 := wrap64 (by omega)
      have w3 : IntKind.wrap .i64 (ky ks m).2.2 = (ky ks m).2.2 := wrap64 (by omega)
      have w1 : IntKind.wrap .i64 (ky ks m).1 = (ky ks m).1 := wrap64 (by omega)
      have e5 : IntKind.wrap .i64 (((m + 1 : Nat) : Int) - 1) = (m : Int) := by rw [wrap64 (by omega)]; omega
      have z1 : (((m + 1 : Nat) : Int) == 0) = false := by rw [beq_eq_false_iff_ne]; omega
      have hm1 : m + 1 ≠ 0 := by omega
      simp only [kyC] at hr
      by_cases hn : m + 1 = ks.length
      · have hnl : ¬ (((m + 1 : Nat) : Int) < ks.length) := by omega
        have z2 : (((m + 1 : Nat) : Int) == ks.length) = true := by rw [beq_iff_eq]; omega
        have hmx : (if (m : Int) > 0 then (m : Int) else 0) = (m : Int) := by split <;> omega
        have hkl : ks.length - 1 = m := by omega
        have hnl2 : ¬ (m + 1 < ks.length) := by omega
        have hmx2 : (if 0 < m then (m : Int) else 0) = (m : Int) := by split <;> omega
        rw [if_neg hm1, if_pos hn, hkl]
        clear hn hkl hnl2
        simp [b543_1, h0, h1, h2, h8, SlR.lenV h, hnl, z1, z2, e5, hmx, hmx2, ha, hr, stc3, ldc3b, ldc3c, w2, w3, skip, -Int.natCast_add]
      · have hlt : ((m + 1 : Nat) : Int) < ks.length := by omega
        have z2 : (((m + 1 : Nat) : Int) == ks.length) = false := by rw [beq_eq_false_iff_ne]; omega
        obtain ⟨q', off', ver', ha', hr', r0', _, _⟩ := Kr.at h (j := m + 1) (by omega)
        obtain ⟨b1', b2', b3'⟩ := V.r (m + 1) (by omega)
        have w1' : IntKind.wrap .i64 (ky ks (m + 1)).1 = (ky ks (m + 1)).1 := wrap64 (by omega)
        have w2' : IntKind.wrap .i64 (ky ks (m + 1)).2.1 = (ky ks (m + 1)).2.1 := wrap64 (by omega)
        have w3' : IntKind.wrap .i64 (ky ks (m + 1)).2.2 = (ky ks (m + 1)).2.2 := wrap64 (by omega)
        have a3 := V.s m (by omega)
        have a4 := c2 m (by omega)
        have a5 := c3 (by omega)
        have hnle : ¬ (ky ks (m + 1)).1 ≤ t := by omega
        have w4 : IntKind.wrap .i64 (t - (ky ks m).1) = t - (ky ks m).1 := wrap64 (by omega)
        have w5 : IntKind.wrap .i16 ((ky ks (m + 1)).1 - (ky ks m).1) = (ky ks (m + 1)).1 - (ky ks m).1 := wrap16 (by omega)
        have w6 : IntKind.wrap .i64 ((ky ks (m + 1)).1 - (ky ks m).1) = (ky ks (m + 1)).1 - (ky ks m).1 := wrap64 (by omega)
        have hw := shV_ok (e := e) (a := t - (ky ks m).1) (s := (ky ks (m + 1)).1 - (ky ks m).1) (by omega) (by omega) (by omega)
        have k1 := call579 (pu := true) (H := H) (e := e) (a := t - (ky ks m).1) (s := (ky ks (m + 1)).1 - (ky ks m).1) he (by omega) (by omega) (by omega) (by omega)
        have k2 := call580 (pu := true) (H := H) b2 b2' hw
        have k3 := call580 (pu := true) (H := H) b3 b3' hw
        rw [if_neg hm1, if_neg hn]
        simp only [plW, show m + 1 - 1 = m from rfl]
        simp only [kyC] at hr'
        simp [b543_1, h0, h1, h2, h8, SlR.lenV h, hlt, ha', r0', w1', hnle, z1, z2, e5, ha, hr, hr', stc3, ldc3a, ldc3b, ldc3c, w1, w2, w3, w2', w3', w4, w5, w6, k1, k2, k3, -Int.natCast_add]
theorem call538 {pu : Bool} {H : Heap} {y : Value} {ks : List Ky} {e t : Int} (h : SlR H y 3 ks.length (kysC ks)) (V : TkV ks) (he : 0 ≤ e ∧ e ≤ 3) (ht : 0 ≤ t ∧ t ≤ 200) :
    Call tab pu 538 [y, .int .i64 e, .int .i64 t] H = some (tup [.int .i64 (plc ks e t).1, .int .i64 (plc ks e t).2], H) := by
  refine Call_wp t538 (.inr rfl) rfl ?_
  have n1 := V.n1
  have n20 := V.n20
  obtain ⟨c1, c2, c3⟩ := ckK_prop (ks := ks) (t := t) (k := ks.length)
  unfold plc
  generalize ckK ks t ks.length = c at *
  simp [c538, k538]
  refine WK_loop (fun i e' G => e' 0 = y ∧ e' 1 = .int .i64 e ∧ e' 2 = .int .i64 t ∧ e' 8 = .int .i64 i ∧ H = G) (c - 1) ?_ (Nat.zero_le _) ⟨by simp, by simp, by simp, by simp, rfl⟩
  rintro i e' _ _ hi ⟨h0, h1, h2, h8, rfl⟩
  have e9 : IntKind.wrap .i64 ((i : Int) + 1) = ((i + 1 : Nat) : Int) := by rw [wrap64 (by omega)]; omega
  obtain ⟨q, off, ver, ha, _, r0, r1, r2⟩ := Kr.at h (j := i) (by omega)
  obtain ⟨b1, b2, b3⟩ := V.r i (by omega)
  have w1 : IntKind.wrap .i64 (ky ks i).1 = (ky ks i).1 := wrap64 (by omega)
  have w2 : IntKind.wrap .i64 (ky ks i).2.1 = (ky ks i).2.1 := wrap64 (by omega)
  have w3 : IntKind.wrap .i64 (ky ks i).2.2 = (ky ks i).2.2 := wrap64 (by omega)
  by_cases hic : i < c - 1
  · obtain ⟨q', off', ver', ha', _, r0', _, _⟩ := Kr.at h (j := i + 1) (by omega)
    obtain ⟨b1', _⟩ := V.r (i + 1) (by omega)
    have w1' : IntKind.wrap .i64 (ky ks (i + 1)).1 = (ky ks (i + 1)).1 := wrap64 (by omega)
    have hle := c2 (i + 1) (by omega)
    have hlt : ((i + 1 : Nat) : Int) < ks.length := by omega
    simp [b538_1, h0, h1, h2, h8, e9, SlR.lenV h, hlt, ha', r0', w1', hle, -Int.natCast_add]
    exact hic
  · obtain rfl : i = c - 1 := by omega
    by_cases hn : c - 1 + 1 = ks.length
    · have hnl : ¬ (((c - 1 + 1 : Nat) : Int) < ks.length) := by omega
      have z2 : (((c - 1 + 1 : Nat) : Int) == ks.length) = true := by rw [beq_iff_eq]; omega
      have hval : (if c = 0 then ((ky ks 0).2.1, (ky ks 0).2.2) else if c = ks.length then ((ky ks (ks.length - 1)).2.1, (ky ks (ks.length - 1)).2.2) else (btw (ky ks (c - 1)).2.1 (ky ks c).2.1 (plW ks e t c), btw (ky ks (c - 1)).2.2 (ky ks c).2.2 (plW ks e t c))) = ((ky ks (c - 1)).2.1, (ky ks (c - 1)).2.2) := by
        by_cases hc0 : c = 0
        · rw [if_pos hc0, hc0]
        · have hcn : c = ks.length := by omega
          rw [if_neg hc0, if_pos hcn, ← hcn]
      rw [hval]
      simp [b538_1, h0, h1, h2, h8, e9, SlR.lenV h, hnl, z2, ha, r1, r2, w2, w3, skip, -Int.natCast_add]
    · have hlt : ((c - 1 + 1 : Nat) : Int) < ks.length := by omega
      have z2 : (((c - 1 + 1 : Nat) : Int) == ks.length) = false := by rw [beq_eq_false_iff_ne]; omega
      obtain ⟨q', off', ver', ha', _, r0', r1', r2'⟩ := Kr.at h (j := c - 1 + 1) (by omega)
      obtain ⟨b1', b2', b3'⟩ := V.r (c - 1 + 1) (by omega)
      have w1' : IntKind.wrap .i64 (ky ks (c - 1 + 1)).1 = (ky ks (c - 1 + 1)).1 := wrap64 (by omega)
      have w2' : IntKind.wrap .i64 (ky ks (c - 1 + 1)).2.1 = (ky ks (c - 1 + 1)).2.1 := wrap64 (by omega)
      have w3' : IntKind.wrap .i64 (ky ks (c - 1 + 1)).2.2 = (ky ks (c - 1 + 1)).2.2 := wrap64 (by omega)
      have a3 := V.s (c - 1) (by omega)
      have hnle : ¬ (ky ks (c - 1 + 1)).1 ≤ t := by
        by_cases hc0 : c = 0
        · subst hc0
          have := c3 (by omega)
          simp only [show (0 : Nat) - 1 = 0 from rfl] at a3 ⊢
          omega
        · have := c3 (by omega)
          rw [show c - 1 + 1 = c by omega]; omega
      by_cases hle : t ≤ (ky ks (c - 1)).1
      · have hval : (if c = 0 then ((ky ks 0).2.1, (ky ks 0).2.2) else if c = ks.length then ((ky ks (ks.length - 1)).2.1, (ky ks (ks.length - 1)).2.2) else (btw (ky ks (c - 1)).2.1 (ky ks c).2.1 (plW ks e t c), btw (ky ks (c - 1)).2.2 (ky ks c).2.2 (plW ks e t c))) = ((ky ks (c - 1)).2.1, (ky ks (c - 1)).2.2) := by
          by_cases hc0 : c = 0
          · rw [if_pos hc0, hc0]
          · have a4 := c2 (c - 1) (by omega)
            have e1 : t - (ky ks (c - 1)).1 = 0 := by omega
            rw [show c - 1 + 1 = c by omega] at a3
            have : plW ks e t c = 0 := by unfold plW; rw [e1]; exact shV_zero (by omega)
            rw [if_neg hc0, if_neg (by omega), this, btw_zero, btw_zero]
        rw [hval]
        simp [b538_1, h0, h1, h2, h8, e9, SlR.lenV h, hlt, ha', r0', w1', hnle, z2, ha, r0, r1, r2, w1, w2, w3, hle, -Int.natCast_add]
      · have hc0 : c ≠ 0 := fun hc => by
          subst hc
          have := c3 (by omega)
          simp only [show (0 : Nat) - 1 = 0 from rfl] at hle
          omega
        have hcc : c - 1 + 1 = c := by omega
        have hval : (if c = 0 then ((ky ks 0).2.1, (ky ks 0).2.2) else if c = ks.length then ((ky ks (ks.length - 1)).2.1, (ky ks (ks.length - 1)).2.2) else (btw (ky ks (c - 1)).2.1 (ky ks c).2.1 (plW ks e t c), btw (ky ks (c - 1)).2.2 (ky ks c).2.2 (plW ks e t c))) = (btw (ky ks (c - 1)).2.1 (ky ks (c - 1 + 1)).2.1 (shV e (t - (ky ks (c - 1)).1) ((ky ks (c - 1 + 1)).1 - (ky ks (c - 1)).1)), btw (ky ks (c - 1)).2.2 (ky ks (c - 1 + 1)).2.2 (shV e (t - (ky ks (c - 1)).1) ((ky ks (c - 1 + 1)).1 - (ky ks (c - 1)).1))) := by
          rw [if_neg hc0, if_neg (by omega), hcc]; rfl
        rw [hval]
        have w4 : IntKind.wrap .i64 (t - (ky ks (c - 1)).1) = t - (ky ks (c - 1)).1 := wrap64 (by omega)
        have w6 : IntKind.wrap .i64 ((ky ks (c - 1 + 1)).1 - (ky ks (c - 1)).1) = (ky ks (c - 1 + 1)).1 - (ky ks (c - 1)).1 := wrap64 (by omega)
        have hw := shV_ok (e := e) (a := t - (ky ks (c - 1)).1) (s := (ky ks (c - 1 + 1)).1 - (ky ks (c - 1)).1) (by omega) (by omega) (by omega)
        have k1 := call576 (pu := true) (H := H) (e := e) (a := t - (ky ks (c - 1)).1) (s := (ky ks (c - 1 + 1)).1 - (ky ks (c - 1)).1) he (by omega) (by omega) (by omega) (by omega)
        have k2 := call577 (pu := true) (H := H) b2 b2' hw
        have k3 := call577 (pu := true) (H := H) b3 b3' hw
        simp [b538_1, h0, h1, h2, h8, e9, SlR.lenV h, hlt, ha', r0', r1', r2', w1', w2', w3', hnle, z2, ha, r0, r1, r2, w1, w2, w3, hle, w4, w6, k1, k2, k3, -Int.natCast_add]
def ptFr (s : Pt) (t : Int) : List Int := shF s.f (plc s.ks s.e t).1 (plc s.ks s.e t).2
theorem ptFr_W {s : Pt} {t : Int} : FrW (ptFr s t) := dotsF_W
theorem ptFr_ok {s : Pt} {t : Int} : okF (ptFr s t) = true := dotsF_ok
theorem okPt_V {s : Pt} (h : okPt s = true) : okF s.f = true ∧ TkV s.ks ∧ 0 ≤ s.e ∧ s.e ≤ 3 := by
  simp only [okPt, Bool.and_eq_true] at h
  have := h.2
  simp [in1] at this
  exact ⟨h.1.1, okTk_V h.1.2, this⟩
theorem PtW.fr {s : Pt} (h : PtW s) : FrW s.f := ⟨s.len, h.ok⟩
theorem call427 {pu : Bool} {H : Heap} {s : Pt} {y : Value} {t : Int} (hy : Kr H y s) (hw : PtW s) (hk : okPt s = true) (ht : 0 ≤ t ∧ t ≤ 200) : Call tab pu 427 [agg (ptC s y), .int .i64 t] H = some (iv .u16 (ptFr s t), H) := by
  refine Call_wp t427 (.inr rfl) rfl ?_
  obtain ⟨h1, V, he⟩ := okPt_V hk
  have hl := s.len
  have w1 : IntKind.wrap .i64 s.e = s.e := wrap64 (by omega)
  have c1 := call543 (pu := true) hy V he ht
  obtain ⟨p1, p2⟩ := plc_ok (e := s.e) (t := t) V
  have c2 := call358 (pu := true) (H := H) (dx := (plc s.ks s.e t).1) (dy := (plc s.ks s.e t).2) hw.fr h1 (by omega) (by omega)
  have e1 : shF s.f (plc s.ks s.e t).1 (plc s.ks s.e t).2 = ptFr s t := rfl
  rw [e1] at c2
  have s3 := stc_zr (k := .u16) (n := 12) (l := ptFr s t) ptFr_W.len
  simp [c427, k427, ptC, ldP0 hl, ldP12 hl, ldP13 hl, w1, c1, c2, zs_cs, agg_cs, s3, ptFr_W.len]
theorem call423 {pu : Bool} {H : Heap} {q off ver : Nat} {s : Pt} {y : Value} {t : Int} (hr : PtR H q off ver s y) (hw : PtW s) (hk : okPt s = true) (ht : 0 ≤ t ∧ t ≤ 200) : Call tab pu 423 [adr q off ver, .int .i64 t] H = some (iv .u16 (ptFr s t), H) := by
  refine Call_wp t423 (.inr rfl) rfl ?_
  obtain ⟨h1, V, he⟩ := okPt_V hk
  have w1 : IntKind.wrap .i64 s.e = s.e := wrap64 (by omega)
  have c1 := call538 (pu := true) hr.rk V he ht
  obtain ⟨p1, p2⟩ := plc_ok (e := s.e) (t := t) V
  have c2 := call355 (pu := true) (H := H) (dx := (plc s.ks s.e t).1) (dy := (plc s.ks s.e t).2) hw.fr hr.rf (by omega) (by omega)
  have e1 : shF s.f (plc s.ks s.e t).1 (plc s.ks s.e t).2 = ptFr s t := rfl
  rw [e1] at c2
  have s3 := stc_zr (k := .u16) (n := 12) (l := ptFr s t) ptFr_W.len
  simp [c423, k423, hr.re, hr.ry, w1, c1, c2, zs_cs, agg_cs, s3, ptFr_W.len]
/-- The frame of parts at a tick. -/
def prF (l : List Pt) (t : Int) (k : Nat) : List Int := itN (fun i a => mixF orI a (ptFr (at0 l i) t)) (zr 12 0) k
theorem prF_zero {l : List Pt} {t : Int} : prF l t 0 = zr 12 0 := itN_zero
theorem prF_succ {l : List Pt} {t : Int} {k : Nat} : prF l t (k + 1) = mixF orI (prF l t k) (ptFr (at0 l k) t) := itN_succ
end Fb
