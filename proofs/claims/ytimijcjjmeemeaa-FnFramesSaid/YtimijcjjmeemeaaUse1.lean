/- What each function computes. -/
import Derived.Test.YtimijcjjmeemeaaUse0
set_option linter.unusedVariables false
set_option linter.unusedSimpArgs false
namespace Fb
open Go
theorem shU_zero {f : List Int} {dx dy : Int} : shU f dx dy 0 = zr 12 0 :=
  (tabN_of (by simp) fun i _ => by rw [nth_zr]; simp).symm
theorem shU_all {f : List Int} {dx dy : Int} : shU f dx dy 12 = shF f dx dy :=
  (tabN_of (by rw [shF, dotsF_length]) fun i hi => by rw [if_pos hi]; rfl).symm
theorem shU_length {f : List Int} {dx dy : Int} {k : Nat} : (shU f dx dy k).length = 12 := tabN_length
theorem shU_set {f : List Int} {dx dy : Int} {k : Nat} (hk : k < 12) {v : Int} (hv : mvR f dx dy k = v) : (shU f dx dy k).set k v = shU f dx dy (k + 1) :=
  tabN_set hk (by rw [if_pos (by omega), hv]) fun i _ hi => by
    by_cases h : i < k
    · rw [if_pos h, if_pos (by omega)]
    · rw [if_neg h, if_neg (by omega)]
theorem shU_skip {f : List Int} {dx dy : Int} {k : Nat} (hk : k < 12) (h0 : mvR f dx dy k = 0) : shU f dx dy k = shU f dx dy (k + 1) :=
  tabN_ext fun i _ => by
    by_cases h : i < k
    · rw [if_pos h, if_pos (by omega)]
    · by_cases h2 : i = k
      · subst h2; rw [if_neg h, if_pos (by omega), h0]
      · rw [if_neg h, if_neg (by omega)]
theorem shF_length {f : List Int} {dx dy : Int} : (shF f dx dy).length = 12 := dotsF_length
theorem call358 {pu : Bool} {H : Heap} {f : List Int} {dx dy : Int} (hw : FrW f) (hk : okF f = true) (hx : -1000 ≤ dx ∧ dx ≤ 1000) (hy : -1000 ≤ dy ∧ dy ≤ 1000) : Call tab pu 358 [iv .u16 f, .int .i64 dx, .int .i64 dy] H = some (iv .u16 (shF f dx dy), H) := by
  refine Call_wp t358 (.inr rfl) rfl ?_
  have hl := hw.len
  have hz := stc_zr (k := .u16) (n := 12) (l := zr 12 0) (by simp)
  have hz2 := stc_zr (k := .u16) (n := 12) (l := shF f dx dy) shF_length
  cases hb : in1 dx (-12) 12 with
  | false =>
    have hf : shF f dx dy = zr 12 0 := shF_far (by simpa [in1] using hb)
    simp [c358, k358, zs_cs, agg_cs, fill, hz, in295, hb, hf]
  | true =>
    have hb' : -12 ≤ dx ∧ dx ≤ 12 := by simpa [in1] using hb
    simp [c358, k358, zs_cs, agg_cs, fill, hz, in295, hb]
    refine WP_forH 15 12 12 rfl (by omega) (fun i e => e 1 = .int .i64 dx ∧ e 2 = .int .i64 dy ∧ e 3 = iv .u16 f ∧ e 6 = iv .u16 (zr 12 0) ∧ e 7 = iv .u16 (shU f dx dy i)) ?_ ?_ (by simp) (by simp [shU_zero])
    · rintro y e hy12 hyy e4 h15 ⟨h1, h2, h3, h6, h7⟩
      have u1 : IntKind.wrap .i64 ((y : Int) - dy) = (y : Int) - dy := wrap64 (by omega)
      cases hs : in1 ((y : Int) - dy) 0 11 with
      | false =>
        have h0 := mvR_off (f := f) (dx := dx) (dy := dy) hy12 (by simp only [in1, decide_eq_false_iff_not] at hs; omega)
        have hsk := shU_skip hy12 h0
        simp [b358_1, h15, h1, h2, h3, h6, h7, hyy, u1, in295, hs, e4, hsk]
      | true =>
        have hs' : 0 ≤ (y : Int) - dy ∧ (y : Int) - dy < 12 := by simp only [in1, decide_eq_true_eq] at hs; omega
        obtain ⟨m, hm⟩ : ∃ m : Nat, (y : Int) - dy = m := ⟨((y : Int) - dy).toNat, by omega⟩
        have hm12 : m < 12 := by omega
        obtain ⟨n, hn, hn4⟩ := okF_row hk hw hm12
        have hn' : nth f ((y : Int) - dy).toNat = n := by rw [hm]; exact hn
        rw [hm] at hs u1
        have hlu := shU_length (f := f) (dx := dx) (dy := dy) (k := y)
        by_cases hd : 0 ≤ dx
        · obtain ⟨d, rfl⟩ := Int.eq_ofNat_of_zero_le hd
          have hd12 : d ≤ 12 := by omega
          have hv := mvR_shl (f := f) (d := d) (dy := dy) hy12 hs' hn'
          have hst := shU_set hy12 hv
          have q1 := shl_nat (n := n) hd12
          have q2 := and_4095 (n := n * 2 ^ d % 65536) (by omega)
          rw [Nat.mod_mod_of_dvd _ (by decide)] at q2
          have e9 := stc_at (k := .u16) (l := shU f d dy y) (by omega) hst
          simp (disch := omega) [b358_1, h15, h1, h2, h3, h6, h7, hyy, u1, hm, in295, hs, hm12, hl, hn, q1, q2, hy12, hlu, e9, e4, -Int.natCast_emod, -Int.natCast_mul, -Int.natCast_pow]
        · obtain ⟨d, rfl⟩ : ∃ d : Nat, dx = -(d : Int) := ⟨(-dx).toNat, by omega⟩
          have hd12 : d ≤ 12 := by omega
          have hv := mvR_shr (f := f) (d := d) (dy := dy) hy12 hs' hn' hn4
          have hst := shU_set hy12 hv
          have q1 := shr_nat (n := n) hd12
          have e9 := stc_at (k := .u16) (l := shU f (-(d : Int)) dy y) (by omega) hst
          have u2 : IntKind.wrap .i64 (d : Int) = (d : Int) := wrap64 (by omega)
          have hd0 : ¬ d = 0 := by omega
          simp (disch := omega) [b358_1, h15, h1, h2, h3, h6, h7, hyy, u1, hm, in295, hs, hm12, hl, hn, hd0, q1, u2, hy12, hlu, e9, e4, -Int.natCast_ediv, -Int.natCast_pow]
    · rintro e h15 ⟨h1, h2, h3, h6, h7⟩
      rw [shU_all] at h7
      simp [b358_1, h15, h6, h7, hz2, shF_length, agg_cs]
theorem put_off {G : Heap} {b : Nat} {x y : Int} (h : okP x y = false) : Call tab false 305 [adr b 0 0, .int .i64 x, .int .i64 y] G = some (tup [], G) := by
  refine Call_wp t305 (.inl rfl) rfl ?_
  simp [c305, k305, placeS, h]
theorem mv1_in {dx dy : Int} {x y u v : Nat} {s : List Int} (hx : x < 12) (e1 : (x : Int) + dx = u) (e2 : (y : Int) + dy = v) (hu : u < 12) (hv : v < 12) : mv1 dx dy (y * 12 + x) s = putF s u v := by
  have m1 : (y * 12 + x) % 12 = x := by omega
  have m2 : (y * 12 + x) / 12 = y := by omega
  rw [mv1, m1, m2, e1, e2, if_pos (by omega)]; rfl
theorem mv1_out {dx dy : Int} {x y : Nat} {s : List Int} (hx : x < 12) (h : okP ((x : Int) + dx) ((y : Int) + dy) = false) : mv1 dx dy (y * 12 + x) s = s := by
  have m1 : (y * 12 + x) % 12 = x := by omega
  have m2 : (y * 12 + x) / 12 = y := by omega
  rw [mv1, m1, m2, if_neg]
  intro h2
  have : okP ((x : Int) + dx) ((y : Int) + dy) = true := by simp [okP]; omega
  rw [this] at h; cases h
theorem mvS_length {dx dy : Int} {L : List Nat} : (mvS dx dy L).length = 12 := by rw [mvS_dots, dotsF_length]
theorem call355 {pu : Bool} {H : Heap} {q off ver : Nat} {f : List Int} {dx dy : Int} (hw : FrW f) (hr : rd H q off ver 12 = some (cs .u16 f)) (hx : -1000 ≤ dx ∧ dx ≤ 1000) (hy : -1000 ≤ dy ∧ dy ≤ 1000) :
    Call tab pu 355 [adr q off ver, .int .i64 dx, .int .i64 dy] H = some (iv .u16 (shF f dx dy), H) := by
  refine Call_wp t355 (.inr rfl) rfl ?_
  have hl := hw.len
  have hz := stc_zr (k := .u16) (n := 12) (l := shF f dx dy) shF_length
  have hle := dotL_len (f := f) (k := 144)
  obtain ⟨G0, hG0⟩ : ∃ G0, G0 = H ++ [⟨cs .u16 (zr 12 0), 1, 0, false⟩] := ⟨_, rfl⟩
  have hP0 : Pre H G0 := by rw [hG0]; exact Pre.one
  have hlen0 : G0.length = H.length + 1 := by rw [hG0]; simp
  have hc := call440 (pu := true) hw (hP0.rd hr)
  have hwr : wr H.length false (H ++ [⟨cs .u16 (zr 12 0), 1, 0, false⟩]) H.length 0 0 (cs .u16 (zr 12 0)) = some G0 := by
    rw [wr_at get_last rfl rfl (by simp [may]) (by simp), hG0]
    simp [splice]
  simp [c355, k355, zs_cs, agg_cs, fill, rep, hwr, wbOf, hc]
  refine WP_count 9 (dotL f 144).length _ rfl (fun j e G => e 1 = .int .i64 dx ∧ e 2 = .int .i64 dy ∧ e 6 = iv .u16 (zr 12 0) ∧ e 7 = adr H.length 0 0 ∧ e 8 = slc G0.length 0 0 (dotL f 144).length (dotL f 144).length ∧
    G = H ++ [⟨cs .u16 (mvS dx dy ((dotL f 144).take j)), 1, 0, false⟩, ⟨dotC f 144, 2, 0, false⟩]) (by omega) ?_ ?_ (by simp) ⟨by simp, by simp, by simp, by simp, by simp, by rw [hG0]; simp; rfl⟩
  · rintro j e _ _ hj hjj e4 h9 ⟨h1, h2, h6, h7, h8, rfl⟩
    obtain ⟨y, x, hp, hy12, hx12, hni, htk⟩ := dotL_at hj
    obtain ⟨F, hF⟩ : ∃ F, F = mvS dx dy ((dotL f 144).take j) := ⟨_, rfl⟩
    have hFl : F.length = 12 := by rw [hF, mvS_length]
    have hF1 : mvS dx dy ((dotL f 144).take (j + 1)) = mv1 dx dy (y * 12 + x) F := by rw [htk, mvS_snoc, hF]
    rw [hF1, ← hF]
    obtain ⟨G, hG⟩ : ∃ G, G = H ++ [⟨cs .u16 F, 1, 0, false⟩, ⟨dotC f 144, 2, 0, false⟩] := ⟨_, rfl⟩
    have hGG : G = H ++ [⟨cs .u16 F, 1, 0, false⟩] ++ [⟨dotC f 144, 2, 0, false⟩] := by rw [hG]; simp
    have pG : G[G0.length]? = some ⟨dotC f 144, 2, 0, false⟩ := by
      rw [hGG, hlen0]
      have := get_last (H := H ++ [⟨cs .u16 F, 1, 0, false⟩]) (b := ⟨dotC f 144, 2, 0, false⟩)
      rw [List.length_append] at this
      exact this
    have pF : G[H.length]? = some ⟨cs .u16 F, 1, 0, false⟩ := by
      rw [hGG, List.getElem?_append_left (by simp)]; exact get_last
    have hcl : (dotC f 144).length = (dotL f 144).length * 2 := by rw [dotC, mvsC_length]; simp
    have hs0 : SlR G (slc G0.length 0 0 (dotL f 144).length (dotL f 144).length) 2 (dotL f 144).length (dotC f 144) := ⟨hcl, .inr ⟨_, 0, 0, _, rfl, Nat.le_refl _, by rw [rd_at pG rfl (by simp [hcl])]; simp [take_all (Nat.le_of_eq hcl)], _, pG, rfl, rfl⟩⟩
    obtain ⟨b, o, v, ha, hr2⟩ := hs0.get1 hj
    have hel : elem (dotC f 144) 2 j = mvC ((x : Int), (y : Int)) := by
      rw [dotC, mvsC_elem (by simpa using hj), mv_map hj, hp, dotM_yx hx12]
    rw [hel] at hr2
    have d0 := rd_part hr2 (o := 0) (m := 1) (by omega)
    have d1 := rd_part hr2 (o := 1) (m := 1) (by omega)
    simp [mvC] at d0 d1
    have w1 : IntKind.wrap .i64 (x : Int) = x := wrap64 (by omega)
    have w2 : IntKind.wrap .i64 (y : Int) = y := wrap64 (by omega)
    have c1 : IntKind.wrap .i64 ((x : Int) + dx) = (x : Int) + dx := wrap64 (by omega)
    have c2 : IntKind.wrap .i64 ((y : Int) + dy) = (y : Int) + dy := wrap64 (by omega)
    rw [← hG]
    cases ho : okP ((x : Int) + dx) ((y : Int) + dy) with
    | false =>
      have hpo := put_off (G := G) (b := H.length) ho
      rw [mv1_out hx12 ho]
      simp [b355_1, h9, h1, h2, h6, h7, h8, hjj, ha, d0, d1, w1, w2, c1, c2, hpo, wbOf, e4, ← hG]
    | true =>
      obtain ⟨u, v, eu, ev, hu, hv⟩ := okP_get ho
      have hput := call305 (x := u) (y := v) pF hFl hu hv
      rw [mv1_in hx12 eu ev hu hv]
      have hset : G.set H.length ⟨cs .u16 (putF F u v), 1, 0, false⟩ = H ++ [⟨cs .u16 (putF F u v), 1, 0, false⟩, ⟨dotC f 144, 2, 0, false⟩] := by
        rw [hGG, List.set_append_left _ _ (by simp), set_last]; simp
      rw [hset] at hput
      rw [eu] at c1
      rw [ev] at c2
      have hel2 : elder H.length false G (tup [], H ++ [⟨cs .u16 (putF F u v), 1, 0, false⟩, ⟨dotC f 144, 2, 0, false⟩]) = some (tup [], H ++ [⟨cs .u16 (putF F u v), 1, 0, false⟩, ⟨dotC f 144, 2, 0, false⟩]) := elder_same (by rw [hG]; simp)
      simp [b355_1, h9, h1, h2, h6, h7, h8, hjj, ha, d0, d1, w1, w2, eu, ev, c1, c2, hput, hel2, wbOf, e4]
  · rintro e _ _ h9 ⟨h1, h2, h6, h7, h8, rfl⟩
    have hrd : rd (H ++ [⟨cs .u16 (mvS dx dy ((dotL f 144).take (dotL f 144).length)), 1, 0, false⟩, ⟨dotC f 144, 2, 0, false⟩]) H.length 0 0 12 = some (cs .u16 (shF f dx dy)) := by
      rw [List.take_length, mvS_all]
      have := rd_app (L := [⟨dotC f 144, 2, 0, false⟩]) (rd_last (H := H) (b := ⟨cs .u16 (shF f dx dy), 1, 0, false⟩) (n := 12) rfl (by simp [shF_length]))
      simpa using this
    rw [List.take_length] at hrd
    simp [b355_1, h9, h6, h7, h8, hrd, hz, shF_length, agg_cs]
theorem rowB_get {s : Sted} {j : Nat} (h : rowB s j = true) : ∃ y : Nat, (rw' s j).1 = y ∧ y < 12 ∧ u16' (rw' s j).2 ∧ okRow (rw' s j).2 = true := by
  simp only [rowB, Bool.and_eq_true, in1, decide_eq_true_eq] at h
  refine ⟨(rw' s j).1.toNat, by omega, by omega, ?_, ?_⟩
  · simp only [u16']; omega
  · simp only [okRow, decide_eq_true_eq]; omega
theorem okSt_rows {s : Sted} {i : Nat} (h : okSt s i = true) : rowsB s = true := by
  simp only [okSt, Bool.and_eq_true] at h; exact h.1
def chgL (f g : List Int) (k : Nat) : List (Int × Int) := itN (fun y v => if (nth f y != nth g y) = true then v ++ [((y : Int), xorI (nth f y) (nth g y))] else v) [] k
/-- A list that has grown, or is none yet. -/
def GrN (H G : Heap) (x : Value) (esz n : Nat) (vs : List Value) : Prop := Gr H G x esz n vs ∨ (x = .slice none 0 0 ∧ n = 0 ∧ vs = [] ∧ Pre H G)
theorem GrN.pre {H G : Heap} {x : Value} {esz n : Nat} {vs : List Value} (g : GrN H G x esz n vs) : Pre H G := by
  rcases g with g | ⟨_, _, _, p⟩
  · exact g.pre
  · exact p
theorem GrN.sl {H G : Heap} {x : Value} {esz n : Nat} {vs : List Value} (g : GrN H G x esz n vs) : SlR G x esz n vs := by
  rcases g with g | ⟨rfl, rfl, rfl, _⟩
  · exact g.sl
  · exact ⟨by simp, .inl ⟨rfl, rfl⟩⟩
theorem GrN.old {H G : Heap} {x : Value} {esz n : Nat} {vs : List Value} (g : GrN H G x esz n vs) : x = .slice none 0 0 ∨ old0 H.length x = false := by
  rcases g with ⟨b, ver, rfl, _, h, _⟩ | ⟨rfl, _⟩
  · right; rw [old0_slc]; simp; omega
  · exact .inl rfl
/-- The better of a step and a slide. -/
def stepB (f g : List Int) (base : Int) (s : Sted) (dx dy : Int) : Sted :=
  if (dx == 0 && dy == 0) = true then s else if 4 + 3 * ((chgL (shF f dx dy) g 12).length : Int) < stCost s then ⟨2, base, dx, dy, chgL (shF f dx dy) g 12⟩ else s
def inB (f g : List Int) (base dx : Int) (s : Sted) (k : Nat) : Sted := itN (fun j s => stepB f g base s dx ((j : Int) - 12)) s k
def outB (f g : List Int) (base : Int) (k : Nat) : Sted := itN (fun i s => inB f g base ((i : Int) - 12) s 25) ⟨1, base, 0, 0, chgL f g 12⟩ k
/-- A step in a block of its own. -/
structure StO (H G : Heap) (P : Nat) (s : Sted) (y : Value) : Prop where
  pre : Pre H G
  ge : H.length ≤ P
  blk : G[P]? = some ⟨stC s y, 1, 0, false⟩
  row : ∃ b, y = slc b 0 0 s.rows.length s.rows.length ∧ H.length ≤ b ∧ b ≠ P ∧ G[b]? = some ⟨chsC s.rows, 2, 0, false⟩
theorem StO.rd {H G : Heap} {P : Nat} {s : Sted} {y : Value} (h : StO H G P s y) : rd G P 0 0 5 = some (stC s y) := by
  rw [rd_at h.blk rfl (by simp [stC])]; rfl
theorem StO.app {H G G' : Heap} {P : Nat} {s : Sted} {y : Value} (p : Pre G G') (h : StO H G P s y) : StO H G' P s y := by
  refine ⟨h.pre.trans p, h.ge, by rw [p.get (List.getElem?_eq_some_iff.1 h.blk).1]; exact h.blk, ?_⟩
  obtain ⟨b, e, h1, h2, h3⟩ := h.row
  exact ⟨b, e, h1, h2, by rw [p.get (List.getElem?_eq_some_iff.1 h3).1]; exact h3⟩
theorem GrN.app {H G G' : Heap} {x : Value} {esz n : Nat} {vs : List Value} (g : GrN H G x esz n vs) (p : Pre G G') : GrN H G' x esz n vs := by
  rcases g with g | ⟨e1, e2, e3, q⟩
  · obtain ⟨L, rfl⟩ := p
    exact .inl g.app
  · exact .inr ⟨e1, e2, e3, q.trans p⟩
/-- The better of a step and the cheapest step from a page. -/
def pickB (b : List (List Int)) (k : Nat) (p : Nat → Bool) (j : Nat) (s : Sted) : Sted :=
  if p j = true then if stCost (outB (fr b j) (fr b k) j 25) < stCost s then outB (fr b j) (fr b k) j 25 else s else s
def bestS (b : List (List Int)) (k : Nat) (p : Nat → Bool) (i : Nat) : Sted := itN (fun j s => pickB b k p j s) ⟨0, 0, 0, 0, chgL (zr 12 0) (fr b k) 12⟩ i
structure StP (H G : Heap) (P : Nat) (s : Sted) (y : Value) : Prop where
  ge : H.length ≤ P
  blk : G[P]? = some ⟨stC s y, 1, 0, false⟩
  row : GrN H G y 2 s.rows.length (chsC s.rows)
theorem StP.rd {H G : Heap} {P : Nat} {s : Sted} {y : Value} (h : StP H G P s y) : rd G P 0 0 5 = some (stC s y) := by
  rw [rd_at h.blk rfl (by simp [stC])]; rfl
theorem StP.app {H G G' : Heap} {P : Nat} {s : Sted} {y : Value} (p : Pre G G') (h : StP H G P s y) : StP H G' P s y :=
  ⟨h.ge, by rw [p.get (List.getElem?_eq_some_iff.1 h.blk).1]; exact h.blk, h.row.app p⟩
theorem GrN.set {H G : Heap} {y : Value} {n P : Nat} {vs : List Value} {k k' : Blk} (g : GrN H G y 2 n vs) (ge : H.length ≤ P) (hP : G[P]? = some k) (hk : k.esz = 1) : GrN H (G.set P k') y 2 n vs := by
  rcases g with ⟨b, ver, e1, e2, e3, e4, q⟩ | ⟨e1, e2, e3, q⟩
  · have hne : P ≠ b := by
      rintro rfl
      rw [hP] at e2
      cases e2
      cases hk
    exact .inl ⟨b, ver, e1, by rw [List.getElem?_set_ne hne]; exact e2, e3, e4, q.set ge⟩
  · exact .inr ⟨e1, e2, e3, q.set ge⟩
/-- A list of steps that grows: the rows stand in blocks of their own. -/
def GrS (H G : Heap) (x : Value) (l : List Sted) : Prop := ∃ b ver vs, x = slc b 0 ver l.length l.length ∧ G[b]? = some ⟨vs, 5, ver, false⟩ ∧ H.length ≤ b ∧ vs.length = l.length * 5 ∧ Pre H G ∧
  ∀ i, i < l.length → ∃ y, elem vs 5 i = stC (at0 l i) y ∧ GrN H G y 2 (at0 l i).rows.length (chsC (at0 l i).rows)
theorem GrN.put {H G : Heap} {y : Value} {n P : Nat} {vs : List Value} {k k' : Blk} (g : GrN H G y 2 n vs) (ge : H.length ≤ P) (hP : G[P]? = some k) (hk : k.esz ≠ 2) : GrN H (G.set P k') y 2 n vs := by
  rcases g with ⟨b, ver, e1, e2, e3, e4, q⟩ | ⟨e1, e2, e3, q⟩
  · have hne : P ≠ b := by
      rintro rfl
      rw [hP] at e2
      cases e2
      exact hk rfl
    exact .inl ⟨b, ver, e1, by rw [List.getElem?_set_ne hne]; exact e2, e3, e4, q.set ge⟩
  · exact .inr ⟨e1, e2, e3, q.set ge⟩
theorem GrS.new {H G : Heap} (p : Pre H G) : GrS H (G ++ [⟨[], 5, 0, false⟩]) (slc G.length 0 0 0 0) [] := ⟨_, _, _, rfl, get_last, p.len, by simp, p.app, fun i hi => by simp at hi⟩
theorem GrS.pre {H G : Heap} {x : Value} {l : List Sted} (g : GrS H G x l) : Pre H G := by obtain ⟨_, _, _, _, _, _, _, p, _⟩ := g; exact p
/-- The steps and the depths, page by page. -/
def encP (b : List (List Int)) (lim : Int) (i : Nat) : List Sted × List Int :=
  itN (fun i q => let s := bestS b i (fun j => !decide (lim ≤ nth q.2 j)) i; (q.1 ++ [s], q.2 ++ [depV s q.2])) ([], []) i
/-- Only blocks of one kind have changed. -/
def KeepE (e : Nat) (G G' : Heap) : Prop := ∀ (b : Nat) (k : Blk), G[b]? = some k → k.esz ≠ e → G'[b]? = some k
theorem KeepE.pre {e : Nat} {G G' : Heap} (p : Pre G G') : KeepE e G G' := fun b k h _ => by rw [p.get (List.getElem?_eq_some_iff.1 h).1]; exact h
theorem KeepE.trans {e : Nat} {A B C : Heap} (h : KeepE e A B) (h' : KeepE e B C) : KeepE e A C := fun b k q n => h' b k (h b k q n) n
theorem GrN.keep {e : Nat} {H G G' : Heap} {y : Value} {n : Nat} {vs : List Value} (g : GrN H G y 2 n vs) (k : KeepE e G G') (he : e ≠ 2) (p : Pre H G') : GrN H G' y 2 n vs := by
  rcases g with ⟨b, ver, e1, e2, e3, e4, _⟩ | ⟨e1, e2, e3, _⟩
  · exact .inl ⟨b, ver, e1, k _ _ e2 (by simp only []; omega), e3, e4, p⟩
  · exact .inr ⟨e1, e2, e3, p⟩
theorem GrS.keep {e : Nat} {H G G' : Heap} {x : Value} {l : List Sted} (g : GrS H G x l) (k : KeepE e G G') (he : e ≠ 2) (he5 : e ≠ 5) (p : Pre H G') : GrS H G' x l := by
  obtain ⟨b, ver, vs, e1, h1, h2, h3, _, h5⟩ := g
  refine ⟨b, ver, vs, e1, k _ _ h1 (by simp only []; omega), h2, h3, p, fun i hi => ?_⟩
  obtain ⟨y, e2, e3⟩ := h5 i hi
  exact ⟨y, e2, e3.keep k he p⟩
theorem Gr.keep {e esz : Nat} {H G G' : Heap} {x : Value} {n : Nat} {vs : List Value} (g : Gr H G x esz n vs) (k : KeepE e G G') (he : e ≠ esz) (p : Pre H G') : Gr H G' x esz n vs := by
  obtain ⟨b, ver, e1, h1, h2, h3, _⟩ := g
  exact ⟨b, ver, e1, k _ _ h1 (by simp only []; omega), h2, h3, p⟩
@[simp] theorem blkOf_adr {b o v : Nat} : blkOf (adr b o v) = some b := rfl
@[simp] theorem blkOf_slc {b o v n c : Nat} : blkOf (slc b o v n c) = some b := rfl
@[simp] theorem blkOf_nil {n c : Nat} : blkOf (.slice none n c) = none := rfl
/-- Cells of records of five, the last of which leads to rows of its own. -/
structure RawD (n0 : Nat) (G : Heap) (b ver n : Nat) (ys : Nat → Value) (β : Nat → Option Nat) (hd : Nat → List Value) (m : Nat → Nat) (rc : Nat → List Value) : Prop where
  lo : n0 ≤ b
  out : ∃ vs, G[b]? = some ⟨vs, 5, ver, false⟩ ∧ vs.length = n * 5 ∧ ∀ i, i < n → elem vs 5 i = hd i ++ [ys i]
  hl : ∀ i, i < n → (hd i).length = 4
  row : ∀ i, i < n → Own G (ys i) (β i) n0 2 (m i) (rc i)
  dis : ∀ i j q, i < n → j < n → β i = some q → β j = some q → i = j
theorem RawD.lt {n0 b ver n : Nat} {G : Heap} {ys : Nat → Value} {β : Nat → Option Nat} {hd rc : Nat → List Value} {m : Nat → Nat} (h : RawD n0 G b ver n ys β hd m rc) : b < G.length := by
  obtain ⟨vs, hg, _⟩ := h.out
  exact (List.getElem?_eq_some_iff.1 hg).1
theorem RawD.ne {n0 b ver n : Nat} {G : Heap} {ys : Nat → Value} {β : Nat → Option Nat} {hd rc : Nat → List Value} {m : Nat → Nat} (h : RawD n0 G b ver n ys β hd m rc) {i q : Nat} (hi : i < n) (hq : β i = some q) : q ≠ b := by
  rintro rfl
  obtain ⟨vs, hg, _⟩ := h.out
  obtain ⟨_, h2⟩ := h.row i hi
  rw [hq] at h2
  obtain ⟨_, ver', cap, rest, _, _, hg'⟩ := h2
  rw [hg] at hg'
  cases hg'
/-- What keeps the blocks keeps the list. -/
theorem RawD.keep {n0 b ver n : Nat} {G G' : Heap} {ys : Nat → Value} {β : Nat → Option Nat} {hd rc : Nat → List Value} {m : Nat → Nat} (h : RawD n0 G b ver n ys β hd m rc)
    (k : ∀ (b' : Nat) (k : Blk), G[b']? = some k → k.esz ≠ 1 → G'[b']? = some k) : RawD n0 G' b ver n ys β hd m rc := by
  refine ⟨h.lo, ?_, h.hl, fun i hi => ?_, h.dis⟩
  · obtain ⟨vs, hg, h2⟩ := h.out
    exact ⟨vs, k _ _ hg (by simp), h2⟩
  · obtain ⟨h1, h2⟩ := h.row i hi
    refine ⟨h1, ?_⟩
    cases hb : β i with
    | none => rw [hb] at h2; exact h2
    | some q =>
      rw [hb] at h2
      obtain ⟨hb, ver', cap, rest, e1, hc, hg⟩ := h2
      exact ⟨hb, ver', cap, rest, e1, hc, k _ _ hg (by simp)⟩
theorem RawD.pre {n0 b ver n : Nat} {G G' : Heap} {ys : Nat → Value} {β : Nat → Option Nat} {hd rc : Nat → List Value} {m : Nat → Nat} (p : Pre G G') (h : RawD n0 G b ver n ys β hd m rc) : RawD n0 G' b ver n ys β hd m rc :=
  h.keep fun b' k hk _ => by rw [p.get (List.getElem?_eq_some_iff.1 hk).1]; exact hk
theorem RawD.rows {n0 b ver n : Nat} {G G' : Heap} {ys : Nat → Value} {β : Nat → Option Nat} {hd rc : Nat → List Value} {m : Nat → Nat} (h : RawD n0 G b ver n ys β hd m rc) {i : Nat} {c : List Value} (hi : i < n) (s : SameB G G' (β i)) (ho : Own G' (ys i) (β i) n0 2 (m i) c) :
    RawD n0 G' b ver n ys β hd m (fun j => if j = i then c else rc j) := by
  refine ⟨h.lo, ?_, h.hl, fun j hj => ?_, h.dis⟩
  · obtain ⟨vs, hg, h2⟩ := h.out
    refine ⟨vs, ?_, h2⟩
    rw [s.get]
    · exact hg
    · intro hq; exact h.ne hi hq rfl
  · by_cases hji : j = i
    · subst hji; simp only [if_pos rfl]; exact ho
    · simp only [if_neg hji]
      exact (h.row j hj).agree fun q hq => s.get q fun he => hji (h.dis j i q hj hi hq he)
/- Marks. -/
def msH (c : Int) : List Value := [.int .i8 (IntKind.wrap .i8 c), .int .i8 (IntKind.wrap .i8 (c + 1)), .int .i8 (IntKind.wrap .i8 (c + 2)), .int .i8 (IntKind.wrap .i8 (c + 3))]
def mkP (m : Nat → Nat) (i : Nat) : Int := 101 + (mkS m i : Nat)
/-- A list of steps, with rows of its own. -/
def StD (n0 : Nat) (G : Heap) (b ver : Nat) (l : List Sted) : Prop := ∃ ys β, RawD n0 G b ver l.length ys β (fun i => [.int .i8 (at0 l i).a, .int .i8 (at0 l i).b, .int .i8 (at0 l i).c, .int .i8 (at0 l i).d]) (fun i => (at0 l i).rows.length) (fun i => chsC (at0 l i).rows)
theorem StD.new {n0 : Nat} {G : Heap} (h : n0 ≤ G.length) : StD n0 (G ++ [⟨[], 5, 0, false⟩]) G.length 0 [] :=
  ⟨fun _ => U, fun _ => none, h, ⟨_, get_last, rfl, fun i hi => by simp at hi⟩, fun i hi => by simp at hi, fun i hi => by simp at hi, fun i j q hi => by simp at hi⟩
theorem StD.pre {n0 b ver : Nat} {G G' : Heap} {l : List Sted} (p : Pre G G') (h : StD n0 G b ver l) : StD n0 G' b ver l := by
  obtain ⟨ys, β, h⟩ := h; exact ⟨ys, β, h.pre p⟩
theorem StD.lt {n0 b ver : Nat} {G : Heap} {l : List Sted} (h : StD n0 G b ver l) : b < G.length := by
  obtain ⟨ys, β, h⟩ := h; exact h.lt
/-- Steps with rows of their own, or nothing. -/
def StX (n0 : Nat) (G : Heap) (x : Value) (l : List Sted) : Prop := (x = .slice none 0 0 ∧ l = []) ∨ ∃ b ver, x = slc b 0 ver l.length l.length ∧ StD n0 G b ver l
theorem StX.pre {n0 : Nat} {G G' : Heap} {x : Value} {l : List Sted} (p : Pre G G') (h : StX n0 G x l) : StX n0 G' x l := by
  rcases h with h | ⟨b, ver, rfl, h⟩
  · exact .inl h
  · exact .inr ⟨b, ver, rfl, h.pre p⟩
/-- Marks over steps. -/
def MkX (n0 : Nat) (G : Heap) (x : Value) (l : List Sted) : Prop := (x = .slice none 0 0 ∧ l = []) ∨ ∃ b ver ys β, x = slc b 0 ver l.length l.length ∧
  RawD n0 G b ver l.length ys β (fun i => msH (mkP (fun i => (at0 l i).rows.length) i)) (fun i => (at0 l i).rows.length) (fun i => mkL (ms2 (mkP (fun i => (at0 l i).rows.length) i + 4)) ((at0 l i).rows.length * 2))
theorem MkX.pre {n0 : Nat} {G G' : Heap} {x : Value} {l : List Sted} (p : Pre G G') (h : MkX n0 G x l) : MkX n0 G' x l := by
  rcases h with h | ⟨b, ver, ys, β, rfl, h⟩
  · exact .inl h
  · exact .inr ⟨b, ver, ys, β, rfl, h.pre p⟩
theorem mem_at0 {α : Type} [Inhabited α] {l : List α} {a : α} (h : a ∈ l) : ∃ i, i < l.length ∧ at0 l i = a := by
  obtain ⟨i, hi, rfl⟩ := List.getElem_of_mem h
  exact ⟨i, hi, Option.some.inj ((at0_get hi).symm.trans (List.getElem?_eq_getElem hi))⟩
/- Moves, compared by how far they go. -/
def szI (a : Int) : Int := if a < -a then -a else a
def mkey (a : Int × Int) : Int := szI a.1 + szI a.2
abbrev ML := List (Int × Int)
/-- Halves. -/
def hf (i j : Int) : Int := (i + j) / 2
/- The moves up to a size, as both sides order them. -/
def rgI (m : Int) : List Int := (List.range (2 * m + 1).toNat).map fun (i : Nat) => (i : Int) - m
def gridM (m : Int) : ML := (rgI m).flatMap fun a => (rgI m).map fun b => (a, b)
def farM (m : Int) : ML := (List.range (2 * m + 1).toNat).flatMap fun (d : Nat) => (gridM m).filter fun a => decide (mkey a = d)
/-- The list that is being sorted, in its block. -/
def hp (G0 : Heap) (bq ver : Nat) (l : ML) : Heap := G0.set bq ⟨mvsC l, 2, ver, false⟩
theorem fill_two {f g : List Int} (hw : f.length = 12) (hwg : g.length = 12) : fill (rep 2 (cs .u16 (zr 12 0))) [(0, 12, iv .u16 f), (12, 12, iv .u16 g)] = some (bkC [f, g]) := by
  have l1 : (cs .u16 f).length = 12 := by simp [hw]
  have l2 : (cs .u16 g).length = 12 := by simp [hwg]
  have lz : (cs .u16 (zr 12 0)).length = 12 := by simp
  have e0 : rep 2 (cs .u16 (zr 12 0)) = cs .u16 (zr 12 0) ++ cs .u16 (zr 12 0) := by simp [rep]
  rw [e0]
  generalize cs IntKind.u16 (zr 12 0) = Z at *
  show (if (cs .u16 f).length = 12 ∧ 0 + 12 ≤ (Z ++ Z).length then fill (splice (Z ++ Z) 0 (cs .u16 f)) [(12, 12, iv .u16 g)] else none) = _
  rw [if_pos ⟨l1, by simp [lz]⟩]
  have e1 : splice (Z ++ Z) 0 (cs .u16 f) = cs .u16 f ++ Z := by
    unfold splice
    rw [l1, List.take_zero, List.nil_append, List.drop_append_of_le_length (by omega), List.drop_eq_nil_of_le (by omega), List.nil_append]
  rw [e1]
  show (if (cs .u16 g).length = 12 ∧ 12 + 12 ≤ (cs .u16 f ++ Z).length then fill (splice (cs .u16 f ++ Z) 12 (cs .u16 g)) [] else none) = _
  rw [if_pos ⟨l2, by simp [lz, hw]⟩]
  have e2 : splice (cs .u16 f ++ Z) 12 (cs .u16 g) = cs .u16 f ++ cs .u16 g := by
    unfold splice
    rw [l2, List.take_append_of_le_length (by omega), List.take_of_length_le (by omega), List.drop_eq_nil_of_le (by simp [lz, hw]), List.append_nil]
  rw [e2]
  simp [fill, bkC, rowsC, frC]
/-- Two frames in a list of their own, held against the rule. -/
theorem two351 {H : Heap} {f g : List Int} (hw : FrW f) (hwg : FrW g) : Call tab true 351 [slc H.length 0 0 2 2] (H ++ [⟨bkC [f, g], 12, 0, false⟩]) = some (.bool (okF f && okF g), H ++ [⟨bkC [f, g], 12, 0, false⟩]) := by
  have hBW : BkW [f, g] := by
    intro x hx
    rcases List.mem_cons.1 hx with rfl | hx
    · exact hw
    · rcases List.mem_cons.1 hx with rfl | hx
      · exact hwg
      · cases hx
  have hbk : Bk (H ++ [⟨bkC [f, g], 12, 0, false⟩]) (slc H.length 0 0 2 2) [f, g] := (own_new (H := H) (esz := 12) (n := 2) (vs := bkC [f, g]) (by rw [bkC_length hBW]; rfl)).sl
  have hc := call351 (pu := true) hbk hBW (by simp)
  have hok : okFs [f, g] = (okF f && okF g) := by simp [okFs]
  rw [hok] at hc
  exact hc
theorem own_nil {H : Heap} {esz : Nat} : Own H (.slice none 0 0) none H.length esz 0 [] := ⟨by simp, rfl, rfl⟩
theorem SlR.cells {H : Heap} {x : Value} {esz n : Nat} {vs : List Value} (h : SlR H x esz n vs) : cellsOf x = [x] := by
  rcases h.is with ⟨rfl, _⟩ | ⟨b, off, ver, cap, rfl, _⟩ <;> rfl
def cpP (b c : List (List Int)) (a : Int × Int) (p : Nat) : Bool := allN (fun i => decide (fr b (p + i) = shF (fr c i) a.1 a.2)) c.length
/-- Which move is the first one that makes a copy at p. -/
def mcJ (b c : List (List Int)) (m p : Nat) : Int := findN (fun j => cpP b c (mv (farM m) j) p) (farM m).length
def mcS (b c : List (List Int)) (m p : Nat) (s : List Int × ML) : List Int × ML := if 0 ≤ mcJ b c m p then (s.1 ++ [(p : Int)], s.2 ++ [mv (farM m) (mcJ b c m p).toNat]) else s
def mcK (b c : List (List Int)) (m k : Nat) : List Int × ML := itN (mcS b c m) ([], []) k
theorem mcK_zero {b c : List (List Int)} {m : Nat} : mcK b c m 0 = ([], []) := itN_zero
theorem mcK_succ {b c : List (List Int)} {m k : Nat} : mcK b c m (k + 1) = mcS b c m k (mcK b c m k) := itN_succ
theorem mcK_len {b c : List (List Int)} {m k : Nat} : (mcK b c m k).1.length ≤ k ∧ (mcK b c m k).2.length = (mcK b c m k).1.length := by
  induction k with
  | zero => rw [mcK_zero]; simp
  | succ k ih =>
    rw [mcK_succ, mcS]
    split
    · simp [ih.2]; omega
    · exact ⟨by omega, ih.2⟩
def mcC (b c : List (List Int)) (m : Int) : Int := if (okB b && okB c) = true then if (in1 m 0 4 && !((c.length : Int) == 0)) = true then 0 else 2 else 1
/-- How many places there are. -/
def mcN (b c : List (List Int)) : Nat := b.length + 1 - c.length
def mcR (b c : List (List Int)) (m : Int) : List Int × ML := if mcC b c m = 0 then mcK b c m.toNat (mcN b c) else ([], [])
/-- What 352 hands back. -/
def RsM (H : Heap) (r : Value × Heap) (q : List Int × ML) (c : Int) : Prop :=
  (c ≠ 0 ∧ r = (tup [.slice none 0 0, .slice none 0 0, .int .i64 c], H)) ∨
  (c = 0 ∧ r = (tup [slc H.length 0 0 q.1.length q.1.length, slc (H.length + 1) 0 0 q.1.length q.1.length, .int .i64 c], H ++ [⟨cs .i64 q.1, 1, 0, false⟩, ⟨mvsC q.2, 2, 0, false⟩]))
theorem rowsC_drop {α : Type} {f : α → List Value} {esz : Nat} {l : List α} (hf : ∀ a ∈ l, (f a).length = esz) {k : Nat} : (rowsC f l).drop (k * esz) = rowsC f (l.drop k) := by
  induction l generalizing k with
  | nil => simp [rowsC]
  | cons a r ih =>
    cases k with
    | zero => simp
    | succ k =>
      have h1 := hf a (by simp)
      have := ih (k := k) (fun b hb => hf b (by simp [hb]))
      show (f a ++ rowsC f r).drop ((k + 1) * esz) = rowsC f (r.drop k)
      rw [← this, show (k + 1) * esz = (f a).length + k * esz by rw [h1, Nat.succ_mul]; omega, List.drop_length_add_append]
theorem rowsC_take {α : Type} {f : α → List Value} {esz : Nat} {l : List α} (hf : ∀ a ∈ l, (f a).length = esz) {k : Nat} : (rowsC f l).take (k * esz) = rowsC f (l.take k) := by
  induction l generalizing k with
  | nil => simp [rowsC]
  | cons a r ih =>
    cases k with
    | zero => simp [rowsC]
    | succ k =>
      have h1 := hf a (by simp)
      have := ih (k := k) (fun b hb => hf b (by simp [hb]))
      show (f a ++ rowsC f r).take ((k + 1) * esz) = f a ++ rowsC f (r.take k)
      rw [← this, show (k + 1) * esz = (f a).length + k * esz by rw [h1, Nat.succ_mul]; omega, List.take_length_add_append]
theorem frC_len {b : List (List Int)} (hw : BkW b) : ∀ a ∈ b, (frC a).length = 12 := fun a ha => by simp [frC, (hw a ha).len]
/-- A part of a book in memory. -/
theorem Bk.sub {H : Heap} {x : Value} {b : List (List Int)} (h : Bk H x b) (hw : BkW b) {lo n : Nat} (hn : lo + n ≤ b.length) {k k' : IntKind} :
    ∃ y, slcAV H 12 x (some (.int k (lo : Int))) (some (.int k' ((lo + n : Nat) : Int))) none = some y ∧ Bk H y ((b.drop lo).take n) ∧ BkW ((b.drop lo).take n) := by
  obtain ⟨y, h1, h2⟩ := SlR.sub h (lo := lo) (hi := lo + n) (by omega) hn (k := k) (k' := k')
  have hW : BkW ((b.drop lo).take n) := fun f hf => hw f (List.mem_of_mem_drop (List.mem_of_mem_take hf))
  refine ⟨y, h1, ?_, hW⟩
  have e1 : lo + n - lo = n := by omega
  rw [e1] at h2
  have e2 : (bkC b).drop (lo * 12) = bkC (b.drop lo) := rowsC_drop (frC_len hw)
  have e3 : (bkC (b.drop lo)).take (n * 12) = bkC ((b.drop lo).take n) := rowsC_take (frC_len fun f hf => hw f (List.mem_of_mem_drop hf))
  rw [e2, e3] at h2
  have e4 : ((b.drop lo).take n).length = n := by simp; omega
  show SlR H y 12 ((b.drop lo).take n).length (bkC ((b.drop lo).take n))
  rw [e4]; exact h2
/-- Two lists of its own, and a code. -/
def RsD (H : Heap) (r : Value × Heap) (q : List Int × ML) (c : Int) : Prop := ∃ r1 r2 G β1 β2, r = (tup [r1, r2, .int .i64 c], G) ∧ Pre H G ∧ Own G r1 β1 H.length 1 q.1.length (cs .i64 q.1) ∧ Own G r2 β2 H.length 2 q.1.length (mvsC q.2) ∧ ∀ b, β1 = some b → β2 ≠ some b
theorem mcR_len {b c : List (List Int)} {m : Int} : (mcR b c m).2.length = (mcR b c m).1.length := by
  by_cases h : mcC b c m = 0
  · rw [mcR, if_pos h]; exact mcK_len.2
  · rw [mcR, if_neg h]; rfl
theorem two_own {H : Heap} {vs ws : List Value} {e1 e2 n1 n2 : Nat} (h1 : vs.length = n1 * e1) (h2 : ws.length = n2 * e2) :
    Own (H ++ [⟨vs, e1, 0, false⟩, ⟨ws, e2, 0, false⟩]) (slc H.length 0 0 n1 n1) (some H.length) H.length e1 n1 vs ∧ Own (H ++ [⟨vs, e1, 0, false⟩, ⟨ws, e2, 0, false⟩]) (slc (H.length + 1) 0 0 n2 n2) (some (H.length + 1)) H.length e2 n2 ws :=
  ⟨⟨h1, Nat.le_refl _, 0, n1, [], rfl, Nat.le_refl _, by simp⟩, ⟨h2, by omega, 0, n2, [], rfl, Nat.le_refl _, by simp⟩⟩
theorem RsM.d {b c : List (List Int)} {m : Int} {H : Heap} {r : Value × Heap} (h : RsM H r (mcR b c m) (mcC b c m)) : RsD H r (mcR b c m) (mcC b c m) := by
  rcases h with ⟨hc, rfl⟩ | ⟨hc, rfl⟩
  · refine ⟨_, _, H, none, none, rfl, .refl, ?_, ?_, by intro b h; cases h⟩
    · rw [mcR, if_neg hc]; exact own_nil
    · rw [mcR, if_neg hc]; exact own_nil
  · obtain ⟨o1, o2⟩ := two_own (H := H) (vs := cs .i64 (mcR b c m).1) (ws := mvsC (mcR b c m).2) (e1 := 1) (e2 := 2) (n1 := (mcR b c m).1.length) (n2 := (mcR b c m).1.length) (by simp) (by rw [mvsC_length, mcR_len])
    exact ⟨_, _, _, _, _, rfl, ⟨_, rfl⟩, o1, o2, by intro b h; cases h; simp⟩
structure Ly where
  f : List Int
  x : Int
  y : Int
  d : Int
instance : Inhabited Ly := ⟨⟨[], 0, 0, 0⟩⟩
structure LyW (s : Ly) : Prop where
  len : s.f.length = 24
  ok : ∀ n ∈ s.f, u16' n
  x : i8 s.x
  y : i8 s.y
  d : i8 s.d
def lyT (f : List Int) (a b c : Value) : List Value := cs .u16 f ++ [a, b, c]
def lyC (s : Ly) : List Value := lyT s.f (.int .i8 s.x) (.int .i8 s.y) (.int .i8 s.d)
def scC (l : List Ly) : List Value := rowsC lyC l
abbrev ScW (l : List Ly) : Prop := ∀ s ∈ l, LyW s
theorem lyT_len {f : List Int} {a b c : Value} (h : f.length = 24) : (lyT f a b c).length = 27 := by simp [lyT, h]
theorem lyC_len {s : Ly} (h : LyW s) : (lyC s).length = 27 := lyT_len h.len
theorem scC_elem {l : List Ly} (h : ScW l) {i : Nat} (hi : i < l.length) : elem (scC l) 27 i = lyC (at0 l i) := rows_elem (f := lyC) (esz := 27) (fun s hs => lyC_len (h s hs)) hi
theorem lyT_at {f : List Int} {a b c : Value} (h : f.length = 24) {k : Nat} : (lyT f a b c).drop (24 + k) = [a, b, c].drop k := by
  unfold lyT
  rw [show 24 + k = (cs .u16 f).length + k by simp [h], List.drop_length_add_append]
abbrev Sc (H : Heap) (x : Value) (l : List Ly) : Prop := SlR H x 27 l.length (scC l)
def inkL (s : Ly) : List Int := sub s.f 0 12
def mskL (s : Ly) : List Int := sub s.f 12 12
theorem LyW.ink {s : Ly} (h : LyW s) : FrW (inkL s) := ⟨sub_length (by rw [h.len]; omega), fun n hn => h.ok n (sub_mem hn)⟩
theorem LyW.msk {s : Ly} (h : LyW s) : FrW (mskL s) := ⟨sub_length (by rw [h.len]; omega), fun n hn => h.ok n (sub_mem hn)⟩
def okCel (s : Ly) : Bool := (okF (inkL s) && okF (mskL s)) && decide (mixF lessI (inkL s) (mskL s) = zr 12 0)
def okLy (s : Ly) : Bool := ((okCel s && in1 s.x (-12) 12) && in1 s.y (-12) 12) && in1 s.d 0 8
/- The spec's side, in memory. -/
theorem lyC_parts {s : Ly} (h : s.f.length = 24) : ((lyC s).drop 0).take 12 = cs .u16 (inkL s) ∧ ((lyC s).drop 12).take 12 = cs .u16 (mskL s) ∧ ((lyC s).drop 24).take 1 = [.int .i8 s.x] ∧ ((lyC s).drop 25).take 1 = [.int .i8 s.y] ∧ ((lyC s).drop 26).take 1 = [.int .i8 s.d] := by
  refine ⟨?_, ?_, ?_, ?_, ?_⟩
  · unfold lyC lyT inkL
    rw [List.drop_zero, List.take_append_of_le_length (by simp [h]), show (cs .u16 s.f).take 12 = ((cs .u16 s.f).drop 0).take 12 by simp, cs_sub]
  · unfold lyC lyT mskL
    rw [List.drop_append_of_le_length (by simp [h]), List.take_append_of_le_length (by simp [h]), cs_sub]
  · unfold lyC
    rw [show 24 = 24 + 0 from rfl, lyT_at h]; rfl
  · unfold lyC
    rw [show 25 = 24 + 1 from rfl, lyT_at h]; rfl
  · unfold lyC
    rw [show 26 = 24 + 2 from rfl, lyT_at h]; rfl
/-- A layer in memory. -/
structure LyR (H : Heap) (q off ver : Nat) (s : Ly) : Prop where
  ink : rd H q off ver 12 = some (cs .u16 (inkL s))
  msk : rd H q (off + 12) ver 12 = some (cs .u16 (mskL s))
  x : rd H q (off + 24) ver 1 = some [.int .i8 s.x]
  y : rd H q (off + 25) ver 1 = some [.int .i8 s.y]
  d : rd H q (off + 26) ver 1 = some [.int .i8 s.d]
theorem LyR.of {H : Heap} {q off ver : Nat} {s : Ly} (h : rd H q off ver 27 = some (lyC s)) (hf : s.f.length = 24) : LyR H q off ver s := by
  obtain ⟨h1, h2, h3, h4, h5⟩ := lyC_parts hf
  have g1 := rd_part h (o := 0) (m := 12) (by omega)
  rw [h1, Nat.add_zero] at g1
  exact ⟨g1, by rw [rd_part h (by omega), h2], by rw [rd_part h (by omega), h3], by rw [rd_part h (by omega), h4], by rw [rd_part h (by omega), h5]⟩
theorem LyR.pre {H G : Heap} {q off ver : Nat} {s : Ly} (p : Pre H G) (h : LyR H q off ver s) : LyR G q off ver s := ⟨p.rd h.ink, p.rd h.msk, p.rd h.x, p.rd h.y, p.rd h.d⟩
theorem Sc.get {H : Heap} {x : Value} {l : List Ly} (hs : Sc H x l) (hw : ScW l) {i : Nat} (hi : i < l.length) : ∃ q off ver, idxAV 27 x (.int .i64 (i : Int)) = some (adr q off ver) ∧ rd H q off ver 27 = some (lyC (at0 l i)) ∧ LyR H q off ver (at0 l i) := by
  obtain ⟨q, off, ver, h1, h2⟩ := SlR.get1 hs hi
  rw [scC_elem hw hi] at h2
  exact ⟨q, off, ver, h1, h2, LyR.of h2 (hw _ (at0_mem hi)).len⟩
theorem lessI_row {a b : Int} (ha : u16' a) (h1 : okRow a = true) : okRow (lessI a b) = true := by
  obtain ⟨n, rfl⟩ := Int.eq_ofNat_of_zero_le ha.1
  simp [okRow] at h1 ⊢
  have e0 : IntKind.bits .u16 = 16 := rfl
  unfold lessI bitsOf
  simp only []
  have e1 : (BitVec.ofInt (IntKind.bits .u16) (n : Int) &&& ~~~BitVec.ofInt (IntKind.bits .u16) b).toNat ≤ n := by
    rw [BitVec.toNat_and]
    refine Nat.le_trans Nat.and_le_left ?_
    rw [e0, BitVec.ofInt_natCast, BitVec.toNat_ofNat]
    exact Nat.mod_le _ _
  rw [wrapu16 (by omega)]; omega
theorem lessI_ok {a b : Int} : u16' (lessI a b) := by
  have e0 : IntKind.bits .u16 = 16 := rfl
  unfold lessI bitsOf
  simp only []
  have := (BitVec.ofInt (IntKind.bits .u16) a &&& ~~~BitVec.ofInt (IntKind.bits .u16) b).isLt
  rw [e0] at this ⊢
  rw [wrapu16 (by omega)]; omega
theorem join_sub {a b : List Int} (ha : a.length = 12) (hb : b.length = 12) : sub (a ++ b) 0 12 = a ∧ sub (a ++ b) 12 12 = b := by
  constructor
  · unfold sub
    rw [List.drop_zero, List.take_append_of_le_length (by omega), List.take_of_length_le (by omega)]
  · unfold sub
    rw [List.drop_append_of_le_length (by omega), List.drop_eq_nil_of_le (by omega), List.nil_append, List.take_of_length_le (by omega)]
/- Keys. -/
abbrev Ky := Int × Int × Int
def kyC (k : Ky) : List Value := [.int .i16 k.1, .int .i8 k.2.1, .int .i8 k.2.2]
def kysC (l : List Ky) : List Value := rowsC kyC l
theorem kysC_length {l : List Ky} : (kysC l).length = l.length * 3 := rows_length (f := kyC) (esz := 3) fun _ _ => rfl
def kyF : List Value := [.int .i16 (-30101), .int .i8 (-101), .int .i8 (-101)]
/- Parts. -/
structure Pt where
  f : List Int
  e : Int
  ks : List Ky
  len : f.length = 12
instance : Inhabited Pt := ⟨⟨zr 12 0, 0, [], rfl⟩⟩
structure PtW (s : Pt) : Prop where
  ok : ∀ n ∈ s.f, u16' n
  e : i8 s.e
  ks : ∀ k ∈ s.ks, (-32768 ≤ k.1 ∧ k.1 ≤ 32767) ∧ i8 k.2.1 ∧ i8 k.2.2
def ptT (f : List Int) (a b : Value) : List Value := cs .u16 f ++ [a, b]
def ptC (s : Pt) (y : Value) : List Value := ptT s.f (.int .i8 s.e) y
theorem ptT_len {f : List Int} {a b : Value} (h : f.length = 12) : (ptT f a b).length = 14 := by simp [ptT, h]
theorem ptC_len {s : Pt} {y : Value} : (ptC s y).length = 14 := ptT_len s.len
theorem ptT_at {f : List Int} {a b : Value} (h : f.length = 12) {k : Nat} : (ptT f a b).drop (12 + k) = [a, b].drop k := by
  unfold ptT
  rw [show 12 + k = (cs .u16 f).length + k by simp [h], List.drop_length_add_append]
/-- Keys of a part in memory. -/
abbrev Kr (G : Heap) (y : Value) (s : Pt) : Prop := SlR G y 3 s.ks.length (kysC s.ks)
abbrev KrC (G : Heap) (y : Value) (s : Pt) : Prop := IsCp G y 3 s.ks.length (kysC s.ks) kyF
/-- Parts in memory. -/
def PtS (G : Heap) (x : Value) (l : List Pt) : Prop := ∃ vs, SlR G x 14 l.length vs ∧ ∀ i, i < l.length → ∃ y, elem vs 14 i = ptC (at0 l i) y ∧ Kr G y (at0 l i)
theorem PtS.pre {H G : Heap} {x : Value} {l : List Pt} (p : Pre H G) (h : PtS H x l) : PtS G x l := by
  obtain ⟨vs, h1, h2⟩ := h
  exact ⟨vs, h1.pre p, fun i hi => by obtain ⟨y, h3, h4⟩ := h2 i hi; exact ⟨y, h3, h4.pre p⟩⟩
theorem PtS.lenV {G : Heap} {x : Value} {l : List Pt} (h : PtS G x l) : lenV x = some (.int .i64 l.length) := by
  obtain ⟨vs, h1, _⟩ := h; exact h1.lenV
theorem PtS.get {G : Heap} {x : Value} {l : List Pt} (h : PtS G x l) {i : Nat} (hi : i < l.length) : ∃ q off ver y, idxAV 14 x (.int .i64 (i : Int)) = some (adr q off ver) ∧ rd G q off ver 14 = some (ptC (at0 l i) y) ∧ Kr G y (at0 l i) := by
  obtain ⟨vs, h1, h2⟩ := h
  obtain ⟨q, off, ver, h3, h4⟩ := h1.get1 hi
  obtain ⟨y, h5, h6⟩ := h2 i hi
  rw [h5] at h4
  exact ⟨q, off, ver, y, h3, h4, h6⟩
/-- A copy of a part: what stands in the block, whatever stands in that block itself. -/
structure CqI (H G : Heap) (b : Nat) (flag : Bool) (s : Pt) (y : Value) : Prop where
  r : ∀ k, Kr (G.set b k) y s
  n : y = .slice none 0 0 ∨ old0 H.length y = false
  c : flag = false → (∀ k, KrC (G.set b k) y s) ∧ old0 H.length y = false
theorem CqI.set {H G : Heap} {b : Nat} {flag : Bool} {s : Pt} {y : Value} {k : Blk} (h : CqI H G b flag s y) : CqI H (G.set b k) b flag s y := ⟨fun k' => by rw [set_set]; exact h.r k', h.n, fun hf => ⟨fun k' => by rw [set_set]; exact (h.c hf).1 k', (h.c hf).2⟩⟩
theorem CqI.pre {H G G' : Heap} {b : Nat} {flag : Bool} {s : Pt} {y : Value} (h : CqI H G b flag s y) (p : Pre G G') (hb : b < G.length) : CqI H G' b flag s y :=
  ⟨fun k => (h.r k).pre (set_pre p hb), h.n, fun hf => ⟨fun k => ((h.c hf).1 k).pre (set_pre p hb), (h.c hf).2⟩⟩
def ptF : Pt := ⟨bkF, -101, [(-30101, -101, -101)], rfl⟩
/-- Steps copied, with room behind. -/
def CqS (G : Heap) (x : Value) (l : List Pt) : Prop := ∃ b ver vs, x = slc b 0 ver l.length (l.length + roomN l.length) ∧ G[b]? = some ⟨vs, 14, ver, false⟩ ∧ vs.length = (l.length + roomN l.length) * 14 ∧
  (∀ i, i < l.length → ∃ y, elem vs 14 i = ptC (at0 l i) y ∧ KrC G y (at0 l i)) ∧ ∀ i, l.length ≤ i → i < l.length + roomN l.length → ∃ y, elem vs 14 i = ptC ptF y ∧ Kr G y ptF
theorem CqS.sl {G : Heap} {x : Value} {l : List Pt} (h : CqS G x l) : PtS G x l := by
  obtain ⟨b, ver, vs, rfl, hg, hl, h1, h2⟩ := h
  have e1 : l.length * 14 ≤ vs.length := by omega
  refine ⟨vs.take (l.length * 14), ⟨by simp; omega, .inr ⟨b, 0, ver, _, rfl, by omega, by rw [rd_at hg rfl (by simp; omega)]; simp, _, hg, rfl, rfl⟩⟩, fun i hi => ?_⟩
  obtain ⟨y, h3, h4⟩ := h1 i hi
  exact ⟨y, by rw [elem_take hi, h3], h4.sl kysC_length rfl⟩
theorem CqS.pre {H G : Heap} {x : Value} {l : List Pt} (p : Pre H G) (h : CqS H x l) : CqS G x l := by
  obtain ⟨b, ver, vs, rfl, hg, hl, h1, h2⟩ := h
  refine ⟨b, ver, vs, rfl, by rw [p.get (List.getElem?_eq_some_iff.1 hg).1]; exact hg, hl, fun i hi => ?_, fun i hi hi2 => ?_⟩
  · obtain ⟨y, h3, h4⟩ := h1 i hi; exact ⟨y, h3, h4.pre p⟩
  · obtain ⟨y, h3, h4⟩ := h2 i hi hi2; exact ⟨y, h3, h4.pre p⟩
def ky (ks : List Ky) (i : Nat) : Ky := at0 ks i
def kyB (ks : List Ky) (j : Nat) : Bool := ((in1 (ky ks j).1 0 200 && in1 (ky ks j).2.1 (-24) 24) && in1 (ky ks j).2.2 (-24) 24) && (decide (j = 0) || decide ((ky ks (j - 1)).1 < (ky ks j).1))
def okTk (ks : List Ky) : Bool := allN (kyB ks) ks.length && in1 ks.length 1 20
def okPt (s : Pt) : Bool := (okF s.f && okTk s.ks) && in1 s.e 0 3
abbrev KyW (ks : List Ky) : Prop := ∀ k ∈ ks, (-32768 ≤ k.1 ∧ k.1 ≤ 32767) ∧ i8 k.2.1 ∧ i8 k.2.2
/-- A part in memory. -/
structure PtR (H : Heap) (q off ver : Nat) (s : Pt) (y : Value) : Prop where
  rf : rd H q off ver 12 = some (cs .u16 s.f)
  re : rd H q (off + 12) ver 1 = some [.int .i8 s.e]
  ry : rd H q (off + 13) ver 1 = some [y]
  rk : Kr H y s
theorem PtR.of {H : Heap} {q off ver : Nat} {s : Pt} {y : Value} (h : rd H q off ver 14 = some (ptC s y)) (hk : Kr H y s) : PtR H q off ver s y := by
  have hl := s.len
  have g1 := rd_part h (o := 0) (m := 12) (by omega)
  have g2 := rd_part h (o := 12) (m := 1) (by omega)
  have g3 := rd_part h (o := 13) (m := 1) (by omega)
  unfold ptC at g1 g2 g3
  rw [show 12 = 12 + 0 from rfl, ptT_at hl] at g2
  rw [show 13 = 12 + 1 from rfl, ptT_at hl] at g3
  rw [Nat.add_zero, List.drop_zero] at g1
  unfold ptT at g1
  rw [List.take_left' (by simp [hl])] at g1
  exact ⟨g1, g2, g3, hk⟩
theorem PtR.pre {H G : Heap} {q off ver : Nat} {s : Pt} {y : Value} (p : Pre H G) (h : PtR H q off ver s y) : PtR G q off ver s y := ⟨p.rd h.rf, p.rd h.re, p.rd h.ry, SlR.pre p h.rk⟩
structure TkV (ks : List Ky) : Prop where
  n1 : 1 ≤ ks.length
  n20 : ks.length ≤ 20
  r : ∀ i, i < ks.length → (0 ≤ (ky ks i).1 ∧ (ky ks i).1 ≤ 200) ∧ (-24 ≤ (ky ks i).2.1 ∧ (ky ks i).2.1 ≤ 24) ∧ -24 ≤ (ky ks i).2.2 ∧ (ky ks i).2.2 ≤ 24
  s : ∀ i, i + 1 < ks.length → (ky ks i).1 < (ky ks (i + 1)).1
theorem okTk_V {ks : List Ky} (h : okTk ks = true) : TkV ks := by
  simp only [okTk, Bool.and_eq_true] at h
  obtain ⟨h1, h2⟩ := h
  have hl : 1 ≤ ks.length ∧ ks.length ≤ 20 := by simp [in1] at h2; omega
  refine ⟨hl.1, hl.2, fun i hi => ?_, fun i hi => ?_⟩
  · have := allN_get (p := kyB ks) h1 hi
    simp only [kyB, Bool.and_eq_true, in1, decide_eq_true_eq] at this
    exact ⟨this.1.1.1, this.1.1.2, this.1.2⟩
  · have := allN_get (p := kyB ks) h1 hi
    simp only [kyB, Bool.and_eq_true, in1, decide_eq_true_eq, Bool.or_eq_true] at this
    rcases this.2 with h | h
    · omega
    · exact h
theorem PtW.fr {s : Pt} (h : PtW s) : FrW s.f := ⟨s.len, h.ok⟩
/-- A copy of parts while marks are being written over it. -/
structure MkP (G G' : Heap) (b ver lo hi n : Nat) (y : Nat → Value) (m : Nat → Nat) : Prop where
  len : G'.length = G.length
  fr : ∀ j, j < lo ∨ hi ≤ j → G'[j]? = G[j]?
  inb : lo ≤ b ∧ b < hi
  out : ∃ vs, G'[b]? = some ⟨vs, 14, ver, false⟩ ∧ n * 14 ≤ vs.length ∧ ∀ i, i < n → vs[i * 14 + 13]? = some (y i)
  row : ∀ i, i < n → ∃ b' ver' cap' ws, y i = slc b' 0 ver' (m i) cap' ∧ lo ≤ b' ∧ b' < hi ∧ b' ≠ b ∧ G'[b']? = some ⟨ws, 3, ver', false⟩ ∧ m i * 3 ≤ ws.length
theorem MkP.rows {G G' : Heap} {b ver lo hi n : Nat} {y : Nat → Value} {m : Nat → Nat} (h : MkP G G' b ver lo hi n y m) {b' ver' : Nat} {ws ws' : List Value} (hb : lo ≤ b' ∧ b' < hi) (hne : b' ≠ b) (hg : G'[b']? = some ⟨ws, 3, ver', false⟩) (hw : ws'.length = ws.length) :
    MkP G (G'.set b' ⟨ws', 3, ver', false⟩) b ver lo hi n y m := by
  refine ⟨by simp [h.len], fun j hj => ?_, h.inb, ?_, fun i hi => ?_⟩
  · rw [List.getElem?_set_ne (by omega)]
    exact h.fr j hj
  · obtain ⟨vs, h1, h2⟩ := h.out
    exact ⟨vs, by rw [List.getElem?_set_ne hne]; exact h1, h2⟩
  · obtain ⟨b2, ver2, cap2, ws2, h1, h2, h3, h4, h5, h6⟩ := h.row i hi
    by_cases hb2 : b' = b2
    · subst hb2
      rw [hg] at h5
      cases h5
      exact ⟨b', ver', cap2, ws', h1, h2, h3, h4, get_set hg, by rw [hw]; exact h6⟩
    · exact ⟨b2, ver2, cap2, ws2, h1, h2, h3, h4, by rw [List.getElem?_set_ne hb2]; exact h5, h6⟩
theorem cntN_zero : ∀ v, v < 4096 → (cntN v = 0 ↔ v = 0) := by
  have : (List.range 4096).all (fun v => decide (cntN v = 0 ↔ v = 0)) = true := by decide +kernel
  intro v hv
  simpa using List.all_eq_true.1 this v (by simpa using hv)
theorem dotL_zrows {f : List Int} (hw : FrW f) (hk : okF f = true) {j : Nat} (hj : j ≤ 12) : (dotL f (j * 12)).length = 0 ↔ ∀ i, i < j → nth f i = 0 := by
  induction j with
  | zero =>
    rw [Nat.zero_mul, dotL_zero]
    exact ⟨fun _ i hi => by omega, fun _ => rfl⟩
  | succ j ih =>
    have ih := ih (by omega)
    obtain ⟨n, hn, hlt⟩ := okF_row hk hw (y := j) (by omega)
    have h1 := dotL_row (f := f) (y := j) (x := 12) (by omega)
    rw [row_cnt hn] at h1
    have h2 := cntN_zero n hlt
    rw [Nat.succ_mul, h1]
    constructor
    · intro h i hi
      by_cases hij : i < j
      · exact ih.1 (by omega) i hij
      · rw [show i = j by omega, hn]
        have := h2.1 (by omega)
        omega
    · intro h
      have h3 := ih.2 fun i hi => h i (by omega)
      have h4 := h j (by omega)
      have := h2.2 (by omega)
      omega
theorem cntF_zero {f : List Int} (hw : FrW f) (hk : okF f = true) : 0 < cntF f ↔ ¬ ∀ i, i < 12 → nth f i = 0 := by
  have := dotL_zrows hw hk (Nat.le_refl 12)
  rw [← this, show 12 * 12 = 144 from rfl]
  unfold cntF
  omega
theorem Gr.base {H H' G : Heap} {x : Value} {esz n : Nat} {vs : List Value} (g : Gr H' G x esz n vs) (p : Pre H H') : Gr H G x esz n vs := by
  obtain ⟨b, ver, rfl, h1, h2, h3, h4⟩ := g
  exact ⟨b, ver, rfl, h1, Nat.le_trans p.len h2, h3, p.trans h4⟩
theorem PtR.new {H G : Heap} {s : Pt} {y : Value} (h : Kr H y s) (p : Pre (H ++ [⟨ptC s y, 1, 0, false⟩]) G) : PtR G H.length 0 0 s y := by
  have hr : rd (H ++ [(⟨ptC s y, 1, 0, false⟩ : Blk)]) H.length 0 0 14 = some (ptC s y) := rd_last rfl ptC_len
  exact PtR.of (p.rd hr) ((h.pre Pre.one).pre p)
/-- A source: a block of three cells; its bytes are elder. At most k bytes were taken. -/
def srB (x : Value) (i sd : Int) : Blk := ⟨[x, .int .i64 i, .int .u64 sd], 1, 0, false⟩
def Src (G : Heap) (P k : Nat) : Prop := ∃ x bs i sd, G[P]? = some (srB x i sd) ∧ SlR (G.take P) x 1 bs.length (cs .u8 bs) ∧ (∀ b ∈ bs, 0 ≤ b ∧ b ≤ 255) ∧ bs.length ≤ 1000000 ∧ 0 ≤ i ∧ i ≤ k
theorem pre_take {G G' : Heap} {n : Nat} (p : Pre G G') (hn : n ≤ G.length) : G'.take n = G.take n := by
  obtain ⟨L, rfl⟩ := p
  rw [List.take_append_of_le_length hn]
theorem Pre.takes {G : Heap} {n : Nat} : Pre (G.take n) G := ⟨G.drop n, (List.take_append_drop n G).symm⟩
theorem Src.lt {G : Heap} {P k : Nat} (h : Src G P k) : P < G.length := by
  obtain ⟨x, bs, i, sd, h1, _⟩ := h
  exact (List.getElem?_eq_some_iff.1 h1).1
theorem Src.le {G : Heap} {P k k' : Nat} (h : Src G P k) (hk : k ≤ k') : Src G P k' := by
  obtain ⟨x, bs, i, sd, h1, h2, h3, h4, h5, h6⟩ := h
  exact ⟨x, bs, i, sd, h1, h2, h3, h4, h5, by omega⟩
theorem Src.pre {G G' : Heap} {P k : Nat} (p : Pre G G') (h : Src G P k) : Src G' P k := by
  have hl := h.lt
  obtain ⟨x, bs, i, sd, h1, h2, h3⟩ := h
  exact ⟨x, bs, i, sd, by rw [p.get hl]; exact h1, by rw [pre_take p (Nat.le_of_lt hl)]; exact h2, h3⟩
/-- Nothing but the source's block has changed. -/
structure Mv (P : Nat) (G G' : Heap) : Prop where
  len : G'.length = G.length
  get : ∀ j, j ≠ P → G'[j]? = G[j]?
theorem Mv.refl {P : Nat} {G : Heap} : Mv P G G := ⟨rfl, fun _ _ => rfl⟩
theorem Mv.trans {P : Nat} {G G' G'' : Heap} (h : Mv P G G') (h' : Mv P G' G'') : Mv P G G'' := ⟨h'.len.trans h.len, fun j hj => (h'.get j hj).trans (h.get j hj)⟩
theorem Mv.set {P : Nat} {G : Heap} {k : Blk} : Mv P G (G.set P k) := ⟨by simp, fun j hj => List.getElem?_set_ne (Ne.symm hj)⟩
theorem Mv.take {P : Nat} {G G' : Heap} (h : Mv P G G') {n0 : Nat} (hn : n0 ≤ P) : G'.take n0 = G.take n0 := by
  apply List.ext_getElem?
  intro i
  rw [List.getElem?_take, List.getElem?_take]
  split
  · rw [h.get i (by omega)]
  · rfl
theorem Mv.rd {P : Nat} {G G' : Heap} (h : Mv P G G') {b off ver n : Nat} (hb : b ≠ P) : rd G' b off ver n = rd G b off ver n := by
  unfold Fb.rd
  rw [h.get b hb]
theorem Src.mv {P k : Nat} {G G' : Heap} (h : Src G P k) (hP : G'[P]? = G[P]?) (hj : ∀ j, j < P → G'[j]? = G[j]?) : Src G' P k := by
  obtain ⟨x, bs, i, sd, h1, h2, h3⟩ := h
  refine ⟨x, bs, i, sd, by rw [hP]; exact h1, ?_, h3⟩
  have : G'.take P = G.take P := by
    apply List.ext_getElem?
    intro j
    rw [List.getElem?_take, List.getElem?_take]
    split
    · exact hj j ‹_›
    · rfl
  rw [this]; exact h2
theorem Src.take {P k n : Nat} {G : Heap} (h : Src G P k) (hn : P < n) : Src (G.take n) P k :=
  h.mv (by rw [List.getElem?_take, if_pos hn]) fun j hj => by rw [List.getElem?_take, if_pos (by omega)]
theorem nthI_ok {bs : List Int} (h : ∀ b ∈ bs, 0 ≤ b ∧ b ≤ 255) {i : Nat} (hi : i < bs.length) : 0 ≤ nth bs i ∧ nth bs i ≤ 255 := h _ (nth_mem hi)
theorem and255 {x : Int} : 0 ≤ bitsOf .and .u64 x 255 ∧ bitsOf .and .u64 x 255 ≤ 255 := by
  have e0 : IntKind.bits .u64 = 64 := rfl
  unfold bitsOf
  simp only []
  have : (BitVec.ofInt (IntKind.bits .u64) x &&& BitVec.ofInt (IntKind.bits .u64) 255).toNat ≤ 255 := by
    rw [BitVec.toNat_and]
    exact Nat.and_le_right
  rw [wrapu64 (by omega)]; omega
theorem call550 {G : Heap} {P k : Nat} (h : Src G P k) (hk : k ≤ 1000000000000) : ∃ v G', Call tab false 550 [adr P 0 0] G = some (.int .i64 v, G') ∧ 0 ≤ v ∧ v ≤ 255 ∧ Mv P G G' ∧ Src G' P (k + 1) := by
  have key : ∃ r, Call tab false 550 [adr P 0 0] G = some r ∧ ∃ v G', r = (.int .i64 v, G') ∧ 0 ≤ v ∧ v ≤ 255 ∧ Mv P G G' ∧ Src G' P (k + 1) := by
    have hl := h.lt
    obtain ⟨x, bs, i, sd, h1, h2, h3, h4, h5, h6⟩ := h
    have hx : SlR G x 1 bs.length (cs .u8 bs) := h2.pre Pre.takes
    refine Call_ex t550 (.inl rfl) rfl ?_
    have r0 : ∀ i sd, rd (G.set P (srB x i sd)) P 0 0 1 = some [x] := fun i sd => rd_at (ver := 0) (get_set (k' := srB x i sd) h1) rfl (by simp [srB])
    have r1 : ∀ i sd, rd (G.set P (srB x i sd)) P 1 0 1 = some [.int .i64 i] := fun i sd => rd_at (ver := 0) (get_set (k' := srB x i sd) h1) rfl (by simp [srB])
    have r2 : ∀ i sd, rd (G.set P (srB x i sd)) P 2 0 1 = some [.int .u64 sd] := fun i sd => rd_at (ver := 0) (get_set (k' := srB x i sd) h1) rfl (by simp [srB])
    have w1 : ∀ i sd i', wr G.length true (G.set P (srB x i sd)) P 1 0 [.int .i64 i'] = some (G.set P (srB x i' sd)) := fun i sd i' => by
      have := wr_at (n0 := G.length) (wb := true) (off := 1) (vs := [.int .i64 i']) (ver := 0) (get_set (k' := srB x i sd) h1) rfl rfl (by simp [may]) (by simp [srB])
      rw [set_set] at this; exact this
    have w2 : ∀ i sd sd', wr G.length true (G.set P (srB x i sd)) P 2 0 [.int .u64 sd'] = some (G.set P (srB x i sd')) := fun i sd sd' => by
      have := wr_at (n0 := G.length) (wb := true) (off := 2) (vs := [.int .u64 sd']) (ver := 0) (get_set (k' := srB x i sd) h1) rfl rfl (by simp [may]) (by simp [srB])
      rw [set_set] at this; exact this
    have e9 : IntKind.wrap .i64 (i + 1) = i + 1 := wrap64 (by omega)
    have r0' := r0 i sd; have r1' := r1 i sd; have w1' := w1 i sd
    rw [set_self h1] at r0' r1' w1'
    have hS : ∀ sd', Src (G.set P (srB x (i + 1) sd')) P (k + 1) := fun sd' => ⟨x, bs, i + 1, sd', get_set h1, by rw [Mv.set.take (Nat.le_refl P)]; exact h2, h3, h4, by omega, by omega⟩
    obtain ⟨m, rfl⟩ := Int.eq_ofNat_of_zero_le h5
    by_cases hlt : m < bs.length
    · obtain ⟨q, off, ver, ha, hr⟩ := hx.get1 hlt
      rw [elem_i hlt] at hr
      have hb := nthI_ok h3 hlt
      have u1 : IntKind.wrap .i64 (nth bs m) = nth bs m := wrap64 (by omega)
      have hle : (m : Int) + 1 ≤ bs.length := by omega
      simp [c550, k550, r0', r1', hx.lenV, hlt, ha, hr, w1', e9, r0, r1, r2, w2, u1, hle, wbOf]
      exact ⟨_, _, ⟨rfl, rfl⟩, hb.1, hb.2, .set, hS _⟩
    · have hle : ¬ (m : Int) + 1 ≤ bs.length := by omega
      have hlt' : ¬ (m : Int) < bs.length := by omega
      have u2 : ∀ y, IntKind.wrap .i64 (bitsOf .and .u64 y 255) = bitsOf .and .u64 y 255 := fun y => wrap64 (by have := and255 (x := y); omega)
      have u3 : ∀ y, shiftOf .shr .u64 y 40 = some (.int .u64 (y.fdiv (2 ^ 40))) := fun y => rfl
      simp [c550, k550, r0', r1', hx.lenV, hlt, hlt', w1', e9, r0, r1, r2, w2, hle, wbOf, u2, u3]
      exact ⟨_, _, ⟨rfl, rfl⟩, and255.1, and255.2, .set, hS _⟩
  obtain ⟨r, hc, v, G', rfl, h⟩ := key
  exact ⟨v, G', hc, h⟩
theorem call459 {G : Heap} {P k : Nat} {n : Int} (h : Src G P k) (hk : k ≤ 100000000000) (hn : 1 ≤ n ∧ n ≤ 1000000) : ∃ v G', Call tab false 459 [adr P 0 0, .int .i64 n] G = some (.int .i64 v, G') ∧ (0 ≤ v ∧ v < n) ∧ Mv P G G' ∧ Src G' P (k + 2) := by
  have key : ∃ r, Call tab false 459 [adr P 0 0, .int .i64 n] G = some r ∧ ∃ v G', r = (.int .i64 v, G') ∧ (0 ≤ v ∧ v < n) ∧ Mv P G G' ∧ Src G' P (k + 2) := by
    refine Call_ex t459 (.inl rfl) rfl ?_
    by_cases h1 : n ≤ 1
    · simp [c459, k459, h1]
      exact ⟨_, _, ⟨rfl, rfl⟩, ⟨by omega, by omega⟩, .refl, h.le (by omega)⟩
    have hn0 : n ≠ 0 := by omega
    obtain ⟨v, G1, c1, v0, v1, m1, s1⟩ := call550 h (by omega)
    have hmod : ∀ a : Int, 0 ≤ a → a.tmod n = a % n ∧ 0 ≤ a % n ∧ a % n < n := fun a ha => ⟨Int.tmod_eq_emod_of_nonneg ha, Int.emod_nonneg _ hn0, Int.emod_lt_of_pos _ (by omega)⟩
    by_cases h2 : n > 200
    · obtain ⟨w, G2, c2, w0, w1, m2, s2⟩ := call550 s1 (by omega)
      have e1 : IntKind.wrap .i64 (v * 256) = v * 256 := wrap64 (by omega)
      have e2 : IntKind.wrap .i64 (v * 256 + w) = v * 256 + w := wrap64 (by omega)
      obtain ⟨g1, g2, g3⟩ := hmod (v * 256 + w) (by omega)
      have e3 : IntKind.wrap .i64 ((v * 256 + w) % n) = (v * 256 + w) % n := wrap64 (by omega)
      have m := m1.trans m2
      simp [c459, k459, h1, h2, c1, c2, wbOf, e1, e2, hn0, g1, e3]
      exact ⟨_, _, ⟨rfl, rfl⟩, ⟨g2, g3⟩, by rw [List.take_of_length_le (by rw [m.len]; exact Nat.le_refl _)]; exact ⟨m, s2⟩⟩
    · obtain ⟨g1, g2, g3⟩ := hmod v v0
      have e3 : IntKind.wrap .i64 (v % n) = v % n := wrap64 (by omega)
      have h2' : ¬ 200 < n := h2
      simp [c459, k459, h1, h2', c1, wbOf, hn0, g1, e3]
      exact ⟨_, _, ⟨rfl, rfl⟩, ⟨g2, g3⟩, by rw [List.take_of_length_le (by rw [m1.len]; exact Nat.le_refl _)]; exact ⟨m1, s1.le (by omega)⟩⟩
  obtain ⟨r, hc, v, G', rfl, h⟩ := key
  exact ⟨v, G', hc, h⟩
theorem call513 {G : Heap} {P k : Nat} {n : Int} (h : Src G P k) (hk : k ≤ 100000000000) (hn : 1 ≤ n ∧ n ≤ 1000000) : ∃ b G', Call tab false 513 [adr P 0 0, .int .i64 n] G = some (.bool b, G') ∧ Mv P G G' ∧ Src G' P (k + 2) := by
  obtain ⟨v, G', c, _, m, s⟩ := call459 h hk hn
  refine ⟨v == 0, G', Call_wp t513 (.inl rfl) rfl ?_, m, s⟩
  simp [c513, k513, c, wbOf]
  exact List.take_of_length_le (by rw [m.len]; exact Nat.le_refl _)
theorem SlR.old {H : Heap} {x : Value} {esz n : Nat} {vs : List Value} (h : SlR H x esz n vs) : old0 H.length x = true := by
  rcases h.is with ⟨rfl, _⟩ | ⟨b, off, ver, cap, rfl, _, _, k, hk, _⟩
  · rfl
  · rw [old0_slc]
    simpa using (List.getElem?_eq_some_iff.1 hk).1
theorem finish_adr {H G : Heap} {b ver : Nat} {k : Blk} (hp : Pre H G) (hb : H.length ≤ b) (hk : G[b]? = some k) (hv : ver = k.ver) (hr : k.ro = false) (ho : k.cells.all (old0 H.length) = true) :
    finish H.length G [adr b 0 ver] = (adr H.length 0 0, H ++ [{ k with ver := 0 }]) := by
  have h1 : old1 H.length (adr b 0 ver) = false := by
    show (decide (b < H.length)) = false
    simpa using hb
  have : pack H.length G [adr b 0 ver] [] [] = some ([adr H.length 0 0], [{ k with ver := 0 }]) := by
    rw [pack, if_neg (by rw [h1]; decide)]
    show (match G[b]? with
      | some k => if ([] : List Nat).contains b = false ∧ ver = k.ver ∧ k.ro = false ∧ k.cells.all (old0 H.length) = true then _ else none
      | none => none) = _
    rw [hk]
    simp only []
    rw [if_pos ⟨by simp, hv, hr, ho⟩]
    rfl
  rw [finish_some this, hp.take]; rfl
/-- A source anew. -/
theorem call315 {pu : Bool} {H : Heap} {x : Value} {bs : List Int} (hx : SlR H x 1 bs.length (cs .u8 bs)) (hb : ∀ b ∈ bs, 0 ≤ b ∧ b ≤ 255) (hn : bs.length ≤ 1000000) :
    Call tab pu 315 [x] H = some (adr H.length 0 0, H ++ [srB x 0 0]) ∧ Src (H ++ [srB x 0 0]) H.length 0 := by
  constructor
  · refine Call_wp t315 (.inr rfl) rfl ?_
    have hc : cellsOf x = [x] := by
      rcases hx.is with ⟨rfl, _⟩ | ⟨b, off, ver, cap, rfl, _⟩ <;> rfl
    have hf : fill [.slice none 0 0, .int .i64 0, .int .u64 0] [(0, 1, x)] = some [x, .int .i64 0, .int .u64 0] := by
      show (if (cellsOf x).length = 1 ∧ 0 + 1 ≤ 3 then fill (splice [.slice none 0 0, .int .i64 0, .int .u64 0] 0 (cellsOf x)) [] else none) = _
      rw [hc]; rfl
    have hfin := finish_adr (H := H) (G := H ++ [srB x 0 0]) (b := H.length) (ver := 0) Pre.one (Nat.le_refl _) get_last rfl rfl (by simp [srB, hx.old])
    have e1 : ({ srB x 0 0 with ver := 0 } : Blk) = srB x 0 0 := rfl
    rw [e1] at hfin
    simp only [srB] at hfin ⊢
    simp [c315, k315, hf, hfin]
  · refine ⟨x, bs, 0, 0, get_last, ?_, hb, hn, by omega, by omega⟩
    rw [List.take_left' rfl]
    exact hx
theorem fl_step {T : Tab} {n0 : Nat} {wb : Bool} {e : Env} {H H' : Heap} {Q : Ex → Env → Heap → Prop} {fs : List Fr} {d : Option Nat} {o : Op1} {r : List Stm} {e0 : Env} {outs : List Nat} {fl : List Opd} {v : Value}
    (h : apart e ⟨none, d, o, fl⟩ = true) (hv : ev1 (Call T) n0 wb e H o = some (v, H')) (hs : stays e H H' ⟨none, d, o, fl⟩ = true) :
    OK' T n0 wb (⟨none, d, o, fl⟩ :: r) e H e0 outs fs Q ↔ OK' T n0 wb r (put e d v) H' e0 outs fs Q := by
  unfold OK' OPS
  simp only [ops, wanted, h, hv, hs, if_true]
theorem orI_ok {a b : Int} : u16' (orI a b) := by
  have e0 : IntKind.bits .u16 = 16 := rfl
  unfold orI bitsOf
  simp only []
  have : (BitVec.ofInt (IntKind.bits .u16) a ||| BitVec.ofInt (IntKind.bits .u16) b).toNat < 2 ^ 16 := by rw [e0]; exact BitVec.isLt _
  rw [wrapu16 (by omega)]; omega
theorem orI_row {a b : Int} (ha : u16' a) (hb : u16' b) (h1 : okRow a = true) (h2 : okRow b = true) : okRow (orI a b) = true := by
  obtain ⟨n, rfl⟩ := Int.eq_ofNat_of_zero_le ha.1
  obtain ⟨m, rfl⟩ := Int.eq_ofNat_of_zero_le hb.1
  simp [okRow] at h1 h2 ⊢
  have e0 : IntKind.bits .u16 = 16 := rfl
  unfold orI bitsOf
  simp only []
  have e1 : (BitVec.ofInt (IntKind.bits .u16) (n : Int) ||| BitVec.ofInt (IntKind.bits .u16) (m : Int)).toNat = n ||| m := by
    rw [BitVec.toNat_or, e0, BitVec.ofInt_natCast, BitVec.ofInt_natCast, BitVec.toNat_ofNat, BitVec.toNat_ofNat, Nat.mod_eq_of_lt (show n < 2 ^ 16 by omega), Nat.mod_eq_of_lt (show m < 2 ^ 16 by omega)]
  have e2 : n ||| m < 2 ^ 12 := Nat.or_lt_two_pow (show n < 2 ^ 12 by omega) (show m < 2 ^ 12 by omega)
  rw [e1, wrapu16 (by omega)]; omega
/-- A valid frame. -/
structure VF (f : List Int) : Prop where
  W : FrW f
  ok : okF f = true
theorem VF.row {f : List Int} (h : VF f) {i : Nat} (hi : i < 12) : u16' (nth f i) ∧ okRow (nth f i) = true := ⟨h.W.nth hi, List.all_eq_true.1 (show f.all okRow = true from h.ok) _ (nth_mem (by rw [h.W.len]; exact hi))⟩
theorem VF.set {f : List Int} {i : Nat} {r : Int} (h : VF f) (hr : u16' r) (ho : okRow r = true) : VF (f.set i r) :=
  ⟨⟨by simp [h.W.len], fun n hn => (List.mem_or_eq_of_mem_set hn).elim (h.W.ok n) (fun e => by rw [e]; exact hr)⟩,
    List.all_eq_true.2 fun n hn => (List.mem_or_eq_of_mem_set hn).elim (fun h1 => List.all_eq_true.1 (show f.all okRow = true from h.ok) n h1) (fun e => by rw [e]; exact ho)⟩
theorem VF.zero : VF (zr 12 0) := ⟨⟨by simp, fun n hn => by simp [zr] at hn; subst hn; exact ⟨by omega, by omega⟩⟩, by decide⟩
theorem VF.put {f : List Int} {x y : Nat} (h : VF f) (hx : x < 12) (hy : y < 12) : VF (putF f x y) := by
  have hb := bit_ok hx
  obtain ⟨h1, h2⟩ := h.row hy
  exact h.set (orI_ok (a := nth f y) (b := bit x)) (orI_row h1 ⟨by omega, by omega⟩ h2 (by simp [okRow]; omega))
/-- In a function that draws: the source and a frame of its own. -/
structure Loc (G G' : Heap) (P k : Nat) (f : List Int) : Prop where
  src : Src G' P k
  fr : G'[G.length]? = some ⟨cs .u16 f, 1, 0, false⟩
  V : VF f
  len : G'.length = G.length + 1
  get : ∀ j, j < G.length → j ≠ P → G'[j]? = G[j]?
  lt : P < G.length
theorem Loc.mv {G G' G'' : Heap} {P k k' : Nat} {f : List Int} (h : Loc G G' P k f) (m : Mv P G' G'') (s : Src G'' P k') : Loc G G'' P k' f := by
  have := h.lt
  exact ⟨s, by rw [m.get _ (by omega)]; exact h.fr, h.V, by rw [m.len]; exact h.len, fun j hj hp => by rw [m.get j hp]; exact h.get j hj hp, h.lt⟩
theorem Loc.le {G G' : Heap} {P k k' : Nat} {f : List Int} (h : Loc G G' P k f) (hk : k ≤ k') : Loc G G' P k' f := ⟨h.src.le hk, h.fr, h.V, h.len, h.get, h.lt⟩
theorem Loc.set {G G' : Heap} {P k : Nat} {f g : List Int} (h : Loc G G' P k f) (hg : VF g) : Loc G (G'.set G.length ⟨cs .u16 g, 1, 0, false⟩) P k g := by
  have := h.lt
  exact ⟨h.src.mv (List.getElem?_set_ne (by omega)) fun j hj => List.getElem?_set_ne (by omega), get_set h.fr, hg, by simp [h.len], fun j hj hp => by rw [List.getElem?_set_ne (by omega)]; exact h.get j hj hp, h.lt⟩
theorem Loc.pick {G G' : Heap} {P k : Nat} {f : List Int} {n : Int} (h : Loc G G' P k f) (hk : k ≤ 100000000000) (hn : 1 ≤ n ∧ n ≤ 1000000) : ∃ v G'', Call tab false 459 [adr P 0 0, .int .i64 n] G' = some (.int .i64 v, G'') ∧ (0 ≤ v ∧ v < n) ∧ Loc G G'' P (k + 2) f ∧ G''[G.length]? = G'[G.length]? := by
  obtain ⟨v, G'', c, hv, m, s⟩ := call459 h.src hk hn
  exact ⟨v, G'', c, hv, h.mv m s, m.get _ (by have := h.lt; omega)⟩
theorem Loc.done {G G' : Heap} {P k : Nat} {f : List Int} (h : Loc G G' P k f) : Mv P G (G'.take G.length) ∧ Src (G'.take G.length) P k :=
  ⟨⟨by simp [h.len], fun j hj => by
    rw [List.getElem?_take]
    split
    · exact h.get j ‹_› hj
    · exact (List.getElem?_eq_none (by omega)).symm⟩, h.src.take h.lt⟩
def XY (u v : Value) : Prop := ∃ x y : Nat, x < 12 ∧ y < 12 ∧ u = .int .i64 x ∧ v = .int .i64 y
theorem XY.mk {x y : Int} (hx : 0 ≤ x ∧ x < 12) (hy : 0 ≤ y ∧ y < 12) : XY (.int .i64 x) (.int .i64 y) := by
  obtain ⟨a, rfl⟩ := Int.eq_ofNat_of_zero_le hx.1
  obtain ⟨b, rfl⟩ := Int.eq_ofNat_of_zero_le hy.1
  exact ⟨a, b, by omega, by omega, rfl, rfl⟩
theorem call368 {G : Heap} {P k : Nat} (h : Src G P k) (hk : k ≤ 10000000000) : ∃ f G', Call tab false 368 [adr P 0 0] G = some (iv .u16 f, G') ∧ VF f ∧ Mv P G G' ∧ Src G' P (k + 200) := by
  have key : ∃ r, Call tab false 368 [adr P 0 0] G = some r ∧ ∃ f G', r = (iv .u16 f, G') ∧ VF f ∧ Mv P G G' ∧ Src G' P (k + 200) := by
    refine Call_ex t368 (.inl rfl) rfl ?_
    have hl := h.lt
    obtain ⟨G1, hG1⟩ : ∃ G1, G1 = G ++ [(⟨cs .u16 (zr 12 0), 1, 0, false⟩ : Blk)] := ⟨_, rfl⟩
    have hwr : wr G.length true G1 G.length 0 0 (cs .u16 (zr 12 0)) = some G1 := by
      rw [hG1, wr_last (b := ⟨cs .u16 (zr 12 0), 1, 0, false⟩) rfl rfl (Nat.le_refl _) (by simp)]
    have L1 : Loc G G1 P k (zr 12 0) := by
      have p : Pre G G1 := by rw [hG1]; exact Pre.one
      exact ⟨h.pre p, by rw [hG1]; exact get_last, .zero, by rw [hG1]; simp, fun j hj _ => p.get hj, hl⟩
    obtain ⟨x, G2, c2, hx, L2, _⟩ := L1.pick (n := 12) (by omega) (by omega)
    obtain ⟨y, G3, c3, hy, L3, _⟩ := L2.pick (n := 12) (by omega) (by omega)
    obtain ⟨N, G4, c4, hN, L4, _⟩ := L3.pick (n := 14) (by omega) (by omega)
    obtain ⟨N, rfl⟩ := Int.eq_ofNat_of_zero_le hN.1
    obtain ⟨x, rfl⟩ := Int.eq_ofNat_of_zero_le hx.1
    obtain ⟨y, rfl⟩ := Int.eq_ofNat_of_zero_le hy.1
    simp [c368, k368, fill, zs_cs, agg_cs, ← hG1, hwr, wbOf, c2, c3, c4]
    refine WK_loop (fun i e G' => e 0 = adr P 0 0 ∧ e 2 = iv .u16 (zr 12 0) ∧ e 3 = adr G.length 0 0 ∧ XY (e 4) (e 5) ∧ e 6 = .int .i64 ((N - i : Nat) : Int) ∧ ∃ f, Loc G G' P (k + 6 + i * 8) f) N ?_ (Nat.zero_le _)
      ⟨by simp, by simp, by simp, by simp; exact .mk hx hy, by simp, _, by rw [Nat.zero_mul]; exact L4⟩
    rintro i e G' _ hi ⟨h0, h2, h3, ⟨x, y, hx, hy, h4, h5⟩, h6, f, L⟩
    by_cases hiN : i = N
    · subst hiN
      rw [Nat.sub_self] at h6
      obtain ⟨b, G5, c5, m5, s5⟩ := call513 (n := 8) L.src (by omega) (by omega)
      have L5 := L.mv m5 s5
      have fin : ∀ {G6 : Heap} {g : List Int} {k' : Nat}, Loc G G6 P k' g → k' ≤ k + 200 → ∃ r, some (iv .u16 g, G6.take G.length) = some r ∧ ∃ f G', r = (iv .u16 f, G') ∧ VF f ∧ Mv P G G' ∧ Src G' P (k + 200) := fun L6 hk' =>
        ⟨_, rfl, _, _, rfl, L6.V, L6.done.1, L6.done.2.le hk'⟩
      cases b with
      | false =>
        have hr := rd_at (off := 0) (n := 12) (ver := 0) L5.fr rfl (by simp [L5.V.W.len])
        simp [take_all, L5.V.W.len] at hr
        have s3 := stc_zr (k := .u16) (n := 12) (l := f) L5.V.W.len
        simp [b368_1, h0, h2, h3, h6, c5, wbOf, hr, s3, agg_cs, L5.V.W.len]
        exact ⟨_, _, ⟨rfl, rfl⟩, _, _, ⟨rfl, rfl⟩, L5.V, L5.done.1, L5.done.2.le (by omega)⟩
      | true =>
        simp [b368_1, h0, h2, h3, h6, c5, wbOf]
        refine WP_count 7 12 12 rfl (fun j e G' => e 0 = adr P 0 0 ∧ e 2 = iv .u16 (zr 12 0) ∧ e 3 = adr G.length 0 0 ∧ ∃ f, Loc G G' P (k + 6 + i * 8 + 2 + j * 2) f) (by omega) ?_ ?_ (by simp) ⟨by simp [h0], by simp [h2], by simp [h3], _, L5⟩
        · rintro j e G' _ hj hjj e4 h7 ⟨h0, h2, h3, g, L⟩
          obtain ⟨v, G6, c6, hv, L6, hget⟩ := L.pick (n := 4096) (by omega) (by omega)
          have hr := rd_at (off := 0) (n := 12) (ver := 0) L.fr rfl (by simp [L.V.W.len])
          simp [take_all, L.V.W.len] at hr
          have hr1 := rd_one hr hj
          rw [Nat.zero_add] at hr1
          have hw := wr_at (n0 := G.length) (wb := true) (off := j) (vs := [.int .u16 (orI (nth g j) v)]) (ver := 0) L6.fr rfl rfl (by simp [may]) (by simp [L6.V.W.len]; omega)
          have hsp : splice (cs .u16 g) j [.int .u16 (orI (nth g j) v)] = cs .u16 (g.set j (orI (nth g j) v)) := by rw [splice_one (by simp [L6.V.W.len]; omega)]; simp [cs, List.map_set]
          simp only [hsp] at hw
          obtain ⟨q1, q2⟩ := L6.V.row hj
          have uv : u16' v := ⟨by omega, by omega⟩
          have L7 := L6.set (L6.V.set (i := j) (orI_ok (a := nth g j) (b := v)) (orI_row q1 uv q2 (by simp [okRow]; omega)))
          simp [b368_2, h7, h0, h2, h3, hjj, hj, hr1]
          rw [fl_step (v := .int .i64 v) (H' := G6) (by simp [apart, blkOf, adr, mods]) (by simp [h0, c6]) (by simp [stays, blkOf, adr, hget])]
          have u1 : IntKind.wrap .u16 v = v := wrapu16 (by omega)
          have e9 : bitsOf .or .u16 (nth g j) v = orI (nth g j) v := rfl
          simp [h0, h2, h3, hj, u1, e9, hw, wbOf, h7, e4]
          exact ⟨_, L7.le (by omega)⟩
        · rintro e G' _ h7 ⟨h0, h2, h3, g, L⟩
          have hr := rd_at (off := 0) (n := 12) (ver := 0) L.fr rfl (by simp [L.V.W.len])
          simp [take_all, L.V.W.len] at hr
          have s3 := stc_zr (k := .u16) (n := 12) (l := g) L.V.W.len
          simp [b368_2, h7, h0, h2, h3, wbOf, hr, s3, agg_cs, L.V.W.len]
          exact ⟨_, _, ⟨rfl, rfl⟩, _, _, ⟨rfl, rfl⟩, L.V, L.done.1, L.done.2.le (by omega)⟩
    · have hpos : 0 < N - i := by omega
      have p1 := call305 L.fr L.V.W.len hx hy
      have L5 := L.set (L.V.put hx hy)
      obtain ⟨v, G6, c6, hv, L6, _⟩ := L5.pick (n := 6) (by omega) (by omega)
      have e6 : IntKind.wrap .i64 (((N - i : Nat) : Int) - 1) = ((N - (i + 1) : Nat) : Int) := by rw [wrap64 (by omega)]; omega
      have hiN' : i < N := by omega
      have fin : ∀ {x' y' : Int} {G7 : Heap}, (0 ≤ x' ∧ x' < 12) → (0 ≤ y' ∧ y' < 12) → Loc G G7 P (k + 6 + i * 8 + 6) (putF f x y) → XY (.int .i64 x') (.int .i64 y') ∧ ∃ f, Loc G G7 P (k + 6 + (i + 1) * 8) f := fun hx' hy' L7 => ⟨.mk hx' hy', _, L7.le (by omega)⟩
      have hmod : ∀ a : Int, 0 ≤ a → a ≤ 1000 → IntKind.wrap .i64 (a.tmod 12) = a.tmod 12 ∧ 0 ≤ a.tmod 12 ∧ a.tmod 12 < 12 := fun a ha hb => by
        have h1 : a.tmod 12 = a % 12 := Int.tmod_eq_emod_of_nonneg ha
        rw [h1]
        exact ⟨wrap64 (by omega), by omega, by omega⟩
      have hv' : v = 0 ∨ v = 1 ∨ v = 2 ∨ (v ≠ 0 ∧ v ≠ 1 ∧ v ≠ 2) := by omega
      rcases hv' with rfl | rfl | rfl | ⟨v0, v1, v2⟩
      · obtain ⟨x', G7, c7, hx', L7, _⟩ := L6.pick (n := 12) (by omega) (by omega)
        obtain ⟨y', G8, c8, hy', L8, _⟩ := L7.pick (n := 12) (by omega) (by omega)
        simp [b368_1, h0, h2, h3, h4, h5, h6, hpos, p1, c6, c7, c8, e6, wbOf]
        exact ⟨hiN', fin hx' hy' (L8.le (by omega))⟩
      · obtain ⟨m1, m2⟩ := hmod ((x : Int) + 1) (by omega) (by omega)
        have e7 : IntKind.wrap .i64 ((x : Int) + 1) = (x : Int) + 1 := wrap64 (by omega)
        simp [b368_1, h0, h2, h3, h4, h5, h6, hpos, p1, c6, e6, e7, m1, wbOf]
        exact ⟨hiN', fin m2 ⟨by omega, by omega⟩ (L6.le (by omega))⟩
      · obtain ⟨m1, m2⟩ := hmod ((x : Int) + 1) (by omega) (by omega)
        have e7 : IntKind.wrap .i64 ((x : Int) + 1) = (x : Int) + 1 := wrap64 (by omega)
        simp [b368_1, h0, h2, h3, h4, h5, h6, hpos, p1, c6, e6, e7, m1, wbOf]
        exact ⟨hiN', fin m2 ⟨by omega, by omega⟩ (L6.le (by omega))⟩
      · obtain ⟨w, G7, c7, hw, L7, _⟩ := L6.pick (n := 3) (by omega) (by omega)
        obtain ⟨m1, m2⟩ := hmod ((y : Int) + w + 11) (by omega) (by omega)
        have v0 : (v == 0) = false := by simpa using v0
        have v1 : (v == 1) = false := by simpa using v1
        have v2 : (v == 2) = false := by simpa using v2
        have e7 : IntKind.wrap .i64 ((y : Int) + w) = (y : Int) + w := wrap64 (by omega)
        have e8 : IntKind.wrap .i64 ((y : Int) + w + 11) = (y : Int) + w + 11 := wrap64 (by omega)
        simp [b368_1, h0, h2, h3, h4, h5, h6, hpos, p1, c6, c7, e6, e7, e8, m1, v0, v1, v2, wbOf]
        exact ⟨hiN', fin ⟨by omega, by omega⟩ m2 (L7.le (by omega))⟩
  obtain ⟨r, hc, v, G', rfl, h⟩ := key
  exact ⟨v, G', hc, h⟩
structure Lo2 (G G' : Heap) (P k : Nat) (x : Value) (L : List (List Int)) (f : List Int) : Prop where
  src : Src G' P k
  ls : ∃ ver, x = slc G.length 0 ver L.length L.length ∧ G'[G.length]? = some ⟨bkC L, 12, ver, false⟩
  VL : ∀ g ∈ L, VF g
  fr : G'[G.length + 1]? = some ⟨cs .u16 f, 1, 0, false⟩
  V : VF f
  len : G.length + 2 ≤ G'.length
  get : ∀ j, j < G.length → j ≠ P → G'[j]? = G[j]?
  lt : P < G.length
theorem Lo2.mv {G G' G'' : Heap} {P k k' : Nat} {x : Value} {L : List (List Int)} {f : List Int} (h : Lo2 G G' P k x L f) (m : Mv P G' G'') (s : Src G'' P k') : Lo2 G G'' P k' x L f := by
  have := h.lt
  exact ⟨s, by obtain ⟨ver, e, g⟩ := h.ls; exact ⟨ver, e, by rw [m.get _ (by omega)]; exact g⟩, h.VL, by rw [m.get _ (by omega)]; exact h.fr, h.V, by rw [m.len]; exact h.len, fun j hj hp => by rw [m.get j hp]; exact h.get j hj hp, h.lt⟩
theorem Lo2.set {G G' : Heap} {P k : Nat} {x : Value} {L : List (List Int)} {f g : List Int} (h : Lo2 G G' P k x L f) (hg : VF g) : wr G.length true G' (G.length + 1) 0 0 (cs .u16 g) = some (G'.set (G.length + 1) ⟨cs .u16 g, 1, 0, false⟩) ∧ Lo2 G (G'.set (G.length + 1) ⟨cs .u16 g, 1, 0, false⟩) P k x L g := by
  have hl := h.lt
  have hlen := h.len
  have hw := wr_at (n0 := G.length) (wb := true) (off := 0) (vs := cs .u16 g) (ver := 0) h.fr rfl rfl (by simp [may]) (by simp [h.V.W.len, hg.W.len])
  have hsp : splice (cs .u16 f) 0 (cs .u16 g) = cs .u16 g := by
    unfold splice
    rw [List.take_zero, List.nil_append, Nat.zero_add, List.drop_eq_nil_of_le (by simp [h.V.W.len, hg.W.len]), List.append_nil]
  simp only [hsp] at hw
  exact ⟨hw, h.src.mv (List.getElem?_set_ne (by omega)) fun j hj => List.getElem?_set_ne (by omega), by obtain ⟨ver, e, g⟩ := h.ls; exact ⟨ver, e, by rw [List.getElem?_set_ne (by omega)]; exact g⟩, h.VL, get_set h.fr, hg, by simpa using hlen,
    fun j hj hp => by rw [List.getElem?_set_ne (by omega)]; exact h.get j hj hp, hl⟩
theorem vl_size {L : List (List Int)} (h : ∀ g ∈ L, VF g) : (bkC L).length = L.length * 12 := bkC_length fun f hf => (h f hf).W
theorem Lo2.bk {G G' : Heap} {P k : Nat} {x : Value} {L : List (List Int)} {f : List Int} (h : Lo2 G G' P k x L f) : Bk G' x L := by
  obtain ⟨ver, rfl, g⟩ := h.ls
  have hs := vl_size h.VL
  exact ⟨hs, .inr ⟨_, 0, ver, L.length, rfl, Nat.le_refl _, by rw [rd_at g rfl (by simp [hs])]; simp [take_all, hs], _, g, rfl, rfl⟩⟩
/-- In a function that draws: the source, and blocks of the call's own behind. -/
structure Lo0 (G G' : Heap) (P k : Nat) : Prop where
  src : Src G' P k
  len : G.length ≤ G'.length
  get : ∀ j, j < G.length → j ≠ P → G'[j]? = G[j]?
  lt : P < G.length
theorem Lo0.mv {G G' G'' : Heap} {P k k' : Nat} (h : Lo0 G G' P k) (m : Mv P G' G'') (s : Src G'' P k') : Lo0 G G'' P k' :=
  ⟨s, by rw [m.len]; exact h.len, fun j hj hp => by rw [m.get j hp]; exact h.get j hj hp, h.lt⟩
theorem Lo0.pre {G G' G'' : Heap} {P k : Nat} (h : Lo0 G G' P k) (p : Pre G' G'') : Lo0 G G'' P k := by
  have h1 := h.len
  exact ⟨h.src.pre p, Nat.le_trans h1 p.len, fun j hj hp => by rw [p.get (by omega)]; exact h.get j hj hp, h.lt⟩
/-- Valid light. -/
structure VL (l : List Int) : Prop where
  len : l.length = 144
  ok : okAll l = true
theorem VL.set {l : List Int} {i : Nat} {v : Int} (h : VL l) (hv : 0 ≤ v ∧ v ≤ 1000) : VL (l.set i v) :=
  ⟨by simp [h.len], List.all_eq_true.2 fun n hn => (List.mem_or_eq_of_mem_set hn).elim (fun h1 => List.all_eq_true.1 (show l.all okL = true from h.ok) n h1) (fun e => by rw [e]; simpa [okL] using hv)⟩
theorem VL.zero : VL (zr 144 0) := ⟨by simp, by decide⟩
theorem bit_get {n : Nat} {i : Nat} (h : i < 16) : (BitVec.ofInt 16 (n : Int)).getLsbD i = n.testBit i := by
  rw [BitVec.ofInt_natCast, BitVec.getLsbD_ofNat]
  simp [h]
theorem dotB_vec {v : BitVec 16} {i : Nat} : dotB (IntKind.wrap .u16 (v.toNat : Int)) i = v.getLsbD i := by
  have := v.isLt
  rw [wrapu16 (by omega), dotB_bit]
  exact BitVec.testBit_toNat v
theorem or_dot {a b : Int} (ha : u16' a) (hb : u16' b) {i : Nat} (hi : i < 16) : dotB (orI a b) i = (dotB a i || dotB b i) := by
  obtain ⟨n, rfl⟩ := Int.eq_ofNat_of_zero_le ha.1
  obtain ⟨m, rfl⟩ := Int.eq_ofNat_of_zero_le hb.1
  rw [dotB_bit, dotB_bit, ← bit_get hi, ← bit_get hi, ← BitVec.getLsbD_or]
  exact dotB_vec
theorem xor_dot {a b : Int} (ha : u16' a) (hb : u16' b) {i : Nat} (hi : i < 16) : dotB (xorI a b) i = (dotB a i ^^ dotB b i) := by
  obtain ⟨n, rfl⟩ := Int.eq_ofNat_of_zero_le ha.1
  obtain ⟨m, rfl⟩ := Int.eq_ofNat_of_zero_le hb.1
  rw [dotB_bit, dotB_bit, ← bit_get hi, ← bit_get hi, ← BitVec.getLsbD_xor]
  exact dotB_vec
theorem less_dot {a b : Int} (ha : u16' a) (hb : u16' b) {i : Nat} (hi : i < 16) : dotB (lessI a b) i = (dotB a i && !dotB b i) := by
  obtain ⟨n, rfl⟩ := Int.eq_ofNat_of_zero_le ha.1
  obtain ⟨m, rfl⟩ := Int.eq_ofNat_of_zero_le hb.1
  have e1 : (BitVec.ofInt 16 (n : Int) &&& ~~~BitVec.ofInt 16 (m : Int)).getLsbD i = ((BitVec.ofInt 16 (n : Int)).getLsbD i && !(BitVec.ofInt 16 (m : Int)).getLsbD i) := by
    rw [BitVec.getLsbD_and, BitVec.getLsbD_not]; simp [hi]
  rw [dotB_bit, dotB_bit, ← bit_get hi, ← bit_get hi, ← e1]
  exact dotB_vec
theorem hasF_dots {p : Nat → Nat → Bool} {x y : Nat} (hx : x < 12) (hy : y < 12) : hasF (dotsF p) x y = p x y := by
  rw [hasF, dotsF_nth hy, dotB_bit, rowN_bit]; simp [hx]
theorem VF.dots {f : List Int} (h : VF f) : dotsF (hasF f) = f := by
  refine (ext_nth (by rw [dotsF_length, h.W.len]) fun y hy => ?_)
  rw [dotsF_length] at hy
  obtain ⟨n, hn, hlt⟩ := okF_row h.ok h.W hy
  rw [dotsF_nth hy, hn]
  have := rowN_eq (q := fun x => hasF f x y) (n := n) (m := 12) hlt fun x hx => by rw [hasF, hn, dotB_bit]
  rw [← this]
theorem VF.ext {f g : List Int} (hf : VF f) (hg : VF g) (h : ∀ x y, x < 12 → y < 12 → hasF f x y = hasF g x y) : f = g := by
  rw [← hf.dots, ← hg.dots]
  exact dotsF_congr h
theorem dotsV {p : Nat → Nat → Bool} : VF (dotsF p) := ⟨dotsF_W, dotsF_ok⟩
theorem mix_or {f g : List Int} (hf : VF f) (hg : VF g) {x y : Nat} (hx : x < 12) (hy : y < 12) : hasF (mixF orI f g) x y = (hasF f x y || hasF g x y) := by
  rw [hasF, mixF, nth_tabN hy]; exact or_dot (hf.row hy).1 (hg.row hy).1 (by omega)
theorem mix_xor {f g : List Int} (hf : VF f) (hg : VF g) {x y : Nat} (hx : x < 12) (hy : y < 12) : hasF (mixF xorI f g) x y = (hasF f x y ^^ hasF g x y) := by
  rw [hasF, mixF, nth_tabN hy]; exact xor_dot (hf.row hy).1 (hg.row hy).1 (by omega)
theorem mix_less {f g : List Int} (hf : VF f) (hg : VF g) {x y : Nat} (hx : x < 12) (hy : y < 12) : hasF (mixF lessI f g) x y = (hasF f x y && !hasF g x y) := by
  rw [hasF, mixF, nth_tabN hy]; exact less_dot (hf.row hy).1 (hg.row hy).1 (by omega)
theorem mixV {op : Int → Int → Int} {f g : List Int} (hf : VF f) (hg : VF g) (h : ∀ a b, u16' a → u16' b → okRow a = true → okRow b = true → u16' (op a b) ∧ okRow (op a b) = true) : VF (mixF op f g) := by
  have key : ∀ i, i < 12 → u16' (nth (mixF op f g) i) ∧ okRow (nth (mixF op f g) i) = true := fun i hi => by
    rw [mixF, nth_tabN hi]
    exact h _ _ (hf.row hi).1 (hg.row hi).1 (hf.row hi).2 (hg.row hi).2
  exact ⟨⟨mixF_length, fun n hn => by obtain ⟨i, hi, rfl⟩ := mem_nth hn; rw [mixF_length] at hi; exact (key i hi).1⟩, okF_true mixF_length fun i hi => (key i hi).2⟩
theorem or_V {f g : List Int} (hf : VF f) (hg : VF g) : VF (mixF orI f g) := mixV hf hg fun _ _ h1 h2 h3 h4 => ⟨orI_ok, orI_row h1 h2 h3 h4⟩
theorem xor_V' {f g : List Int} (hf : VF f) (hg : VF g) : VF (mixF xorI f g) := mixV hf hg fun _ _ h1 h2 h3 h4 => ⟨xorI_ok, xorI_row h1 h2 h3 h4⟩
theorem less_V {f g : List Int} (hf : VF f) (hg : VF g) : VF (mixF lessI f g) := mixV hf hg fun _ _ h1 h2 h3 _ => ⟨lessI_ok, lessI_row h1 h3⟩
theorem hasF_zero {x y : Nat} (hx : x < 12) (hy : y < 12) : hasF (zr 12 0) x y = false := by rw [← dotsF_none, hasF_dots hx hy]
theorem less_none {f g : List Int} (hf : VF f) (hg : VF g) (h : ∀ x y, x < 12 → y < 12 → hasF f x y = true → hasF g x y = true) : mixF lessI f g = zr 12 0 :=
  (less_V hf hg).ext .zero fun x y hx hy => by
    rw [mix_less hf hg hx hy, hasF_zero hx hy]
    cases h1 : hasF f x y with
    | false => rfl
    | true => rw [h x y hx hy h1]; rfl
theorem whereN_dots {p : Nat → Nat → Bool} : whereN p 144 = dotsF p := by
  have key : ∀ k, k ≤ 144 → whereN p k = dotsF fun x y => decide (y * 12 + x < k) && p x y := by
    intro k
    induction k with
    | zero =>
      intro _
      rw [whereN_zero, ← dotsF_none]
      exact dotsF_congr fun x y _ _ => by simp
    | succ k ih =>
      intro hk
      have h1 := whereN_succ (p := p) (x := k % 12) (y := k / 12) (by omega)
      have e1 : k / 12 * 12 + k % 12 = k := by omega
      rw [e1, ih (by omega)] at h1
      rw [h1]
      split
      · rename_i hp
        rw [putF_dots (by omega) (by omega)]
        refine dotsF_congr fun x y hx hy => ?_
        by_cases hxy : x = k % 12 ∧ y = k / 12
        · obtain ⟨rfl, rfl⟩ := hxy
          simp [hp]; omega
        · have e2 : (decide (x = k % 12) && decide (y = k / 12)) = false := by simpa using hxy
          have e3 : decide (y * 12 + x < k) = decide (y * 12 + x < k + 1) := decide_eq_decide.2 ⟨fun h => by omega, fun h => by omega⟩
          rw [e2, e3, Bool.or_false]
      · rename_i hp
        refine dotsF_congr fun x y hx hy => ?_
        by_cases hxy : x = k % 12 ∧ y = k / 12
        · obtain ⟨rfl, rfl⟩ := hxy
          have : p (k % 12) (k / 12) = false := by simpa using hp
          simp [this]
        · have e3 : decide (y * 12 + x < k) = decide (y * 12 + x < k + 1) := decide_eq_decide.2 ⟨fun h => by omega, fun h => by omega⟩
          rw [e3]
  rw [key 144 (Nat.le_refl _)]
  exact dotsF_congr fun x y hx hy => by
    have : y * 12 + x < 144 := by omega
    simp [this]
/-- A list of bytes in memory. -/
structure By (H : Heap) (x : Value) (bs : List Int) : Prop where
  s : SlR H x 1 bs.length (cs .u8 bs)
  b : ∀ v ∈ bs, 0 ≤ v ∧ v ≤ 255
theorem By.pre {H G : Heap} {x : Value} {bs : List Int} (p : Pre H G) (h : By H x bs) : By G x bs := ⟨h.s.pre p, h.b⟩
theorem call84 {pu : Bool} {H : Heap} {x y : Value} {bs cs : List Int} (hx : By H x bs) (hy : By H y cs) : Call tab pu 84 [x, y] H = some (.bool (decide (3000 < bs.length) || decide (3000 < cs.length)), H) := by
  refine Call_wp t84 (.inr rfl) rfl ?_
  have e2 : decide ((3000 : Int) < cs.length) = decide (3000 < cs.length) := decide_eq_decide.2 (by omega)
  by_cases h : 3000 < bs.length
  · have h' : (3000 : Int) < bs.length := by omega
    simp [c84, k84, hx.s.lenV, hy.s.lenV, h, h', skip]
  · have h' : ¬ (3000 : Int) < bs.length := by omega
    simp [c84, k84, hx.s.lenV, hy.s.lenV, h, h', e2]
theorem call124 {pu : Bool} {H : Heap} {x : Value} {bs : List Int} {i : Nat} {n : Int} (hx : By H x bs) (hi : i ≤ 1000000) (hn : 1 ≤ n ∧ n ≤ 1000000) : ∃ v, Call tab pu 124 [x, .int .i64 i, .int .i64 n] H = some (.int .i64 v, H) ∧ 0 ≤ v ∧ v < n := by
  by_cases h : i < bs.length
  · obtain ⟨q, off, ver, ha, hr⟩ := hx.s.get1 h
    rw [elem_i h] at hr
    have hb := nthI_ok hx.b h
    have h1 : (nth bs i).tmod n = nth bs i % n := Int.tmod_eq_emod_of_nonneg hb.1
    have h2 := Int.emod_nonneg (nth bs i) (show n ≠ 0 by omega)
    have h3 := Int.emod_lt_of_pos (nth bs i) (show 0 < n by omega)
    have w1 : IntKind.wrap .i64 (nth bs i) = nth bs i := wrap64 (by omega)
    have w2 : IntKind.wrap .i64 (nth bs i % n) = nth bs i % n := wrap64 (by omega)
    have hn0 : n ≠ 0 := by omega
    have hn1 : ¬ n < 1 := by omega
    have hge : ¬ bs.length ≤ i := by omega
    refine ⟨nth bs i % n, Call_wp t124 (.inr rfl) rfl ?_, h2, h3⟩
    simp [c124, k124, hx.s.lenV, hge, hn1, ha, hr, w1, hn0, h1, w2]
  · have hge : bs.length ≤ i := by omega
    refine ⟨0, Call_wp t124 (.inr rfl) rfl ?_, by omega, by omega⟩
    simp [c124, k124, hx.s.lenV, hge, skip]
def invF (f : List Int) : List Int := f.map fun v => 4095 - v
theorem invF_row {a : Int} (ha : u16' a) (ho : okRow a = true) : u16' (4095 - a) ∧ okRow (4095 - a) = true := by
  simp [okRow] at ho ⊢
  omega
theorem invF_V {f : List Int} (h : VF f) : VF (invF f) := by
  have key : ∀ n ∈ invF f, u16' n ∧ okRow n = true := fun n hn => by
    obtain ⟨a, ha, rfl⟩ := List.mem_map.1 hn
    exact invF_row (h.W.ok a ha) (List.all_eq_true.1 (show f.all okRow = true from h.ok) a ha)
  exact ⟨⟨by simp [invF, h.W.len], fun n hn => (key n hn).1⟩, List.all_eq_true.2 fun n hn => (key n hn).2⟩
theorem call201 {pu : Bool} {H : Heap} {f : List Int} (hf : VF f) : Call tab pu 201 [iv .u16 f] H = some (tup [iv .u16 (invF f), .int .i64 0], H) := by
  refine Call_wp t201 (.inr rfl) rfl ?_
  have hl := hf.W.len
  obtain ⟨H1, hH1⟩ : ∃ H1, H1 = H ++ [(⟨cs .u16 f, 1, 0, false⟩ : Blk)] := ⟨_, rfl⟩
  have r1 : rd H1 H.length 0 0 12 = some (cs .u16 f) := by rw [hH1]; exact rd_last rfl (by simp [hl])
  have hz := stc_zr (k := .u16) (n := 12) (l := zr 12 0) (by simp)
  have hI := (invF_V hf).W.len
  have s3 := stc_zr (k := .u16) (n := 12) (l := invF f) hI
  simp [c201, k201, hl, ← hH1, call359 hl r1, hf.ok, zs_cs, agg_cs]
  refine WP_count 4 12 12 rfl (fun i e G => e 1 = adr H.length 0 0 ∧ e 2 = iv .u16 (zr 12 0) ∧ G = H ++ [(⟨cs .u16 (part (fun v => 4095 - v) i f), 1, 0, false⟩ : Blk)]) (by omega) ?_ ?_ (by simp) ⟨by simp, by simp, by rw [part_zero, hH1]⟩
  · rintro i e _ _ hi hii e5 h4 ⟨h1, h2, rfl⟩
    have hml : (part (fun v => 4095 - v) i f).length = 12 := by rw [part_length, hl]
    have hn : nth (part (fun v => 4095 - v) i f) i = nth f i := by rw [nth_part (by omega), if_neg (by omega)]
    have hr := rd_last (H := H) (b := ⟨cs .u16 (part (fun v => 4095 - v) i f), 1, 0, false⟩) (n := 12) rfl (by simp [hml])
    have hr1 := rd_one hr hi
    rw [Nat.zero_add, hn] at hr1
    have hb := hf.row hi
    have h4095 : nth f i ≤ 4095 := by have := hb.2; simpa [okRow] using this
    have w1 : IntKind.wrap .u16 (4095 - nth f i) = 4095 - nth f i := wrapu16 (by omega)
    have hw := wr_at (n0 := H.length) (wb := false) (off := i) (vs := [.int .u16 (4095 - nth f i)]) (ver := 0) (get_last (H := H) (b := ⟨cs .u16 (part (fun v => 4095 - v) i f), 1, 0, false⟩)) rfl rfl (by simp [may]) (by simp [hml]; omega)
    have hset := part_set (f := fun v => 4095 - v) (m := i) (l := f) (by omega)
    have hsp : splice (cs .u16 (part (fun v => 4095 - v) i f)) i [.int .u16 (4095 - nth f i)] = cs .u16 (part (fun v => 4095 - v) (i + 1) f) := by
      rw [splice_one (by simp [hml]; omega), ← hset]; simp [cs, List.map_set]
    have hw' : wr H.length false (H ++ [⟨cs .u16 (part (fun v => 4095 - v) i f), 1, 0, false⟩]) H.length i 0 [.int .u16 (4095 - nth f i)] = some (H ++ [⟨cs .u16 (part (fun v => 4095 - v) (i + 1) f), 1, 0, false⟩]) := by
      rw [hw]; simp [hsp]
    simp [b201_1, h4, h1, h2, hii, hi, hr1, w1, hw', wbOf, e5]
  · rintro e _ _ h4 ⟨h1, h2, rfl⟩
    have e1 : part (fun v => 4095 - v) 12 f = invF f := part_all (by omega)
    have hr := rd_last (H := H) (b := ⟨cs .u16 (invF f), 1, 0, false⟩) (n := 12) rfl (by simp [hI])
    simp [b201_1, h4, h1, h2, e1, hr, hI, s3, agg_cs]
/-- In a function that draws: the source, and a list of the call's own in the first new block. -/
structure LoG (G G' : Heap) (P k : Nat) (x : Value) (esz n : Nat) (vs : List Value) : Prop where
  src : Src G' P k
  ls : ∃ ver, x = slc G.length 0 ver n n ∧ G'[G.length]? = some ⟨vs, esz, ver, false⟩
  size : vs.length = n * esz
  len : G.length + 1 ≤ G'.length
  get : ∀ j, j < G.length → j ≠ P → G'[j]? = G[j]?
  lt : P < G.length
theorem LoG.mv {G G' G'' : Heap} {P k k' esz n : Nat} {x : Value} {vs : List Value} (h : LoG G G' P k x esz n vs) (m : Mv P G' G'') (s : Src G'' P k') : LoG G G'' P k' x esz n vs := by
  have := h.lt
  exact ⟨s, by obtain ⟨ver, e, g⟩ := h.ls; exact ⟨ver, e, by rw [m.get _ (by omega)]; exact g⟩, h.size, by rw [m.len]; exact h.len, fun j hj hp => by rw [m.get j hp]; exact h.get j hj hp, h.lt⟩
theorem LoG.new {G : Heap} {P k esz : Nat} (h : Src G P k) : LoG G (G ++ [⟨[], esz, 0, false⟩]) P k (slc G.length 0 0 0 0) esz 0 [] :=
  ⟨h.pre Pre.one, ⟨0, rfl, get_last⟩, by simp, by simp, fun j hj _ => Pre.one.get hj, h.lt⟩
theorem LoG.rd {G G' : Heap} {P k esz n o m : Nat} {x : Value} {vs : List Value} (h : LoG G G' P k x esz n vs) {ver : Nat} (hx : x = slc G.length 0 ver n n) (ho : o + m ≤ n * esz) : Fb.rd G' G.length o ver m = some ((vs.drop o).take m) := by
  obtain ⟨ver', e, g⟩ := h.ls
  rw [hx] at e
  have hve : ver = ver' := by
    have := e
    simp [slc] at this
    exact this
  subst hve
  exact rd_at (ver := ver) g rfl (by rw [h.size]; exact ho)
/-- A drawn track. -/
structure DT (ks : List Ky) : Prop where
  n1 : 1 ≤ ks.length
  n5 : ks.length ≤ 5
  ok : okTk ks = true
/-- A drawn part. -/
structure DP (s : Pt) : Prop where
  f : VF s.f
  e : 0 ≤ s.e ∧ s.e ≤ 3
  ks : DT s.ks
theorem DT.W {ks : List Ky} (h : DT ks) : KyW ks := fun k hk => by
  have V := okTk_V h.ok
  obtain ⟨i, hi, rfl⟩ := List.getElem_of_mem hk
  have := V.r i hi
  have e : ky ks i = ks[i] := Option.some.inj ((at0_get hi).symm.trans (List.getElem?_eq_getElem hi))
  rw [e] at this
  exact ⟨by omega, ⟨by omega, by omega⟩, ⟨by omega, by omega⟩⟩
theorem DP.ok {s : Pt} (h : DP s) : okPt s = true := by
  have := h.e
  simp [okPt, h.f.ok, h.ks.ok, in1, this]
theorem DP.W {s : Pt} (h : DP s) : PtW s := ⟨h.f.W.ok, ⟨by have := h.e; omega, by have := h.e; omega⟩, h.ks.W⟩
theorem call171 {pu : Bool} {H : Heap} {f : List Int} (hf : VF f) : Call tab pu 171 [iv .u16 f] H = some (tup [.int .i64 (cntF f), .int .i64 0], H) := by
  refine Call_wp t171 (.inr rfl) rfl ?_
  simp [c171, k171, hf.W.len, call234 hf.W.len, hf.ok, call393 hf.W hf.ok]
theorem hasF_put {g : List Int} (h : VF g) {x y u v : Nat} (hx : x < 12) (hy : y < 12) (hu : u < 12) (hv : v < 12) : hasF (putF g x y) u v = (hasF g u v || (decide (u = x) && decide (v = y))) := by
  have e : putF g x y = putF (dotsF (hasF g)) x y := by rw [h.dots]
  rw [e, putF_dots hx hy, hasF_dots hu hv]
end Fb
