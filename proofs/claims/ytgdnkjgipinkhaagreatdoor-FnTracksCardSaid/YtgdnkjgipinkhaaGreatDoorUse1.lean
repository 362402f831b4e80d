/- What each function computes. -/
import Derived.Test.YtgdnkjgipinkhaaGreatDoorUse0
set_option linter.unusedVariables false
set_option linter.unusedSimpArgs false
namespace Fb
open Go
theorem mvR_shr {f : List Int} {d y n : Nat} {dy : Int} (hy : y < 12) (hsy : 0 ≤ (y : Int) - dy ∧ (y : Int) - dy < 12) (hn : nth f ((y : Int) - dy).toNat = n) (hlt : n < 4096) : mvR f (-(d : Int)) dy y = ((n / 2 ^ d : Nat) : Int) := by
  rw [mvR, shF, dotsF_nth hy]
  congr 1
  refine (rowN_eq (m := 12) (Nat.lt_of_le_of_lt (Nat.div_le_self _ _) hlt) fun x hx => ?_).symm
  rw [Nat.testBit_div_two_pow]
  rw [Bool.eq_iff_iff]
  simp only [mvP, hasF, hn, dotB_bit, Bool.and_eq_true, decide_eq_true_eq]
  have e1 : ((x : Int) - -(d : Int)).toNat = x + d := by omega
  rw [e1]
  constructor
  · intro h2
    refine ⟨?_, h2⟩
    have : ¬ (12 ≤ x + d) := fun h => by
      have := Nat.testBit_lt_two_pow (x := n) (i := x + d) (Nat.lt_of_lt_of_le hlt (Nat.pow_le_pow_right (n := 2) (by omega) h))
      rw [this] at h2; cases h2
    omega
  · rintro ⟨_, h2⟩
    exact h2
theorem mvR_off {f : List Int} {dx dy : Int} {y : Nat} (hy : y < 12) (h : ¬ (0 ≤ (y : Int) - dy ∧ (y : Int) - dy < 12)) : mvR f dx dy y = 0 := by
  rw [mvR, shF, dotsF_nth hy]
  have : rowN (fun x => mvP f dx dy x y) 12 = 0 := (rowN_eq (by decide) fun x hx => by
    simp only [mvP]
    rw [decide_eq_false (by omega)]; simp).symm
  rw [this]; rfl
theorem shF_far {f : List Int} {dx dy : Int} (h : ¬ (-12 ≤ dx ∧ dx ≤ 12)) : shF f dx dy = zr 12 0 := by
  rw [← dotsF_none]
  apply dotsF_congr
  intro x y hx hy
  simp only [mvP]
  rw [decide_eq_false (by omega)]; simp
/-- A moved frame, made so far. -/
def shU (f : List Int) (dx dy : Int) (k : Nat) : List Int := tabN 12 fun y => if y < k then mvR f dx dy y else 0
theorem shU_zero {f : List Int} {dx dy : Int} : shU f dx dy 0 = zr 12 0 :=
  (tabN_of (by simp) fun i _ => by rw [nth_zr]; simp).symm
theorem shU_all {f : List Int} {dx dy : Int} : shU f dx dy 12 = shF f dx dy :=
  (tabN_of (by rw [shF, dotsF_length]) fun i hi => by rw [if_pos hi]; rfl).symm
theorem shU_length {f : List Int} {dx dy : Int} {k : Nat} : (shU f dx dy k).length = 12 := tabN_length
theorem shU_set {f : List Int} {dx dy : Int} {k : Nat} (hk : k < 12) {v : Int} (hv : mvR f dx dy k = v) : (shU f dx dy k).set k v = shU f dx dy (k + 1) :=
  tabN_set hk (by rw [if_pos (by omega), hv]) fun i _ hi => by
    by_cases h : i < k
    · rw [if_pos h, if_pos (by omega)]
    · rw [if_neg h, if_neg (by omega)]
theorem shU_skip {f : List Int} {dx dy : Int} {k : Nat} (hk : k < 12) (h0 : mvR f dx dy k = 0) : shU f dx dy k = shU f dx dy (k + 1) :=
  tabN_ext fun i _ => by
    by_cases h : i < k
    · rw [if_pos h, if_pos (by omega)]
    · by_cases h2 : i = k
      · subst h2; rw [if_neg h, if_pos (by omega), h0]
      · rw [if_neg h, if_neg (by omega)]
theorem shF_length {f : List Int} {dx dy : Int} : (shF f dx dy).length = 12 := dotsF_length
theorem call358 {pu : Bool} {H : Heap} {f : List Int} {dx dy : Int} (hw : FrW f) (hk : okF f = true) (hx : -1000 ≤ dx ∧ dx ≤ 1000) (hy : -1000 ≤ dy ∧ dy ≤ 1000) : Call tab pu 358 [iv .u16 f, .int .i64 dx, .int .i64 dy] H = some (iv .u16 (shF f dx dy), H) := by
  refine Call_wp t358 (.inr rfl) rfl ?_
  have hl := hw.len
  have hz := stc_zr (k := .u16) (n := 12) (l := zr 12 0) (by simp)
  have hz2 := stc_zr (k := .u16) (n := 12) (l := shF f dx dy) shF_length
  cases hb : in1 dx (-12) 12 with
  | false =>
    have hf : shF f dx dy = zr 12 0 := shF_far (by simpa [in1] using hb)
    simp [c358, k358, zs_cs, agg_cs, fill, hz, in295, hb, hf]
  | true =>
    have hb' : -12 ≤ dx ∧ dx ≤ 12 := by simpa [in1] using hb
    simp [c358, k358, zs_cs, agg_cs, fill, hz, in295, hb]
    refine WP_forH 15 12 12 rfl (by omega) (fun i e => e 1 = .int .i64 dx ∧ e 2 = .int .i64 dy ∧ e 3 = iv .u16 f ∧ e 6 = iv .u16 (zr 12 0) ∧ e 7 = iv .u16 (shU f dx dy i)) ?_ ?_ (by simp) (by simp [shU_zero])
    · rintro y e hy12 hyy e4 h15 ⟨h1, h2, h3, h6, h7⟩
      have u1 : IntKind.wrap .i64 ((y : Int) - dy) = (y : Int) - dy := wrap64 (by omega)
      cases hs : in1 ((y : Int) - dy) 0 11 with
      | false =>
        have h0 := mvR_off (f := f) (dx := dx) (dy := dy) hy12 (by simp only [in1, decide_eq_false_iff_not] at hs; omega)
        have hsk := shU_skip hy12 h0
        simp [b358_1, h15, h1, h2, h3, h6, h7, hyy, u1, in295, hs, e4, hsk]
      | true =>
        have hs' : 0 ≤ (y : Int) - dy ∧ (y : Int) - dy < 12 := by simp only [in1, decide_eq_true_eq] at hs; omega
        obtain ⟨m, hm⟩ : ∃ m : Nat, (y : Int) - dy = m := ⟨((y : Int) - dy).toNat, by omega⟩
        have hm12 : m < 12 := by omega
        obtain ⟨n, hn, hn4⟩ := okF_row hk hw hm12
        have hn' : nth f ((y : Int) - dy).toNat = n := by rw [hm]; exact hn
        rw [hm] at hs u1
        have hlu := shU_length (f := f) (dx := dx) (dy := dy) (k := y)
        by_cases hd : 0 ≤ dx
        · obtain ⟨d, rfl⟩ := Int.eq_ofNat_of_zero_le hd
          have hd12 : d ≤ 12 := by omega
          have hv := mvR_shl (f := f) (d := d) (dy := dy) hy12 hs' hn'
          have hst := shU_set hy12 hv
          have q1 := shl_nat (n := n) hd12
          have q2 := and_4095 (n := n * 2 ^ d % 65536) (by omega)
          rw [Nat.mod_mod_of_dvd _ (by decide)] at q2
          have e9 := stc_at (k := .u16) (l := shU f d dy y) (by omega) hst
          simp (disch := omega) [b358_1, h15, h1, h2, h3, h6, h7, hyy, u1, hm, in295, hs, hm12, hl, hn, q1, q2, hy12, hlu, e9, e4, -Int.natCast_emod, -Int.natCast_mul, -Int.natCast_pow]
        · obtain ⟨d, rfl⟩ : ∃ d : Nat, dx = -(d : Int) := ⟨(-dx).toNat, by omega⟩
          have hd12 : d ≤ 12 := by omega
          have hv := mvR_shr (f := f) (d := d) (dy := dy) hy12 hs' hn' hn4
          have hst := shU_set hy12 hv
          have q1 := shr_nat (n := n) hd12
          have e9 := stc_at (k := .u16) (l := shU f (-(d : Int)) dy y) (by omega) hst
          have u2 : IntKind.wrap .i64 (d : Int) = (d : Int) := wrap64 (by omega)
          have hd0 : ¬ d = 0 := by omega
          simp (disch := omega) [b358_1, h15, h1, h2, h3, h6, h7, hyy, u1, hm, in295, hs, hm12, hl, hn, hd0, q1, u2, hy12, hlu, e9, e4, -Int.natCast_ediv, -Int.natCast_pow]
    · rintro e h15 ⟨h1, h2, h3, h6, h7⟩
      rw [shU_all] at h7
      simp [b358_1, h15, h6, h7, hz2, shF_length, agg_cs]
theorem put_off {G : Heap} {b : Nat} {x y : Int} (h : okP x y = false) : Call tab false 305 [adr b 0 0, .int .i64 x, .int .i64 y] G = some (tup [], G) := by
  refine Call_wp t305 (.inl rfl) rfl ?_
  simp [c305, k305, placeS, h]
theorem mv1_in {dx dy : Int} {x y u v : Nat} {s : List Int} (hx : x < 12) (e1 : (x : Int) + dx = u) (e2 : (y : Int) + dy = v) (hu : u < 12) (hv : v < 12) : mv1 dx dy (y * 12 + x) s = putF s u v := by
  have m1 : (y * 12 + x) % 12 = x := by omega
  have m2 : (y * 12 + x) / 12 = y := by omega
  rw [mv1, m1, m2, e1, e2, if_pos (by omega)]; rfl
theorem mv1_out {dx dy : Int} {x y : Nat} {s : List Int} (hx : x < 12) (h : okP ((x : Int) + dx) ((y : Int) + dy) = false) : mv1 dx dy (y * 12 + x) s = s := by
  have m1 : (y * 12 + x) % 12 = x := by omega
  have m2 : (y * 12 + x) / 12 = y := by omega
  rw [mv1, m1, m2, if_neg]
  intro h2
  have : okP ((x : Int) + dx) ((y : Int) + dy) = true := by simp [okP]; omega
  rw [this] at h; cases h
theorem mvS_length {dx dy : Int} {L : List Nat} : (mvS dx dy L).length = 12 := by rw [mvS_dots, dotsF_length]
theorem call355 {pu : Bool} {H : Heap} {q off ver : Nat} {f : List Int} {dx dy : Int} (hw : FrW f) (hr : rd H q off ver 12 = some (cs .u16 f)) (hx : -1000 ≤ dx ∧ dx ≤ 1000) (hy : -1000 ≤ dy ∧ dy ≤ 1000) :
    Call tab pu 355 [adr q off ver, .int .i64 dx, .int .i64 dy] H = some (iv .u16 (shF f dx dy), H) := by
  refine Call_wp t355 (.inr rfl) rfl ?_
  have hl := hw.len
  have hz := stc_zr (k := .u16) (n := 12) (l := shF f dx dy) shF_length
  have hle := dotL_len (f := f) (k := 144)
  obtain ⟨G0, hG0⟩ : ∃ G0, G0 = H ++ [⟨cs .u16 (zr 12 0), 1, 0, false⟩] := ⟨_, rfl⟩
  have hP0 : Pre H G0 := by rw [hG0]; exact Pre.one
  have hlen0 : G0.length = H.length + 1 := by rw [hG0]; simp
  have hc := call440 (pu := true) hw (hP0.rd hr)
  have hwr : wr H.length false (H ++ [⟨cs .u16 (zr 12 0), 1, 0, false⟩]) H.length 0 0 (cs .u16 (zr 12 0)) = some G0 := by
    rw [wr_at get_last rfl rfl (by simp [may]) (by simp), hG0]
    simp [splice]
  simp [c355, k355, zs_cs, agg_cs, fill, rep, hwr, wbOf, hc]
  refine WP_count 9 (dotL f 144).length _ rfl (fun j e G => e 1 = .int .i64 dx ∧ e 2 = .int .i64 dy ∧ e 6 = iv .u16 (zr 12 0) ∧ e 7 = adr H.length 0 0 ∧ e 8 = slc G0.length 0 0 (dotL f 144).length (dotL f 144).length ∧
    G = H ++ [⟨cs .u16 (mvS dx dy ((dotL f 144).take j)), 1, 0, false⟩, ⟨dotC f 144, 2, 0, false⟩]) (by omega) ?_ ?_ (by simp) ⟨by simp, by simp, by simp, by simp, by simp, by rw [hG0]; simp; rfl⟩
  · rintro j e _ _ hj hjj e4 h9 ⟨h1, h2, h6, h7, h8, rfl⟩
    obtain ⟨y, x, hp, hy12, hx12, hni, htk⟩ := dotL_at hj
    obtain ⟨F, hF⟩ : ∃ F, F = mvS dx dy ((dotL f 144).take j) := ⟨_, rfl⟩
    have hFl : F.length = 12 := by rw [hF, mvS_length]
    have hF1 : mvS dx dy ((dotL f 144).take (j + 1)) = mv1 dx dy (y * 12 + x) F := by rw [htk, mvS_snoc, hF]
    rw [hF1, ← hF]
    obtain ⟨G, hG⟩ : ∃ G, G = H ++ [⟨cs .u16 F, 1, 0, false⟩, ⟨dotC f 144, 2, 0, false⟩] := ⟨_, rfl⟩
    have hGG : G = H ++ [⟨cs .u16 F, 1, 0, false⟩] ++ [⟨dotC f 144, 2, 0, false⟩] := by rw [hG]; simp
    have pG : G[G0.length]? = some ⟨dotC f 144, 2, 0, false⟩ := by
      rw [hGG, hlen0]
      have := get_last (H := H ++ [⟨cs .u16 F, 1, 0, false⟩]) (b := ⟨dotC f 144, 2, 0, false⟩)
      rw [List.length_append] at this
      exact this
    have pF : G[H.length]? = some ⟨cs .u16 F, 1, 0, false⟩ := by
      rw [hGG, List.getElem?_append_left (by simp)]; exact get_last
    have hcl : (dotC f 144).length = (dotL f 144).length * 2 := by rw [dotC, mvsC_length]; simp
    have hs0 : SlR G (slc G0.length 0 0 (dotL f 144).length (dotL f 144).length) 2 (dotL f 144).length (dotC f 144) := ⟨hcl, .inr ⟨_, 0, 0, _, rfl, Nat.le_refl _, by rw [rd_at pG rfl (by simp [hcl])]; simp [take_all (Nat.le_of_eq hcl)], _, pG, rfl, rfl⟩⟩
    obtain ⟨b, o, v, ha, hr2⟩ := hs0.get1 hj
    have hel : elem (dotC f 144) 2 j = mvC ((x : Int), (y : Int)) := by
      rw [dotC, mvsC_elem (by simpa using hj), mv_map hj, hp, dotM_yx hx12]
    rw [hel] at hr2
    have d0 := rd_part hr2 (o := 0) (m := 1) (by omega)
    have d1 := rd_part hr2 (o := 1) (m := 1) (by omega)
    simp [mvC] at d0 d1
    have w1 : IntKind.wrap .i64 (x : Int) = x := wrap64 (by omega)
    have w2 : IntKind.wrap .i64 (y : Int) = y := wrap64 (by omega)
    have c1 : IntKind.wrap .i64 ((x : Int) + dx) = (x : Int) + dx := wrap64 (by omega)
    have c2 : IntKind.wrap .i64 ((y : Int) + dy) = (y : Int) + dy := wrap64 (by omega)
    rw [← hG]
    cases ho : okP ((x : Int) + dx) ((y : Int) + dy) with
    | false =>
      have hpo := put_off (G := G) (b := H.length) ho
      rw [mv1_out hx12 ho]
      simp [b355_1, h9, h1, h2, h6, h7, h8, hjj, ha, d0, d1, w1, w2, c1, c2, hpo, wbOf, e4, ← hG]
    | true =>
      obtain ⟨u, v, eu, ev, hu, hv⟩ := okP_get ho
      have hput := call305 (x := u) (y := v) pF hFl hu hv
      rw [mv1_in hx12 eu ev hu hv]
      have hset : G.set H.length ⟨cs .u16 (putF F u v), 1, 0, false⟩ = H ++ [⟨cs .u16 (putF F u v), 1, 0, false⟩, ⟨dotC f 144, 2, 0, false⟩] := by
        rw [hGG, List.set_append_left _ _ (by simp), set_last]; simp
      rw [hset] at hput
      rw [eu] at c1
      rw [ev] at c2
      have hel2 : elder H.length false G (tup [], H ++ [⟨cs .u16 (putF F u v), 1, 0, false⟩, ⟨dotC f 144, 2, 0, false⟩]) = some (tup [], H ++ [⟨cs .u16 (putF F u v), 1, 0, false⟩, ⟨dotC f 144, 2, 0, false⟩]) := elder_same (by rw [hG]; simp)
      simp [b355_1, h9, h1, h2, h6, h7, h8, hjj, ha, d0, d1, w1, w2, eu, ev, c1, c2, hput, hel2, wbOf, e4]
  · rintro e _ _ h9 ⟨h1, h2, h6, h7, h8, rfl⟩
    have hrd : rd (H ++ [⟨cs .u16 (mvS dx dy ((dotL f 144).take (dotL f 144).length)), 1, 0, false⟩, ⟨dotC f 144, 2, 0, false⟩]) H.length 0 0 12 = some (cs .u16 (shF f dx dy)) := by
      rw [List.take_length, mvS_all]
      have := rd_app (L := [⟨dotC f 144, 2, 0, false⟩]) (rd_last (H := H) (b := ⟨cs .u16 (shF f dx dy), 1, 0, false⟩) (n := 12) rfl (by simp [shF_length]))
      simpa using this
    rw [List.take_length] at hrd
    simp [b355_1, h9, h6, h7, h8, hrd, hz, shF_length, agg_cs]
/-- A list that has grown, or is none yet. -/
def GrN (H G : Heap) (x : Value) (esz n : Nat) (vs : List Value) : Prop := Gr H G x esz n vs ∨ (x = .slice none 0 0 ∧ n = 0 ∧ vs = [] ∧ Pre H G)
theorem GrN.pre {H G : Heap} {x : Value} {esz n : Nat} {vs : List Value} (g : GrN H G x esz n vs) : Pre H G := by
  rcases g with g | ⟨_, _, _, p⟩
  · exact g.pre
  · exact p
theorem GrN.sl {H G : Heap} {x : Value} {esz n : Nat} {vs : List Value} (g : GrN H G x esz n vs) : SlR G x esz n vs := by
  rcases g with g | ⟨rfl, rfl, rfl, _⟩
  · exact g.sl
  · exact ⟨by simp, .inl ⟨rfl, rfl⟩⟩
theorem GrN.push {H G : Heap} {x : Value} {esz n bytes : Nat} {vs c : List Value} (g : GrN H G x esz n vs) (hc : c.length = esz) (hb : (n + 1) * bytes ≤ roomMax) {wb : Bool} :
    ∃ x' G', ((srcOf esz (G ++ [⟨c, esz, 0, false⟩]) (slc G.length 0 0 1 1)).bind fun q => appendTo H.length wb esz bytes (G ++ [⟨c, esz, 0, false⟩]) x q.1 q.2) = some (x', G') ∧ GrN H G' x' esz (n + 1) (vs ++ c) := by
  rcases g with g | ⟨rfl, rfl, rfl, p⟩
  · obtain ⟨x', G', h1, h2⟩ := g.push hc hb (wb := wb)
    exact ⟨x', G', h1, .inl h2⟩
  · have e1 : srcOf esz (G ++ [⟨c, esz, 0, false⟩]) (slc G.length 0 0 1 1) = some (1, c) := by
      show (rd (G ++ [⟨c, esz, 0, false⟩]) G.length 0 0 (1 * esz)).map (fun cs => (1, cs)) = _
      rw [Nat.one_mul, rd_last rfl (by simpa using hc)]; rfl
    refine ⟨slc (G ++ [(⟨c, esz, 0, false⟩ : Blk)]).length 0 0 1 1, G ++ [(⟨c, esz, 0, false⟩ : Blk)] ++ [⟨c, esz, 0, false⟩], ?_, .inl ⟨_, 0, rfl, get_last, ?_, by simp [hc], (p.app).app⟩⟩
    · rw [e1, Option.bind_some]
      unfold appendTo
      simp only []
      rw [if_neg (by decide), if_pos (by simpa using hb)]
    · have := p.len
      simp; omega
theorem GrN.old {H G : Heap} {x : Value} {esz n : Nat} {vs : List Value} (g : GrN H G x esz n vs) : x = .slice none 0 0 ∨ old0 H.length x = false := by
  rcases g with ⟨b, ver, rfl, _, h, _⟩ | ⟨rfl, _⟩
  · right; rw [old0_slc]; simp; omega
  · exact .inl rfl
/-- A step in a block of its own. -/
structure StO (H G : Heap) (P : Nat) (s : Sted) (y : Value) : Prop where
  pre : Pre H G
  ge : H.length ≤ P
  blk : G[P]? = some ⟨stC s y, 1, 0, false⟩
  row : ∃ b, y = slc b 0 0 s.rows.length s.rows.length ∧ H.length ≤ b ∧ b ≠ P ∧ G[b]? = some ⟨chsC s.rows, 2, 0, false⟩
theorem StO.rd {H G : Heap} {P : Nat} {s : Sted} {y : Value} (h : StO H G P s y) : rd G P 0 0 5 = some (stC s y) := by
  rw [rd_at h.blk rfl (by simp [stC])]; rfl
theorem StO.app {H G G' : Heap} {P : Nat} {s : Sted} {y : Value} (p : Pre G G') (h : StO H G P s y) : StO H G' P s y := by
  refine ⟨h.pre.trans p, h.ge, by rw [p.get (List.getElem?_eq_some_iff.1 h.blk).1]; exact h.blk, ?_⟩
  obtain ⟨b, e, h1, h2, h3⟩ := h.row
  exact ⟨b, e, h1, h2, by rw [p.get (List.getElem?_eq_some_iff.1 h3).1]; exact h3⟩
theorem GrN.app {H G G' : Heap} {x : Value} {esz n : Nat} {vs : List Value} (g : GrN H G x esz n vs) (p : Pre G G') : GrN H G' x esz n vs := by
  rcases g with g | ⟨e1, e2, e3, q⟩
  · obtain ⟨L, rfl⟩ := p
    exact .inl g.app
  · exact .inr ⟨e1, e2, e3, q.trans p⟩
theorem GrN.low {H G G' : Heap} {x : Value} {esz n : Nat} {vs : List Value} (g : GrN G G' x esz n vs) (p : Pre H G) : GrN H G' x esz n vs := by
  rcases g with ⟨b, ver, e1, e2, e3, e4, q⟩ | ⟨e1, e2, e3, q⟩
  · exact .inl ⟨b, ver, e1, e2, Nat.le_trans p.len e3, e4, p.trans q⟩
  · exact .inr ⟨e1, e2, e3, p.trans q⟩
theorem okFs_get {b : List (List Int)} (h : okFs b = true) {i : Nat} (hi : i < b.length) : okF (fr b i) = true := List.all_eq_true.1 (show b.all okF = true from h) _ (at0_mem hi)
structure StP (H G : Heap) (P : Nat) (s : Sted) (y : Value) : Prop where
  ge : H.length ≤ P
  blk : G[P]? = some ⟨stC s y, 1, 0, false⟩
  row : GrN H G y 2 s.rows.length (chsC s.rows)
theorem StP.rd {H G : Heap} {P : Nat} {s : Sted} {y : Value} (h : StP H G P s y) : rd G P 0 0 5 = some (stC s y) := by
  rw [rd_at h.blk rfl (by simp [stC])]; rfl
theorem StP.app {H G G' : Heap} {P : Nat} {s : Sted} {y : Value} (p : Pre G G') (h : StP H G P s y) : StP H G' P s y :=
  ⟨h.ge, by rw [p.get (List.getElem?_eq_some_iff.1 h.blk).1]; exact h.blk, h.row.app p⟩
theorem GrN.set {H G : Heap} {y : Value} {n P : Nat} {vs : List Value} {k k' : Blk} (g : GrN H G y 2 n vs) (ge : H.length ≤ P) (hP : G[P]? = some k) (hk : k.esz = 1) : GrN H (G.set P k') y 2 n vs := by
  rcases g with ⟨b, ver, e1, e2, e3, e4, q⟩ | ⟨e1, e2, e3, q⟩
  · have hne : P ≠ b := by
      rintro rfl
      rw [hP] at e2
      cases e2
      cases hk
    exact .inl ⟨b, ver, e1, by rw [List.getElem?_set_ne hne]; exact e2, e3, e4, q.set ge⟩
  · exact .inr ⟨e1, e2, e3, q.set ge⟩
/-- A list of steps that grows: the rows stand in blocks of their own. -/
def GrS (H G : Heap) (x : Value) (l : List Sted) : Prop := ∃ b ver vs, x = slc b 0 ver l.length l.length ∧ G[b]? = some ⟨vs, 5, ver, false⟩ ∧ H.length ≤ b ∧ vs.length = l.length * 5 ∧ Pre H G ∧
  ∀ i, i < l.length → ∃ y, elem vs 5 i = stC (at0 l i) y ∧ GrN H G y 2 (at0 l i).rows.length (chsC (at0 l i).rows)
theorem GrN.put {H G : Heap} {y : Value} {n P : Nat} {vs : List Value} {k k' : Blk} (g : GrN H G y 2 n vs) (ge : H.length ≤ P) (hP : G[P]? = some k) (hk : k.esz ≠ 2) : GrN H (G.set P k') y 2 n vs := by
  rcases g with ⟨b, ver, e1, e2, e3, e4, q⟩ | ⟨e1, e2, e3, q⟩
  · have hne : P ≠ b := by
      rintro rfl
      rw [hP] at e2
      cases e2
      exact hk rfl
    exact .inl ⟨b, ver, e1, by rw [List.getElem?_set_ne hne]; exact e2, e3, e4, q.set ge⟩
  · exact .inr ⟨e1, e2, e3, q.set ge⟩
theorem GrS.new {H G : Heap} (p : Pre H G) : GrS H (G ++ [⟨[], 5, 0, false⟩]) (slc G.length 0 0 0 0) [] := ⟨_, _, _, rfl, get_last, p.len, by simp, p.app, fun i hi => by simp at hi⟩
theorem GrS.pre {H G : Heap} {x : Value} {l : List Sted} (g : GrS H G x l) : Pre H G := by obtain ⟨_, _, _, _, _, _, _, p, _⟩ := g; exact p
theorem at0_app {α : Type} [Inhabited α] {l : List α} {a : α} {i : Nat} : at0 (l ++ [a]) i = if i < l.length then at0 l i else if i = l.length then a else default := by
  unfold at0
  by_cases h : i < l.length
  · rw [if_pos h]; simp [List.getD_eq_getElem?_getD, List.getElem?_append_left h]
  · rw [if_neg h]
    by_cases h2 : i = l.length
    · rw [if_pos h2]; subst h2; simp [List.getD_eq_getElem?_getD]
    · rw [if_neg h2, List.getD_eq_getElem?_getD, List.getElem?_eq_none (by simp; omega)]; rfl
theorem GrS.push {H G : Heap} {x : Value} {l : List Sted} {s : Sted} {y : Value} (g : GrS H G x l) (hy : GrN H G y 2 s.rows.length (chsC s.rows)) (hb : (l.length + 1) * 32 ≤ roomMax) {wb : Bool} :
    ∃ x' G', ((srcOf 5 (G ++ [⟨stC s y, 5, 0, false⟩]) (slc G.length 0 0 1 1)).bind fun q => appendTo H.length wb 5 32 (G ++ [⟨stC s y, 5, 0, false⟩]) x q.1 q.2) = some (x', G') ∧ GrS H G' x' (l ++ [s]) ∧ ∀ (b' : Nat) (k : Blk), G[b']? = some k → k.esz ≠ 5 → G'[b']? = some k := by
  obtain ⟨b, ver, vs, rfl, h1, h2, h3, h4, h5⟩ := g
  obtain ⟨G1, hG1⟩ : ∃ G1, G1 = G ++ [(⟨stC s y, 5, 0, false⟩ : Blk)] := ⟨_, rfl⟩
  have p1 : Pre G G1 := by rw [hG1]; exact Pre.one
  have h1' : G1[b]? = some ⟨vs, 5, ver, false⟩ := by rw [p1.get (List.getElem?_eq_some_iff.1 h1).1]; exact h1
  have e1 : srcOf 5 G1 (slc G.length 0 0 1 1) = some (1, stC s y) := by
    show (rd G1 G.length 0 0 (1 * 5)).map (fun cs => (1, cs)) = _
    rw [Nat.one_mul, hG1, rd_last rfl (by simp [stC])]; rfl
  rw [← hG1]
  have hl : (stC s y).length = 5 := rfl
  refine ⟨slc b 0 (ver + 1) (l.length + 1) (l.length + 1), G1.set b ⟨vs ++ stC s y, 5, ver + 1, false⟩, ?_, ⟨b, ver + 1, vs ++ stC s y, by simp, get_set h1', h2, by simp [h3, hl]; omega, (h4.trans p1).set h2, fun i hi => ?_⟩, fun b' k hk he => ?_⟩
  · rw [e1, Option.bind_some]
    exact appendTo_grow h1' rfl rfl (by simp [may, h2]) rfl h3.symm (by omega) hb
  · rw [at0_app]
    by_cases hil : i < l.length
    · rw [if_pos hil]
      obtain ⟨y', e2, e3⟩ := h5 i hil
      have hm := mul_next (esz := 5) hil
      refine ⟨y', ?_, (e3.app p1).put h2 h1' (by simp)⟩
      rw [← e2]
      unfold elem
      rw [List.drop_append_of_le_length (by omega), List.take_append_of_le_length (by simp; omega)]
    · have hie : i = l.length := by simp at hi; omega
      rw [if_neg hil, if_pos hie]
      subst hie
      refine ⟨y, ?_, (hy.app p1).put h2 h1' (by simp)⟩
      unfold elem
      rw [← h3, List.drop_left, List.take_of_length_le (by rw [hl]; omega)]
  · have hne : b ≠ b' := by
      rintro rfl
      rw [h1] at hk
      cases hk
      exact he rfl
    rw [List.getElem?_set_ne hne, p1.get (List.getElem?_eq_some_iff.1 hk).1]
    exact hk
/-- Only blocks of one kind have changed. -/
def KeepE (e : Nat) (G G' : Heap) : Prop := ∀ (b : Nat) (k : Blk), G[b]? = some k → k.esz ≠ e → G'[b]? = some k
theorem KeepE.pre {e : Nat} {G G' : Heap} (p : Pre G G') : KeepE e G G' := fun b k h _ => by rw [p.get (List.getElem?_eq_some_iff.1 h).1]; exact h
theorem KeepE.trans {e : Nat} {A B C : Heap} (h : KeepE e A B) (h' : KeepE e B C) : KeepE e A C := fun b k q n => h' b k (h b k q n) n
theorem GrN.keep {e : Nat} {H G G' : Heap} {y : Value} {n : Nat} {vs : List Value} (g : GrN H G y 2 n vs) (k : KeepE e G G') (he : e ≠ 2) (p : Pre H G') : GrN H G' y 2 n vs := by
  rcases g with ⟨b, ver, e1, e2, e3, e4, _⟩ | ⟨e1, e2, e3, _⟩
  · exact .inl ⟨b, ver, e1, k _ _ e2 (by simp only []; omega), e3, e4, p⟩
  · exact .inr ⟨e1, e2, e3, p⟩
theorem GrS.keep {e : Nat} {H G G' : Heap} {x : Value} {l : List Sted} (g : GrS H G x l) (k : KeepE e G G') (he : e ≠ 2) (he5 : e ≠ 5) (p : Pre H G') : GrS H G' x l := by
  obtain ⟨b, ver, vs, e1, h1, h2, h3, _, h5⟩ := g
  refine ⟨b, ver, vs, e1, k _ _ h1 (by simp only []; omega), h2, h3, p, fun i hi => ?_⟩
  obtain ⟨y, e2, e3⟩ := h5 i hi
  exact ⟨y, e2, e3.keep k he p⟩
theorem Gr.keep {e esz : Nat} {H G G' : Heap} {x : Value} {n : Nat} {vs : List Value} (g : Gr H G x esz n vs) (k : KeepE e G G') (he : e ≠ esz) (p : Pre H G') : Gr H G' x esz n vs := by
  obtain ⟨b, ver, e1, h1, h2, h3, _⟩ := g
  exact ⟨b, ver, e1, k _ _ h1 (by simp only []; omega), h2, h3, p⟩
@[simp] theorem blkOf_adr {b o v : Nat} : blkOf (adr b o v) = some b := rfl
@[simp] theorem blkOf_slc {b o v n c : Nat} : blkOf (slc b o v n c) = some b := rfl
@[simp] theorem blkOf_nil {n c : Nat} : blkOf (.slice none n c) = none := rfl
/-- A piece appended to a list of a call's own. -/
theorem push_at {n0 b ver n esz bytes : Nat} {G : Heap} {vs c : List Value} {wb : Bool} (hg : G[b]? = some ⟨vs, esz, ver, false⟩) (hb : n0 ≤ b) (hl : vs.length = n * esz) (hc : c.length = esz) (hr : (n + 1) * bytes ≤ roomMax) :
    ((srcOf esz (G ++ [⟨c, esz, 0, false⟩]) (slc G.length 0 0 1 1)).bind fun q => appendTo n0 wb esz bytes (G ++ [⟨c, esz, 0, false⟩]) (slc b 0 ver n n) q.1 q.2) =
      some (slc b 0 (ver + 1) (n + 1) (n + 1), (G ++ [(⟨c, esz, 0, false⟩ : Blk)]).set b ⟨vs ++ c, esz, ver + 1, false⟩) := by
  have h1' : (G ++ [(⟨c, esz, 0, false⟩ : Blk)])[b]? = some ⟨vs, esz, ver, false⟩ := by rw [List.getElem?_append_left (List.getElem?_eq_some_iff.1 hg).1]; exact hg
  have e1 : srcOf esz (G ++ [⟨c, esz, 0, false⟩]) (slc G.length 0 0 1 1) = some (1, c) := by
    show (rd (G ++ [⟨c, esz, 0, false⟩]) G.length 0 0 (1 * esz)).map (fun cs => (1, cs)) = _
    rw [Nat.one_mul, rd_last rfl (by simpa using hc)]; rfl
  rw [e1, Option.bind_some]
  exact appendTo_grow h1' rfl rfl (by simp [may, hb]) rfl hl.symm (by omega) hr
theorem push_get {b b' : Nat} {G : Heap} {k k' : Blk} (hb : b' ≠ b) (hl : b' < G.length) : ((G ++ [k']).set b k)[b']? = G[b']? := by
  rw [List.getElem?_set_ne (Ne.symm hb), List.getElem?_append_left hl]
theorem push_self {b : Nat} {G : Heap} {k k' : Blk} (hl : b < G.length) : ((G ++ [k']).set b k)[b]? = some k := by
  rw [List.getElem?_set_self (by simp; omega)]
theorem push_pre {H G : Heap} {b : Nat} {k k' : Blk} (p : Pre H G) (hb : H.length ≤ b) : Pre H ((G ++ [k']).set b k) := (p.app).set hb
theorem GrN.ownC {H G : Heap} {x : Value} {esz n : Nat} {vs : List Value} (g : GrN H G x esz n vs) : Own G x (blkOf x) H.length esz n vs := by
  rcases g with ⟨b, ver, rfl, h1, h2, h3, _⟩ | ⟨rfl, rfl, rfl, _⟩
  · exact ⟨h3, h2, ver, n, [], rfl, Nat.le_refl _, by rw [List.append_nil]; exact h1⟩
  · exact ⟨by simp, rfl, rfl⟩
/-- Cells of records of five, the last of which leads to rows of its own. -/
structure RawD (n0 : Nat) (G : Heap) (b ver n : Nat) (ys : Nat → Value) (β : Nat → Option Nat) (hd : Nat → List Value) (m : Nat → Nat) (rc : Nat → List Value) : Prop where
  lo : n0 ≤ b
  out : ∃ vs, G[b]? = some ⟨vs, 5, ver, false⟩ ∧ vs.length = n * 5 ∧ ∀ i, i < n → elem vs 5 i = hd i ++ [ys i]
  hl : ∀ i, i < n → (hd i).length = 4
  row : ∀ i, i < n → Own G (ys i) (β i) n0 2 (m i) (rc i)
  dis : ∀ i j q, i < n → j < n → β i = some q → β j = some q → i = j
theorem RawD.lt {n0 b ver n : Nat} {G : Heap} {ys : Nat → Value} {β : Nat → Option Nat} {hd rc : Nat → List Value} {m : Nat → Nat} (h : RawD n0 G b ver n ys β hd m rc) : b < G.length := by
  obtain ⟨vs, hg, _⟩ := h.out
  exact (List.getElem?_eq_some_iff.1 hg).1
theorem RawD.ne {n0 b ver n : Nat} {G : Heap} {ys : Nat → Value} {β : Nat → Option Nat} {hd rc : Nat → List Value} {m : Nat → Nat} (h : RawD n0 G b ver n ys β hd m rc) {i q : Nat} (hi : i < n) (hq : β i = some q) : q ≠ b := by
  rintro rfl
  obtain ⟨vs, hg, _⟩ := h.out
  obtain ⟨_, h2⟩ := h.row i hi
  rw [hq] at h2
  obtain ⟨_, ver', cap, rest, _, _, hg'⟩ := h2
  rw [hg] at hg'
  cases hg'
/-- What keeps the blocks keeps the list. -/
theorem RawD.keep {n0 b ver n : Nat} {G G' : Heap} {ys : Nat → Value} {β : Nat → Option Nat} {hd rc : Nat → List Value} {m : Nat → Nat} (h : RawD n0 G b ver n ys β hd m rc)
    (k : ∀ (b' : Nat) (k : Blk), G[b']? = some k → k.esz ≠ 1 → G'[b']? = some k) : RawD n0 G' b ver n ys β hd m rc := by
  refine ⟨h.lo, ?_, h.hl, fun i hi => ?_, h.dis⟩
  · obtain ⟨vs, hg, h2⟩ := h.out
    exact ⟨vs, k _ _ hg (by simp), h2⟩
  · obtain ⟨h1, h2⟩ := h.row i hi
    refine ⟨h1, ?_⟩
    cases hb : β i with
    | none => rw [hb] at h2; exact h2
    | some q =>
      rw [hb] at h2
      obtain ⟨hb, ver', cap, rest, e1, hc, hg⟩ := h2
      exact ⟨hb, ver', cap, rest, e1, hc, k _ _ hg (by simp)⟩
theorem RawD.pre {n0 b ver n : Nat} {G G' : Heap} {ys : Nat → Value} {β : Nat → Option Nat} {hd rc : Nat → List Value} {m : Nat → Nat} (p : Pre G G') (h : RawD n0 G b ver n ys β hd m rc) : RawD n0 G' b ver n ys β hd m rc :=
  h.keep fun b' k hk _ => by rw [p.get (List.getElem?_eq_some_iff.1 hk).1]; exact hk
theorem RawD.low {n0 n1 b ver n : Nat} {G : Heap} {ys : Nat → Value} {β : Nat → Option Nat} {hd rc : Nat → List Value} {m : Nat → Nat} (h : RawD n0 G b ver n ys β hd m rc) (hn : n1 ≤ n0) : RawD n1 G b ver n ys β hd m rc :=
  ⟨Nat.le_trans hn h.lo, h.out, h.hl, fun i hi => (h.row i hi).low hn, h.dis⟩
theorem RawD.rows {n0 b ver n : Nat} {G G' : Heap} {ys : Nat → Value} {β : Nat → Option Nat} {hd rc : Nat → List Value} {m : Nat → Nat} (h : RawD n0 G b ver n ys β hd m rc) {i : Nat} {c : List Value} (hi : i < n) (s : SameB G G' (β i)) (ho : Own G' (ys i) (β i) n0 2 (m i) c) :
    RawD n0 G' b ver n ys β hd m (fun j => if j = i then c else rc j) := by
  refine ⟨h.lo, ?_, h.hl, fun j hj => ?_, h.dis⟩
  · obtain ⟨vs, hg, h2⟩ := h.out
    refine ⟨vs, ?_, h2⟩
    rw [s.get]
    · exact hg
    · intro hq; exact h.ne hi hq rfl
  · by_cases hji : j = i
    · subst hji; simp only [if_pos rfl]; exact ho
    · simp only [if_neg hji]
      exact (h.row j hj).agree fun q hq => s.get q fun he => hji (h.dis j i q hj hi hq he)
/- Marks. -/
def msH (c : Int) : List Value := [.int .i8 (IntKind.wrap .i8 c), .int .i8 (IntKind.wrap .i8 (c + 1)), .int .i8 (IntKind.wrap .i8 (c + 2)), .int .i8 (IntKind.wrap .i8 (c + 3))]
def mkP (m : Nat → Nat) (i : Nat) : Int := 101 + (mkS m i : Nat)
/-- A list of steps, with rows of its own. -/
def StD (n0 : Nat) (G : Heap) (b ver : Nat) (l : List Sted) : Prop := ∃ ys β, RawD n0 G b ver l.length ys β (fun i => [.int .i8 (at0 l i).a, .int .i8 (at0 l i).b, .int .i8 (at0 l i).c, .int .i8 (at0 l i).d]) (fun i => (at0 l i).rows.length) (fun i => chsC (at0 l i).rows)
theorem StD.new {n0 : Nat} {G : Heap} (h : n0 ≤ G.length) : StD n0 (G ++ [⟨[], 5, 0, false⟩]) G.length 0 [] :=
  ⟨fun _ => U, fun _ => none, h, ⟨_, get_last, rfl, fun i hi => by simp at hi⟩, fun i hi => by simp at hi, fun i hi => by simp at hi, fun i j q hi => by simp at hi⟩
theorem StD.pre {n0 b ver : Nat} {G G' : Heap} {l : List Sted} (p : Pre G G') (h : StD n0 G b ver l) : StD n0 G' b ver l := by
  obtain ⟨ys, β, h⟩ := h; exact ⟨ys, β, h.pre p⟩
theorem StD.lt {n0 b ver : Nat} {G : Heap} {l : List Sted} (h : StD n0 G b ver l) : b < G.length := by
  obtain ⟨ys, β, h⟩ := h; exact h.lt
theorem StD.lo {n0 b ver : Nat} {G : Heap} {l : List Sted} (h : StD n0 G b ver l) : n0 ≤ b := by
  obtain ⟨ys, β, h⟩ := h; exact h.lo
/-- Another step. -/
theorem StD.push {n0 b ver : Nat} {K G : Heap} {l : List Sted} {s : Sted} {y : Value} (g : StD n0 K b ver l) (p : Pre K G) (hy : GrN K G y 2 s.rows.length (chsC s.rows)) (hn : n0 ≤ K.length) (hb : (l.length + 1) * 32 ≤ roomMax) {wb : Bool} :
    ∃ G', ((srcOf 5 (G ++ [⟨stC s y, 5, 0, false⟩]) (slc G.length 0 0 1 1)).bind fun q => appendTo n0 wb 5 32 (G ++ [⟨stC s y, 5, 0, false⟩]) (slc b 0 ver l.length l.length) q.1 q.2) = some (slc b 0 (ver + 1) (l.length + 1) (l.length + 1), G') ∧
      StD n0 G' b (ver + 1) (l ++ [s]) ∧ (∀ (b' : Nat) (k : Blk), b' ≠ b → G[b']? = some k → G'[b']? = some k) ∧ ∀ H : Heap, Pre H G → H.length ≤ b → Pre H G' := by
  obtain ⟨ys, β, g⟩ := g
  have hβK : ∀ i q, i < l.length → β i = some q → q < K.length := fun i q hi hq => by
    obtain ⟨_, h2⟩ := g.row i hi
    rw [hq] at h2
    obtain ⟨_, _, _, _, _, _, h3⟩ := h2
    exact (List.getElem?_eq_some_iff.1 h3).1
  have hbK := g.lt
  have g' := g.pre p
  obtain ⟨vs, h1, h3, h5⟩ := g'.out
  have hbG := g'.lt
  have hlen : (stC s y).length = 5 := rfl
  have oy := hy.ownC
  have hne : ∀ q, blkOf y = some q → q ≠ b := fun q hq => by have := oy.below q hq; omega
  have hkeep : ∀ (b' : Nat) (k : Blk), b' ≠ b → G[b']? = some k → ((G ++ [(⟨stC s y, 5, 0, false⟩ : Blk)]).set b ⟨vs ++ stC s y, 5, ver + 1, false⟩)[b']? = some k := fun b' k hb' hk => by
    rw [push_get hb' (List.getElem?_eq_some_iff.1 hk).1]; exact hk
  refine ⟨_, push_at h1 g.lo h3 rfl hb, ⟨fun i => if i < l.length then ys i else y, fun i => if i < l.length then β i else blkOf y, g.lo, ⟨_, push_self hbG, by simp [h3, hlen]; omega, fun i hi => ?_⟩, fun i hi => rfl, fun i hi => ?_, fun i j q hi hj => ?_⟩, hkeep, fun H pH hH => push_pre pH hH⟩
  · rw [at0_app]
    by_cases hil : i < l.length
    · have hm := mul_next (esz := 5) hil
      simp only [if_pos hil]
      rw [← h5 i hil]
      unfold elem
      rw [List.drop_append_of_le_length (by omega), List.take_append_of_le_length (by simp; omega)]
    · have hie : i = l.length := by simp at hi; omega
      simp only [if_neg hil, if_pos hie]
      subst hie
      unfold elem
      rw [← h3, List.drop_left, List.take_of_length_le (by rw [hlen]; omega)]; rfl
  · by_cases hil : i < l.length
    · simp only [at0_app, if_pos hil]
      exact (g'.row i hil).agree fun q hq => by
        have := hβK i q hil hq
        have := p.len
        exact push_get (g'.ne hil hq) (by omega)
    · have hie : i = l.length := by simp at hi; omega
      simp only [at0_app, if_neg hil, if_pos hie]
      exact (oy.low hn).agree fun q hq => by
        obtain ⟨_, h2⟩ := oy
        rw [hq] at h2
        obtain ⟨_, _, _, _, _, _, h3⟩ := h2
        exact push_get (hne q hq) (List.getElem?_eq_some_iff.1 h3).1
  · simp at hi hj
    by_cases hil : i < l.length
    · by_cases hjl : j < l.length
      · simp only [if_pos hil, if_pos hjl]
        exact g.dis i j q hil hjl
      · simp only [if_pos hil, if_neg hjl]
        intro e1 e2
        have := hβK i q hil e1
        have := oy.below q e2
        omega
    · by_cases hjl : j < l.length
      · simp only [if_neg hil, if_pos hjl]
        intro e1 e2
        have := hβK j q hjl e2
        have := oy.below q e1
        omega
      · intro _ _; omega
/-- What a function hands back: steps, and numbers. -/
theorem StD.fin {H G : Heap} {b ver : Nat} {l : List Sted} {rest : List Value} (g : StD H.length G b ver l) (p : Pre H G) (hr : rest.all (old1 H.length) = true) :
    ∃ b' ver' G', finish H.length G (slc b 0 ver l.length l.length :: rest) = (one (slc b' 0 ver' l.length l.length :: rest), G') ∧ StD H.length G' b' ver' l ∧ Pre H G' := by
  obtain ⟨ys, β, g⟩ := g
  obtain ⟨vs, hg, h3, h5⟩ := g.out
  have hlo := g.lo
  have hne : old1 H.length (slc b 0 ver l.length l.length) = false := by
    show (true && decide (b < H.length)) = false
    simp; omega
  cases ho : vs.all (old0 H.length) with
  | false =>
    refine ⟨b, ver, G, ?_, ⟨ys, β, g⟩, p⟩
    have : pack H.length G (slc b 0 ver l.length l.length :: rest) [] [] = none := by
      rw [pack, if_neg (by rw [hne]; decide)]
      show (match G[b]? with
        | some k => if ([] : List Nat).contains b = false ∧ ver = k.ver ∧ k.ro = false ∧ k.cells.all (old0 H.length) = true then _ else none
        | none => none) = _
      rw [hg]
      simp only []
      rw [if_neg (by rw [ho]; simp)]
    unfold finish; rw [this]
  | true =>
    have hall := List.all_eq_true.1 ho
    have hnil : ∀ i, i < l.length → β i = none := fun i hi => by
      obtain ⟨_, h2⟩ := g.row i hi
      cases hb : β i with
      | none => rfl
      | some q =>
        exfalso
        rw [hb] at h2
        obtain ⟨hq, ver', cap, rest, e1, _, _⟩ := h2
        have hm : ys i ∈ vs := mem_elem (esz := 5) (i := i) (by rw [h5 i hi]; simp)
        have := hall _ hm
        rw [e1, old0_slc] at this
        simp at this; omega
    refine ⟨H.length, 0, H ++ [⟨vs, 5, 0, false⟩], ?_, ⟨ys, β, Nat.le_refl _, ⟨vs, get_last, h3, h5⟩, g.hl, fun i hi => ?_, g.dis⟩, Pre.one⟩
    · have : pack H.length G (slc b 0 ver l.length l.length :: rest) [] [] = some (slc H.length 0 0 l.length l.length :: rest, [⟨vs, 5, 0, false⟩]) := by
        rw [pack, if_neg (by rw [hne]; decide)]
        show (match G[b]? with
          | some k => if ([] : List Nat).contains b = false ∧ ver = k.ver ∧ k.ro = false ∧ k.cells.all (old0 H.length) = true then (pack H.length G rest (b :: []) ([] ++ [{ k with ver := 0 }])).map fun (q : List Value × List Blk) => (slc (H.length + ([] : List Blk).length) 0 0 l.length l.length :: q.1, q.2) else none
          | none => none) = _
        rw [hg]
        simp only []
        rw [if_pos ⟨by simp, by simp, by simp, ho⟩, pack_all hr]; rfl
      rw [finish_some this, p.take]
    · obtain ⟨h1, h2⟩ := g.row i hi
      rw [hnil i hi] at h2 ⊢
      exact ⟨h1, h2⟩
/-- Steps with rows of their own, or nothing. -/
def StX (n0 : Nat) (G : Heap) (x : Value) (l : List Sted) : Prop := (x = .slice none 0 0 ∧ l = []) ∨ ∃ b ver, x = slc b 0 ver l.length l.length ∧ StD n0 G b ver l
theorem StX.pre {n0 : Nat} {G G' : Heap} {x : Value} {l : List Sted} (p : Pre G G') (h : StX n0 G x l) : StX n0 G' x l := by
  rcases h with h | ⟨b, ver, rfl, h⟩
  · exact .inl h
  · exact .inr ⟨b, ver, rfl, h.pre p⟩
/-- Marks over steps. -/
def MkX (n0 : Nat) (G : Heap) (x : Value) (l : List Sted) : Prop := (x = .slice none 0 0 ∧ l = []) ∨ ∃ b ver ys β, x = slc b 0 ver l.length l.length ∧
  RawD n0 G b ver l.length ys β (fun i => msH (mkP (fun i => (at0 l i).rows.length) i)) (fun i => (at0 l i).rows.length) (fun i => mkL (ms2 (mkP (fun i => (at0 l i).rows.length) i + 4)) ((at0 l i).rows.length * 2))
theorem MkX.pre {n0 : Nat} {G G' : Heap} {x : Value} {l : List Sted} (p : Pre G G') (h : MkX n0 G x l) : MkX n0 G' x l := by
  rcases h with h | ⟨b, ver, ys, β, rfl, h⟩
  · exact .inl h
  · exact .inr ⟨b, ver, ys, β, rfl, h.pre p⟩
/-- Steps, what they cost, and a code. -/
def RsE (H : Heap) (r : Value × Heap) (l : List Sted) (t c : Int) : Prop := ∃ x G, r = (tup [x, .int .i64 t, .int .i64 c], G) ∧ StX H.length G x l ∧ Pre H G
theorem okB_fs2 {b : List (List Int)} (h : okB b = true) : okFs b = true ∧ b.length ≤ 40 := by
  simp only [okB, Bool.and_eq_true, decide_eq_true_eq] at h; exact h
theorem StX.fin {H G : Heap} {x : Value} {l : List Sted} {t c : Int} (h : StX H.length G x l) (p : Pre H G) : ∃ r, finish H.length G [x, .int .i64 t, .int .i64 c] = r ∧ RsE H r l t c := by
  rcases h with ⟨rfl, rfl⟩ | ⟨b, ver, rfl, h⟩
  · have e1 : finish H.length G [.slice none 0 0, .int .i64 t, .int .i64 c] = (one [.slice none 0 0, .int .i64 t, .int .i64 c], G.take H.length) := finish_vs (by simp)
    rw [p.take] at e1
    exact ⟨_, e1, .slice none 0 0, H, rfl, .inl ⟨rfl, rfl⟩, .refl⟩
  · obtain ⟨b', ver', G', e, h1, h2⟩ := h.fin p (rest := [.int .i64 t, .int .i64 c]) rfl
    exact ⟨_, e, _, G', rfl, .inr ⟨b', ver', rfl, h1⟩, h2⟩
inductive Lo (σ : Type) where
  | go (s : σ)
  | st (s : σ)
def lpM {σ : Type} (f : σ → Option (Lo σ)) : Nat → σ → Option σ
  | 0, _ => none
  | n + 1, s => match f s with
    | some (.go s') => lpM f n s'
    | some (.st s') => some s'
    | none => none
/-- A loop that does what a plain one does. -/
theorem WK_sim {σ : Type} {T : Tab} {n0 : Nat} {wb : Bool} {e : Env} {H : Heap} {Q : Ex → Env → Heap → Prop} {fs : List Fr} {b : Cd} (f : σ → Option (Lo σ)) (I : σ → Env → Heap → Prop) {r : σ}
    (round : ∀ s s' e' H', (∀ q, q ∉ outsAll b → e' q = e q) → I s e' H' → f s = some (.go s') → WK T n0 wb b [] e' H' (rnd T n0 wb (I s') fs Q))
    (last : ∀ s e' H', (∀ q, q ∉ outsAll b → e' q = e q) → I s e' H' → f s = some (.st r) → WK T n0 wb b [] e' H' (rnd T n0 wb (fun _ _ => False) fs Q))
    {fuel : Nat} {s : σ} (h : lpM f fuel s = some r) (h0 : I s e H) : WK T n0 wb (.loop b) fs e H Q := by
  refine WK_loop (fun k e' H' => ∃ s, lpM f (fuel - k) s = some r ∧ I s e' H') fuel ?_ (Nat.zero_le _) ⟨s, h, h0⟩
  rintro k e' H' hf hk ⟨s, hs, hI⟩
  cases hm : fuel - k with
  | zero => rw [hm] at hs; cases hs
  | succ m =>
    rw [hm] at hs
    simp only [lpM] at hs
    cases hfs : f s with
    | none => rw [hfs] at hs; cases hs
    | some o =>
      rw [hfs] at hs
      cases o with
      | go s' =>
        refine (round s s' e' H' hf hI hfs).mono fun x e1 H1 q => ?_
        cases x with
        | normal => exact ⟨by omega, s', by rw [show fuel - (k + 1) = m by omega]; exact hs, q⟩
        | exit j => exact q
        | ret => exact q
      | st s' =>
        cases hs
        refine (last s e' H' hf hI hfs).mono fun x e1 H1 q => ?_
        cases x with
        | normal => exact q.elim
        | exit j => exact q
        | ret => exact q
/- Moves, compared by how far they go. -/
def szI (a : Int) : Int := if a < -a then -a else a
def mkey (a : Int × Int) : Int := szI a.1 + szI a.2
def kcmp (a b : Int × Int) : Int := if mkey a < mkey b then -1 else if mkey b < mkey a then 1 else 0
abbrev ML := List (Int × Int)
def smallM (a : Int × Int) : Bool := decide (-100 ≤ a.1 ∧ a.1 ≤ 100) && decide (-100 ≤ a.2 ∧ a.2 ≤ 100)
def gtM (l : ML) (i : Int) : Option (Int × Int) := if 0 ≤ i ∧ i < l.length then some (at0 l i.toNat) else none
def swM (l : ML) (i j : Int) : Option ML := (gtM l i).bind fun a => (gtM l j).bind fun b => some ((l.set i.toNat b).set j.toNat a)
def cmM (l : ML) (i j : Int) : Option Int := (gtM l i).bind fun a => (gtM l j).bind fun b => if (smallM a && smallM b) = true then some (kcmp a b) else none
def in9 (a : Int) : Bool := decide (0 ≤ a ∧ a ≤ 1000)
def swapR (l : ML) (a b k : Int) : Option ML :=
  if (in9 a && in9 b && in9 k) = true then
    (lpM (fun (s : ML × Int) => if s.2 < k then (swM s.1 (a + s.2) (b + s.2)).map fun l' => .go (l', s.2 + 1) else some (.st s)) 200 (l, 0)).map (·.1)
  else none
def rotM (l : ML) (a m b : Int) : Option ML :=
  if (in9 a && in9 m && in9 b) = true then
    (lpM (fun (s : ML × Int × Int) => if s.2.1 = s.2.2 then some (.st s) else if (in9 s.2.1 && in9 s.2.2) = true then
        if s.2.2 < s.2.1 then (swapR s.1 (m - s.2.1) m s.2.2).map fun l' => .go (l', s.2.1 - s.2.2, s.2.2)
        else (swapR s.1 (m - s.2.1) (m + s.2.2 - s.2.1) s.2.1).map fun l' => .go (l', s.2.1, s.2.2 - s.2.1) else none) 200 (l, m - a, b - m)).bind fun s =>
      if in9 s.2.1 = true then swapR s.1 (m - s.2.1) m s.2.1 else none
  else none
def insM (l : ML) (a b : Int) : Option ML :=
  if (in9 a && in9 b) = true then
    (lpM (fun (s : ML × Int) => if s.2 < b then
        (lpM (fun (s : ML × Int) => if a < s.2 then (cmM s.1 s.2 (s.2 - 1)).bind fun c => if c < 0 then (swM s.1 s.2 (s.2 - 1)).map fun l' => .go (l', s.2 - 1) else some (.st s) else some (.st s)) 200 (s.1, s.2)).map fun t => .go (t.1, s.2 + 1)
      else some (.st s)) 200 (l, a + 1)).map (·.1)
  else none
/-- Halves. -/
def hf (i j : Int) : Int := (i + j) / 2
def symM : Nat → ML → Int → Int → Int → Option ML
  | 0, _, _, _, _ => none
  | f + 1, l, a, m, b =>
    if (in9 a && in9 m && in9 b) = true then
      if m - a = 1 then
        (lpM (fun (s : Int × Int) => if s.1 < s.2 then (cmM l (hf s.1 s.2) a).map fun c => if c < 0 then .go (hf s.1 s.2 + 1, s.2) else .go (s.1, hf s.1 s.2) else some (.st s)) 200 (m, b)).bind fun s =>
          (lpM (fun (t : ML × Int) => if t.2 < s.1 - 1 then (swM t.1 t.2 (t.2 + 1)).map fun l' => .go (l', t.2 + 1) else some (.st t)) 200 (l, a)).map (·.1)
      else if b - m = 1 then
        (lpM (fun (s : Int × Int) => if s.1 < s.2 then (cmM l m (hf s.1 s.2)).map fun c => if c < 0 then .go (s.1, hf s.1 s.2) else .go (hf s.1 s.2 + 1, s.2) else some (.st s)) 200 (a, m)).bind fun s =>
          (lpM (fun (t : ML × Int) => if s.1 < t.2 then (swM t.1 t.2 (t.2 - 1)).map fun l' => .go (l', t.2 - 1) else some (.st t)) 200 (l, m)).map (·.1)
      else
        (lpM (fun (s : Int × Int) => if s.1 < s.2 then (cmM l (hf a b + m - 1 - hf s.1 s.2) (hf s.1 s.2)).map fun c => if c < 0 then .go (s.1, hf s.1 s.2) else .go (hf s.1 s.2 + 1, s.2) else some (.st s)) 200
            (if hf a b < m then (hf a b + m - b, hf a b) else (a, m))).bind fun s =>
          (if s.1 < m ∧ m < hf a b + m - s.1 then rotM l s.1 m (hf a b + m - s.1) else some l).bind fun l1 =>
          (if a < s.1 ∧ s.1 < hf a b then symM f l1 a s.1 (hf a b) else some l1).bind fun l2 =>
          if hf a b < hf a b + m - s.1 ∧ hf a b + m - s.1 < b then symM f l2 (hf a b) (hf a b + m - s.1) b else some l2
    else none
def stbM (l : ML) (n : Int) : Option ML :=
  if in9 n = true then
    (lpM (fun (s : ML × Int × Int) => if s.2.2 ≤ n then (insM s.1 s.2.1 s.2.2).map fun l' => .go (l', s.2.2, s.2.2 + 20) else some (.st s)) 200 (l, 0, 20)).bind fun s =>
    (insM s.1 s.2.1 n).bind fun l1 =>
    (lpM (fun (s : ML × Int) => if s.2 < n then
        (lpM (fun (t : ML × Int × Int) => if t.2.2 ≤ n then (symM 20 t.1 t.2.1 (t.2.1 + s.2) t.2.2).map fun l' => .go (l', t.2.2, t.2.2 + 2 * s.2) else some (.st t)) 200 (s.1, 0, 2 * s.2)).bind fun t =>
        (if t.2.1 + s.2 < n then symM 20 t.1 t.2.1 (t.2.1 + s.2) n else some t.1).map fun l' => .go (l', s.2 * 2)
      else some (.st s)) 200 (l1, 20)).map (·.1)
  else none
/- The moves up to a size, as both sides order them. -/
def rgI (m : Int) : List Int := (List.range (2 * m + 1).toNat).map fun (i : Nat) => (i : Int) - m
def gridM (m : Int) : ML := (rgI m).flatMap fun a => (rgI m).map fun b => (a, b)
def farM (m : Int) : ML := (List.range (2 * m + 1).toNat).flatMap fun (d : Nat) => (gridM m).filter fun a => decide (mkey a = d)
theorem stb0 : stbM (gridM 0) (gridM 0).length = some (farM 0) := by decide +kernel
theorem stb1 : stbM (gridM 1) (gridM 1).length = some (farM 1) := by decide +kernel
theorem stb2 : stbM (gridM 2) (gridM 2).length = some (farM 2) := by decide +kernel
theorem stb3 : stbM (gridM 3) (gridM 3).length = some (farM 3) := by decide +kernel
theorem stb4 : stbM (gridM 4) (gridM 4).length = some (farM 4) := by decide +kernel
/-- The list that is being sorted, in its block. -/
def hp (G0 : Heap) (bq ver : Nat) (l : ML) : Heap := G0.set bq ⟨mvsC l, 2, ver, false⟩
theorem mvC_inj {a b : Int × Int} (h : some (mvC a) = some (mvC b)) : a = b := by
  obtain ⟨a1, a2⟩ := a
  obtain ⟨b1, b2⟩ := b
  simp [mvC] at h
  rw [h.1, h.2]
theorem mvC_len {a : Int × Int} : (mvC a).length = 2 := rfl
theorem hp_get {G0 : Heap} {bq ver : Nat} {l : ML} (hb : bq < G0.length) : (hp G0 bq ver l)[bq]? = some ⟨mvsC l, 2, ver, false⟩ := by
  unfold hp; rw [List.getElem?_set_self hb]
theorem hp_len {G0 : Heap} {bq ver : Nat} {l : ML} : (hp G0 bq ver l).length = G0.length := by simp [hp]
theorem gtM_ok {G0 : Heap} {bq ver n : Nat} {l : ML} {i : Int} {v : Int × Int} (hb : bq < G0.length) (hn : l.length = n) (h : gtM l i = some v) :
    ∃ p : Nat, i = p ∧ p < n ∧ at' n (.int .i64 i) = some p ∧ rd (hp G0 bq ver l) bq (p * 2) ver 2 = some (mvC v) := by
  unfold gtM at h
  split at h
  · rename_i hi
    obtain ⟨p, rfl⟩ := Int.eq_ofNat_of_zero_le hi.1
    have hp' : p < l.length := by omega
    refine ⟨p, rfl, by omega, at_nat (by omega), ?_⟩
    have hm := mul_next (esz := 2) hp'
    rw [rd_at (hp_get hb) rfl (by simp only [mvsC_length]; omega)]
    simp only [Int.toNat_natCast] at h
    cases h
    have := mvsC_elem hp'
    unfold elem at this
    simp only []
    rw [this]; rfl
  · cases h
theorem mvsC_set {l : ML} {p : Nat} {v : Int × Int} (h : p < l.length) : splice (mvsC l) (p * 2) (mvC v) = mvsC (l.set p v) := by
  induction l generalizing p with
  | nil => simp at h
  | cons a r ih =>
    cases p with
    | zero => simp [splice, mvsC, rowsC, mvC]
    | succ p =>
      have := ih (p := p) (by simpa using h)
      simp only [List.set_cons_succ]
      show splice (mvC a ++ mvsC r) ((p + 1) * 2) (mvC v) = mvC a ++ mvsC (r.set p v)
      rw [← this]
      have e : (p + 1) * 2 = (mvC a).length + p * 2 := by rw [mvC_len]; omega
      unfold splice
      rw [e, List.take_length_add_append, Nat.add_assoc, List.drop_length_add_append, List.append_assoc, List.append_assoc, List.append_assoc]
theorem hp_wr {n0 : Nat} {G0 : Heap} {bq ver : Nat} {l : ML} {p : Nat} {v : Int × Int} (hb : bq < G0.length) (h : p < l.length) : wr n0 true (hp G0 bq ver l) bq (p * 2) ver (mvC v) = some (hp G0 bq ver (l.set p v)) := by
  have hm := mul_next (esz := 2) h
  rw [wr_at (hp_get hb) rfl rfl (by simp [may, mvC]) (by simp only [mvsC_length, mvC_len]; omega)]
  simp only [mvsC_set h]
  unfold hp
  rw [set_set]
theorem swM_ok {n0 : Nat} {G0 : Heap} {bq ver n : Nat} {l l' : ML} {i j : Int} (hb : bq < G0.length) (hn : l.length = n) (h : swM l i j = some l') :
    ∃ (a b : Int × Int) (p q : Nat), at' n (.int .i64 i) = some p ∧ at' n (.int .i64 j) = some q ∧ rd (hp G0 bq ver l) bq (p * 2) ver 2 = some (mvC a) ∧ rd (hp G0 bq ver l) bq (q * 2) ver 2 = some (mvC b) ∧
      wr n0 true (hp G0 bq ver l) bq (p * 2) ver (mvC b) = some (hp G0 bq ver (l.set p b)) ∧ wr n0 true (hp G0 bq ver (l.set p b)) bq (q * 2) ver (mvC a) = some (hp G0 bq ver l') ∧ l'.length = n ∧ i = p ∧ j = q := by
  unfold swM at h
  cases ha : gtM l i with
  | none => rw [ha] at h; cases h
  | some a =>
    cases hb2 : gtM l j with
    | none => rw [ha, hb2] at h; cases h
    | some b =>
      rw [ha, hb2] at h
      simp only [Option.bind_some, Option.some.injEq] at h
      obtain ⟨p, rfl, hp1, hp2, hp3⟩ := gtM_ok (ver := ver) hb hn ha
      obtain ⟨q, rfl, hq1, hq2, hq3⟩ := gtM_ok (ver := ver) hb hn hb2
      simp only [Int.toNat_natCast] at h
      subst h
      exact ⟨a, b, p, q, hp2, hq2, hp3, hq3, hp_wr hb (by omega), hp_wr hb (by simp; omega), by simp [hn], rfl, rfl⟩
/-- What the sort leans on: the block, and the function that compares. -/
structure SrtH (G0 : Heap) (bq ver n : Nat) (F : Value) : Prop where
  hb : bq < G0.length
  hn : n ≤ 1000
  hf : ∀ l a c, l.length = n → smallM a = true → smallM c = true → callV (Call tab) (hp G0 bq ver l) F [agg (mvC a), agg (mvC c)] = some (.int .i64 (kcmp a c), hp G0 bq ver l)
theorem cmM_ok {G0 : Heap} {bq ver n : Nat} {F : Value} {l : ML} {i j c : Int} (S : SrtH G0 bq ver n F) (hn : l.length = n) (h : cmM l i j = some c) :
    ∃ (a b : Int × Int) (p q : Nat), at' n (.int .i64 i) = some p ∧ at' n (.int .i64 j) = some q ∧ rd (hp G0 bq ver l) bq (p * 2) ver 2 = some (mvC a) ∧ rd (hp G0 bq ver l) bq (q * 2) ver 2 = some (mvC b) ∧
      callV (Call tab) (hp G0 bq ver l) F [agg (mvC a), agg (mvC b)] = some (.int .i64 c, hp G0 bq ver l) ∧ i = p ∧ j = q := by
  unfold cmM at h
  cases ha : gtM l i with
  | none => rw [ha] at h; cases h
  | some a =>
    cases hb2 : gtM l j with
    | none => rw [ha, hb2] at h; cases h
    | some b =>
      rw [ha, hb2] at h
      simp only [Option.bind_some] at h
      split at h
      · rename_i hs
        simp only [Bool.and_eq_true] at hs
        cases h
        obtain ⟨p, rfl, hp1, hp2, hp3⟩ := gtM_ok (ver := ver) S.hb hn ha
        obtain ⟨q, rfl, hq1, hq2, hq3⟩ := gtM_ok (ver := ver) S.hb hn hb2
        exact ⟨a, b, p, q, hp2, hq2, hp3, hq3, S.hf l a b hn hs.1 hs.2, rfl, rfl⟩
      · cases h
theorem in9_ok {a : Int} (h : in9 a = true) : 0 ≤ a ∧ a ≤ 1000 := by simpa [in9] using h
theorem call624 {G0 : Heap} {bq ver n : Nat} {F : Value} {l l' : ML} {a b k : Int} (S : SrtH G0 bq ver n F) (hn : l.length = n) (h : swapR l a b k = some l') :
    Call tab false 624 [slc bq 0 ver n n, .int .i64 a, .int .i64 b, .int .i64 k, F] (hp G0 bq ver l) = some (tup [], hp G0 bq ver l') ∧ l'.length = n := by
  unfold swapR at h
  split at h
  · rename_i hg
    simp only [Bool.and_eq_true] at hg
    obtain ⟨⟨ha, hb⟩, hk⟩ := hg
    have ha := in9_ok ha
    have hb := in9_ok hb
    have hk := in9_ok hk
    rw [Option.map_eq_some_iff] at h
    obtain ⟨r, h, rfl⟩ := h
    suffices main : ∃ q, Call tab false 624 [slc bq 0 ver n n, .int .i64 a, .int .i64 b, .int .i64 k, F] (hp G0 bq ver l) = some q ∧ (q = (tup [], hp G0 bq ver r.1) ∧ r.1.length = n) by
      obtain ⟨q, h1, rfl, h2⟩ := main; exact ⟨h1, h2⟩
    refine Call_ex t624 (.inl rfl) rfl ?_
    simp [c624, k624, hp_len]
    refine WK_sim _ (fun s e G => e 0 = slc bq 0 ver n n ∧ e 1 = .int .i64 a ∧ e 2 = .int .i64 b ∧ e 3 = .int .i64 k ∧ e 10 = .int .i64 s.2 ∧ 0 ≤ s.2 ∧ s.1.length = n ∧ G = hp G0 bq ver s.1) ?_ ?_ h ⟨by simp, by simp, by simp, by simp, by simp, by simp, hn, rfl⟩
    · rintro ⟨l, i⟩ s' e G _ ⟨h0, h1, h2, h3, h10, hi0, hl, rfl⟩ hf
      simp only [] at *
      by_cases hi : i < k
      · rw [if_pos hi, Option.map_eq_some_iff] at hf
        obtain ⟨l2, hsw, hgo⟩ := hf
        cases hgo
        obtain ⟨x, y, p, q, r1, r2, r3, r4, r5, r6, r7, -, -⟩ := swM_ok (n0 := G0.length) (ver := ver) S.hb hl hsw
        have w1 : IntKind.wrap .i64 (a + i) = a + i := wrap64 (by omega)
        have w2 : IntKind.wrap .i64 (b + i) = b + i := wrap64 (by omega)
        have w3 : IntKind.wrap .i64 (i + 1) = i + 1 := wrap64 (by omega)
        simp [b624_1, h0, h1, h2, h3, h10, hi, w1, w2, w3, r1, r2, r3, r4, r5, r6, mvC_len, hp_len, wbOf]
        exact ⟨by omega, r7⟩
      · rw [if_neg hi] at hf; cases hf
    · rintro ⟨l, i⟩ e G _ ⟨h0, h1, h2, h3, h10, hi0, hl, rfl⟩ hf
      simp only [] at *
      by_cases hi : i < k
      · rw [if_pos hi, Option.map_eq_some_iff] at hf
        obtain ⟨_, _, hgo⟩ := hf
        cases hgo
      · rw [if_neg hi] at hf
        cases hf
        simp [b624_1, h3, h10, hi]
        exact ⟨List.take_of_length_le (by simp [hp_len]), hl⟩
  · cases h
theorem call610 {G0 : Heap} {bq ver n : Nat} {F : Value} {l l' : ML} {a m b : Int} (S : SrtH G0 bq ver n F) (hn : l.length = n) (h : rotM l a m b = some l') :
    Call tab false 610 [slc bq 0 ver n n, .int .i64 a, .int .i64 m, .int .i64 b, F] (hp G0 bq ver l) = some (tup [], hp G0 bq ver l') ∧ l'.length = n := by
  unfold rotM at h
  split at h
  · rename_i hg
    simp only [Bool.and_eq_true] at hg
    obtain ⟨⟨ha, hm⟩, hb⟩ := hg
    have ha := in9_ok ha
    have hb := in9_ok hb
    have hm := in9_ok hm
    rw [Option.bind_eq_some_iff] at h
    obtain ⟨r, h, hlast⟩ := h
    suffices main : ∃ q, Call tab false 610 [slc bq 0 ver n n, .int .i64 a, .int .i64 m, .int .i64 b, F] (hp G0 bq ver l) = some q ∧ (q = (tup [], hp G0 bq ver l') ∧ l'.length = n) by
      obtain ⟨q, h1, rfl, h2⟩ := main; exact ⟨h1, h2⟩
    refine Call_ex t610 (.inl rfl) rfl ?_
    have w1 : IntKind.wrap .i64 (m - a) = m - a := wrap64 (by omega)
    have w2 : IntKind.wrap .i64 (b - m) = b - m := wrap64 (by omega)
    simp [c610, k610, hp_len, w1, w2]
    refine WK_sim _ (fun s e G => e 0 = slc bq 0 ver n n ∧ e 2 = .int .i64 m ∧ e 4 = F ∧ e 10 = .int .i64 s.2.1 ∧ e 11 = .int .i64 s.2.2 ∧ s.1.length = n ∧ G = hp G0 bq ver s.1) ?_ ?_ h ⟨by simp, by simp, by simp, by simp, by simp, hn, rfl⟩
    · rintro ⟨l, i, j⟩ s' e G _ ⟨h0, h2, h4, h10, h11, hl, rfl⟩ hf
      simp only [] at *
      by_cases hij : i = j
      · rw [if_pos hij] at hf; cases hf
      · rw [if_neg hij] at hf
        split at hf
        · rename_i hg
          simp only [Bool.and_eq_true] at hg
          have hi := in9_ok hg.1
          have hj := in9_ok hg.2
          have hne : (i != j) = true := by simpa using hij
          have w3 : IntKind.wrap .i64 (m - i) = m - i := wrap64 (by omega)
          have w4 : IntKind.wrap .i64 (i - j) = i - j := wrap64 (by omega)
          have w5 : IntKind.wrap .i64 (j - i) = j - i := wrap64 (by omega)
          have w6 : IntKind.wrap .i64 (m + j) = m + j := wrap64 (by omega)
          have w7 : IntKind.wrap .i64 (m + j - i) = m + j - i := wrap64 (by omega)
          by_cases hlt : j < i
          · rw [if_pos hlt, Option.map_eq_some_iff] at hf
            obtain ⟨l2, hsw, hgo⟩ := hf
            cases hgo
            obtain ⟨r1, r2⟩ := call624 S hl hsw
            simp [b610_1, h0, h2, h4, h10, h11, hne, hlt, w3, w4, r1, wbOf]
            exact r2
          · rw [if_neg hlt, Option.map_eq_some_iff] at hf
            obtain ⟨l2, hsw, hgo⟩ := hf
            cases hgo
            obtain ⟨r1, r2⟩ := call624 S hl hsw
            simp [b610_1, h0, h2, h4, h10, h11, hne, hlt, w3, w5, w6, w7, r1, wbOf]
            exact r2
        · cases hf
    · rintro ⟨l, i, j⟩ e G _ ⟨h0, h2, h4, h10, h11, hl, rfl⟩ hf
      simp only [] at *
      by_cases hij : i = j
      · rw [if_pos hij] at hf
        cases hf
        simp only [] at hlast
        split at hlast
        · rename_i hg
          have hi := in9_ok hg
          have hne : (i != j) = false := by simpa using hij
          have w3 : IntKind.wrap .i64 (m - i) = m - i := wrap64 (by omega)
          obtain ⟨r1, r2⟩ := call624 S hl hlast
          simp [b610_1, h0, h2, h4, h10, h11, hne, w3, r1, wbOf]
          exact ⟨List.take_of_length_le (by simp [hp_len]), r2⟩
        · cases hlast
      · rw [if_neg hij] at hf
        split at hf
        · split at hf
          · rw [Option.map_eq_some_iff] at hf
            obtain ⟨_, _, hgo⟩ := hf
            cases hgo
          · rw [Option.map_eq_some_iff] at hf
            obtain ⟨_, _, hgo⟩ := hf
            cases hgo
        · cases hf
  · cases h
theorem call589 {G0 : Heap} {bq ver n : Nat} {F : Value} {l l' : ML} {a b : Int} (S : SrtH G0 bq ver n F) (hn : l.length = n) (h : insM l a b = some l') :
    Call tab false 589 [slc bq 0 ver n n, .int .i64 a, .int .i64 b, F] (hp G0 bq ver l) = some (tup [], hp G0 bq ver l') ∧ l'.length = n := by
  unfold insM at h
  split at h
  · rename_i hg
    simp only [Bool.and_eq_true] at hg
    obtain ⟨ha, hb⟩ := hg
    have ha := in9_ok ha
    have hb := in9_ok hb
    rw [Option.map_eq_some_iff] at h
    obtain ⟨r, h, rfl⟩ := h
    suffices main : ∃ q, Call tab false 589 [slc bq 0 ver n n, .int .i64 a, .int .i64 b, F] (hp G0 bq ver l) = some q ∧ (q = (tup [], hp G0 bq ver r.1) ∧ r.1.length = n) by
      obtain ⟨q, h1, rfl, h2⟩ := main; exact ⟨h1, h2⟩
    refine Call_ex t589 (.inl rfl) rfl ?_
    have w1 : IntKind.wrap .i64 (a + 1) = a + 1 := wrap64 (by omega)
    simp [c589, k589, hp_len, w1]
    refine WK_sim _ (fun s e G => e 0 = slc bq 0 ver n n ∧ e 1 = .int .i64 a ∧ e 2 = .int .i64 b ∧ e 3 = F ∧ e 8 = .int .i64 s.2 ∧ a < s.2 ∧ s.1.length = n ∧ G = hp G0 bq ver s.1) ?_ ?_ h ⟨by simp, by simp, by simp, by simp, by simp, by simp only []; omega, hn, rfl⟩
    · rintro ⟨l, i⟩ s' e G _ ⟨h0, h1, h2, h3, h8, hai, hl, rfl⟩ hf
      simp only [] at *
      by_cases hi : i < b
      · rw [if_pos hi, Option.map_eq_some_iff] at hf
        obtain ⟨t, hin, hgo⟩ := hf
        cases hgo
        have w2 : IntKind.wrap .i64 (i + 1) = i + 1 := wrap64 (by omega)
        simp [b589_2, h0, h1, h2, h3, h8, hi]
        refine WK_sim _ (fun s e G => e 0 = slc bq 0 ver n n ∧ e 1 = .int .i64 a ∧ e 2 = .int .i64 b ∧ e 3 = F ∧ e 8 = .int .i64 i ∧ e 9 = .int .i64 s.2 ∧ a ≤ s.2 ∧ s.2 ≤ 1000 ∧ s.1.length = n ∧ G = hp G0 bq ver s.1) ?_ ?_ hin ⟨by simp [h0], by simp [h1], by simp [h2], by simp [h3], by simp [h8], by simp, by simp only []; omega, by simp only []; omega, hl, rfl⟩
        · rintro ⟨l, j⟩ s' e G _ ⟨h0, h1, h2, h3, h8, h9, haj, hj9, hl, rfl⟩ hf
          simp only [] at *
          by_cases hj : a < j
          · rw [if_pos hj, Option.bind_eq_some_iff] at hf
            obtain ⟨c, hc, hf⟩ := hf
            by_cases hc0 : c < 0
            · rw [if_pos hc0, Option.map_eq_some_iff] at hf
              obtain ⟨l2, hsw, hgo⟩ := hf
              cases hgo
              obtain ⟨x, y, p, q, r1, r2, r3, r4, r5, -, -⟩ := cmM_ok S hl hc
              obtain ⟨x2, y2, p2, q2, s1, s2, s3, s4, s5, s6, s7, -, -⟩ := swM_ok (n0 := G0.length) (ver := ver) S.hb hl hsw
              have w3 : IntKind.wrap .i64 (j - 1) = j - 1 := wrap64 (by omega)
              rw [r1] at s1
              cases s1
              rw [r2] at s2
              cases s2
              obtain rfl := mvC_inj (r3.symm.trans s3)
              obtain rfl := mvC_inj (r4.symm.trans s4)
              simp [b589_1, h0, h1, h2, h3, h8, h9, hj, w3, r1, r2, r3, r4, r5, hc0, s5, s6, mvC_len, wbOf]
              exact ⟨by omega, by omega, s7⟩
            · rw [if_neg hc0] at hf; cases hf
          · rw [if_neg hj] at hf; cases hf
        · rintro ⟨l, j⟩ e G _ ⟨h0, h1, h2, h3, h8, h9, haj, hj9, hl, rfl⟩ hf
          simp only [] at *
          by_cases hj : a < j
          · rw [if_pos hj, Option.bind_eq_some_iff] at hf
            obtain ⟨c, hc, hf⟩ := hf
            by_cases hc0 : c < 0
            · rw [if_pos hc0, Option.map_eq_some_iff] at hf
              obtain ⟨_, _, hgo⟩ := hf
              cases hgo
            · rw [if_neg hc0] at hf
              cases hf
              obtain ⟨x, y, p, q, r1, r2, r3, r4, r5, -, -⟩ := cmM_ok S hl hc
              have w3 : IntKind.wrap .i64 (j - 1) = j - 1 := wrap64 (by omega)
              simp [b589_1, h0, h1, h2, h3, h8, h9, hj, w3, r1, r2, r3, r4, r5, hc0, w2, wbOf]
              exact ⟨by omega, hl⟩
          · rw [if_neg hj] at hf
            cases hf
            simp [b589_1, h0, h1, h2, h3, h8, h9, hj, w2, wbOf, skip]
            exact ⟨by omega, hl⟩
      · rw [if_neg hi] at hf; cases hf
    · rintro ⟨l, i⟩ e G _ ⟨h0, h1, h2, h3, h8, hai, hl, rfl⟩ hf
      simp only [] at *
      by_cases hi : i < b
      · rw [if_pos hi, Option.map_eq_some_iff] at hf
        obtain ⟨_, _, hgo⟩ := hf
        cases hgo
      · rw [if_neg hi] at hf
        cases hf
        simp [b589_2, h2, h8, hi]
        exact ⟨List.take_of_length_le (by simp [hp_len]), hl⟩
  · cases h
theorem shr_one {x : Int} (h : 0 ≤ x ∧ x ≤ 4000) : shiftOf .shr .u64 x 1 = some (.int .u64 (x / 2)) := by
  unfold shiftOf
  rw [if_neg (by omega)]
  have e1 : min ((1 : Int).toNat) (IntKind.bits .u64) = 1 := rfl
  simp only [e1]
  show some (Value.int .u64 (x.fdiv (2 ^ 1))) = _
  rw [Int.fdiv_eq_ediv_of_nonneg _ (by omega)]; rfl
theorem hf_wraps {i j : Int} (h : 0 ≤ i + j ∧ i + j ≤ 4000) : IntKind.wrap .i64 (i + j) = i + j ∧ IntKind.wrap .u64 (i + j) = i + j ∧ shiftOf .shr .u64 (i + j) 1 = some (.int .u64 (hf i j)) ∧ IntKind.wrap .i64 (hf i j) = hf i j ∧ IntKind.wrap .i64 (hf i j + 1) = hf i j + 1 := by
  have : 0 ≤ hf i j ∧ hf i j ≤ 2000 := by unfold hf; omega
  exact ⟨wrap64 (by omega), wrapu64 (by omega), shr_one h, wrap64 (by omega), wrap64 (by omega)⟩
theorem hf_le {i j : Int} {p n : Nat} (h : hf i j = p) (hp : p < n) (hn : n ≤ 1000) : 0 ≤ i + j ∧ i + j ≤ 4000 := by unfold hf at h; omega
theorem at_lt {n p : Nat} {i : Int} (h : at' n (.int .i64 i) = some p) : p < n := by
  have h' : (if 0 ≤ i ∧ i < (n : Int) then some i.toNat else none) = some p := h
  split at h'
  · simp only [Option.some.injEq] at h'; omega
  · cases h'
theorem hp_take {G0 : Heap} {bq ver : Nat} {l : ML} : (hp G0 bq ver l).take G0.length = hp G0 bq ver l := List.take_of_length_le (by simp [hp_len])
/-- A loop that looks for a place by halves. -/
theorem call590 {G0 : Heap} {bq ver n : Nat} {F : Value} (S : SrtH G0 bq ver n F) : ∀ (fuel : Nat) {l l' : ML} {a m b : Int}, l.length = n → symM fuel l a m b = some l' →
    Call tab false 590 [slc bq 0 ver n n, .int .i64 a, .int .i64 m, .int .i64 b, F] (hp G0 bq ver l) = some (tup [], hp G0 bq ver l') ∧ l'.length = n := by
  intro fuel
  induction fuel with
  | zero => intro l l' a m b _ h; simp [symM] at h
  | succ fuel ih =>
    intro l l' a m b hn h
    simp only [symM] at h
    split at h
    rotate_left
    · cases h
    rename_i hg
    simp only [Bool.and_eq_true] at hg
    obtain ⟨⟨ha, hm⟩, hb⟩ := hg
    have ha := in9_ok ha
    have hb := in9_ok hb
    have hm := in9_ok hm
    have hS := S.hn
    suffices main : ∃ q, Call tab false 590 [slc bq 0 ver n n, .int .i64 a, .int .i64 m, .int .i64 b, F] (hp G0 bq ver l) = some q ∧ (q = (tup [], hp G0 bq ver l') ∧ l'.length = n) by
      obtain ⟨q, h1, rfl, h2⟩ := main; exact ⟨h1, h2⟩
    have w1 : IntKind.wrap .i64 (m - a) = m - a := wrap64 (by omega)
    have w2 : IntKind.wrap .i64 (b - m) = b - m := wrap64 (by omega)
    by_cases h1 : m - a = 1
    · rw [if_pos h1, Option.bind_eq_some_iff] at h
      obtain ⟨r, hlp, h⟩ := h
      rw [Option.map_eq_some_iff] at h
      obtain ⟨u, hlp2, rfl⟩ := h
      have h1' : (m - a == 1) = true := by simpa using h1
      refine Call_ex t590 (.inl rfl) rfl ?_
      simp [c590, k590, hp_len, w1, h1']
      refine WK_sim _ (fun s e G => e 0 = slc bq 0 ver n n ∧ e 1 = .int .i64 a ∧ e 4 = F ∧ e 10 = .int .i64 s.1 ∧ e 11 = .int .i64 s.2 ∧ 0 ≤ s.1 ∧ s.1 ≤ 1000 ∧ G = hp G0 bq ver l) ?_ ?_ hlp ⟨by simp, by simp, by simp, by simp, by simp, by simp only []; omega, by simp only []; omega, rfl⟩
      · rintro ⟨i, j⟩ s' e G _ ⟨h0, h1e, h4, h10, h11, hi0, hi9, rfl⟩ hf
        simp only [] at *
        by_cases hij : i < j
        · rw [if_pos hij, Option.map_eq_some_iff] at hf
          obtain ⟨c, hc, hf⟩ := hf
          obtain ⟨x, y, p, q, r1, r2, r3, r4, r5, e1, e2⟩ := cmM_ok S hn hc
          have hpn := at_lt r1
          obtain ⟨v1, v2, v3, v4, v5⟩ := hf_wraps (hf_le e1 hpn hS)
          by_cases hc0 : c < 0
          · rw [if_pos hc0] at hf
            cases hf
            simp [b590_1, h0, h1e, h4, h10, h11, hij, v1, v2, v3, v4, v5, r1, r2, r3, r4, r5, hc0]
            omega
          · rw [if_neg hc0] at hf
            cases hf
            simp [b590_1, h0, h1e, h4, h10, h11, hij, v1, v2, v3, v4, v5, r1, r2, r3, r4, r5, hc0]
            omega
        · rw [if_neg hij] at hf; cases hf
      · rintro ⟨i, j⟩ e G _ ⟨h0, h1e, h4, h10, h11, hi0, hi9, rfl⟩ hf
        simp only [] at *
        by_cases hij : i < j
        · rw [if_pos hij, Option.map_eq_some_iff] at hf
          obtain ⟨c, hc, hf⟩ := hf
          split at hf <;> cases hf
        · rw [if_neg hij] at hf
          cases hf
          have w3 : IntKind.wrap .i64 (i - 1) = i - 1 := wrap64 (by omega)
          simp [b590_1, h0, h1e, h4, h10, h11, hij]
          refine WK_sim _ (fun s e G => e 0 = slc bq 0 ver n n ∧ e 10 = .int .i64 i ∧ e 13 = .int .i64 s.2 ∧ s.1.length = n ∧ G = hp G0 bq ver s.1) ?_ ?_ hlp2 ⟨by simp [h0], by simp [h10], by simp, hn, rfl⟩
          · rintro ⟨l, k⟩ s' e G _ ⟨h0, h10, h13, hl, rfl⟩ hf
            simp only [] at *
            by_cases hk : k < i - 1
            · rw [if_pos hk, Option.map_eq_some_iff] at hf
              obtain ⟨l2, hsw, hgo⟩ := hf
              cases hgo
              obtain ⟨x, y, p, q, r1, r2, r3, r4, r5, r6, r7, e1, -⟩ := swM_ok (n0 := G0.length) (ver := ver) S.hb hl hsw
              have hpn := at_lt r1
              have w4 : IntKind.wrap .i64 (k + 1) = k + 1 := wrap64 (by omega)
              simp [b590_2, h0, h10, h13, hk, w3, w4, r1, r2, r3, r4, r5, r6, mvC_len, wbOf]
              exact r7
            · rw [if_neg hk] at hf; cases hf
          · rintro ⟨l, k⟩ e G _ ⟨h0, h10, h13, hl, rfl⟩ hf
            simp only [] at *
            by_cases hk : k < i - 1
            · rw [if_pos hk, Option.map_eq_some_iff] at hf
              obtain ⟨l2, hsw, hgo⟩ := hf
              cases hgo
            · rw [if_neg hk] at hf
              cases hf
              simp [b590_2, h0, h10, h13, hk, w3, hp_take]
              exact hl
    rw [if_neg h1] at h
    have h1' : (m - a == 1) = false := by simpa using h1
    by_cases h2 : b - m = 1
    · rw [if_pos h2, Option.bind_eq_some_iff] at h
      obtain ⟨r, hlp, h⟩ := h
      rw [Option.map_eq_some_iff] at h
      obtain ⟨u, hlp2, rfl⟩ := h
      have h2' : (b - m == 1) = true := by simpa using h2
      refine Call_ex t590 (.inl rfl) rfl ?_
      simp [c590, k590, hp_len, w1, h1', w2, h2']
      refine WK_sim _ (fun s e G => e 0 = slc bq 0 ver n n ∧ e 2 = .int .i64 m ∧ e 4 = F ∧ e 14 = .int .i64 s.1 ∧ e 15 = .int .i64 s.2 ∧ 0 ≤ s.1 ∧ s.1 ≤ 1000 ∧ G = hp G0 bq ver l) ?_ ?_ hlp ⟨by simp, by simp, by simp, by simp, by simp, by simp only []; omega, by simp only []; omega, rfl⟩
      · rintro ⟨i, j⟩ s' e G _ ⟨h0, h1e, h4, h10, h11, hi0, hi9, rfl⟩ hf
        simp only [] at *
        by_cases hij : i < j
        · rw [if_pos hij, Option.map_eq_some_iff] at hf
          obtain ⟨c, hc, hf⟩ := hf
          obtain ⟨x, y, p, q, r1, r2, r3, r4, r5, e1, e2⟩ := cmM_ok S hn hc
          have hqn := at_lt r2
          obtain ⟨v1, v2, v3, v4, v5⟩ := hf_wraps (hf_le e2 hqn hS)
          by_cases hc0 : c < 0
          · rw [if_pos hc0] at hf
            cases hf
            simp [b590_3, h0, h1e, h4, h10, h11, hij, v1, v2, v3, v4, v5, r1, r2, r3, r4, r5, hc0]
            omega
          · rw [if_neg hc0] at hf
            cases hf
            simp [b590_3, h0, h1e, h4, h10, h11, hij, v1, v2, v3, v4, v5, r1, r2, r3, r4, r5, hc0]
            omega
        · rw [if_neg hij] at hf; cases hf
      · rintro ⟨i, j⟩ e G _ ⟨h0, h1e, h4, h10, h11, hi0, hi9, rfl⟩ hf
        simp only [] at *
        by_cases hij : i < j
        · rw [if_pos hij, Option.map_eq_some_iff] at hf
          obtain ⟨c, hc, hf⟩ := hf
          split at hf <;> cases hf
        · rw [if_neg hij] at hf
          cases hf
          simp [b590_3, h0, h1e, h4, h10, h11, hij]
          refine WK_sim _ (fun s e G => e 0 = slc bq 0 ver n n ∧ e 14 = .int .i64 i ∧ e 17 = .int .i64 s.2 ∧ s.1.length = n ∧ G = hp G0 bq ver s.1) ?_ ?_ hlp2 ⟨by simp [h0], by simp [h10], by simp, hn, rfl⟩
          · rintro ⟨l, k⟩ s' e G _ ⟨h0, h10, h13, hl, rfl⟩ hf
            simp only [] at *
            by_cases hk : i < k
            · rw [if_pos hk, Option.map_eq_some_iff] at hf
              obtain ⟨l2, hsw, hgo⟩ := hf
              cases hgo
              obtain ⟨x, y, p, q, r1, r2, r3, r4, r5, r6, r7, e1, -⟩ := swM_ok (n0 := G0.length) (ver := ver) S.hb hl hsw
              have hpn := at_lt r1
              have w4 : IntKind.wrap .i64 (k - 1) = k - 1 := wrap64 (by omega)
              simp [b590_4, h0, h10, h13, hk, w4, r1, r2, r3, r4, r5, r6, mvC_len, wbOf]
              exact r7
            · rw [if_neg hk] at hf; cases hf
          · rintro ⟨l, k⟩ e G _ ⟨h0, h10, h13, hl, rfl⟩ hf
            simp only [] at *
            by_cases hk : i < k
            · rw [if_pos hk, Option.map_eq_some_iff] at hf
              obtain ⟨l2, hsw, hgo⟩ := hf
              cases hgo
            · rw [if_neg hk] at hf
              cases hf
              simp [b590_4, h0, h10, h13, hk, hp_take]
              exact hl
    rw [if_neg h2] at h
    have h2' : (b - m == 1) = false := by simpa using h2
    rw [Option.bind_eq_some_iff] at h
    obtain ⟨r, hlp, h⟩ := h
    obtain ⟨v1, v2, v3, v4, v5⟩ := hf_wraps (i := a) (j := b) (by omega)
    obtain ⟨d, hd⟩ : ∃ d, d = hf a b := ⟨_, rfl⟩
    have hd9 : 0 ≤ d ∧ d ≤ 1000 := by rw [hd]; unfold hf; omega
    rw [← hd] at h hlp v3 v4 v5
    have w3 : IntKind.wrap .i64 (d + m) = d + m := wrap64 (by omega)
    have w4 : IntKind.wrap .i64 (d + m - b) = d + m - b := wrap64 (by omega)
    have w5 : IntKind.wrap .i64 (d + m - 1) = d + m - 1 := wrap64 (by omega)
    obtain ⟨s0, hs0⟩ : ∃ s0, s0 = (if d < m then (d + m - b, d) else (a, m)) := ⟨_, rfl⟩
    rw [← hs0] at hlp
    have hs9 : -2000 ≤ s0.1 ∧ s0.1 ≤ 2000 := by
      rw [hs0]; split <;> simp only [] <;> omega
    refine Call_ex t590 (.inl rfl) rfl ?_
    have loop : ∀ e : Env, e 0 = slc bq 0 ver n n → e 1 = .int .i64 a → e 2 = .int .i64 m → e 3 = .int .i64 b → e 4 = F → e 18 = .int .i64 d → e 19 = .int .i64 (d + m) → e 20 = .int .i64 s0.1 → e 21 = .int .i64 s0.2 → e 22 = .int .i64 (d + m - 1) → ∀ fs Q,
        (∀ e' : Env, e' 0 = slc bq 0 ver n n → e' 1 = .int .i64 a → e' 2 = .int .i64 m → e' 3 = .int .i64 b → e' 4 = F → e' 18 = .int .i64 d → e' 19 = .int .i64 (d + m) → e' 20 = .int .i64 r.1 → -2000 ≤ r.1 → r.1 ≤ 2000 → KK tab G0.length true (.exit 8) fs e' (hp G0 bq ver l) Q) →
        WK tab G0.length true (.loop b590_5) fs e (hp G0 bq ver l) Q := by
      intro e q0 q1 q2 q3 q4 q18 q19 q20 q21 q22 fs Q hq
      refine WK_sim _ (fun s e G => e 0 = slc bq 0 ver n n ∧ e 1 = .int .i64 a ∧ e 2 = .int .i64 m ∧ e 3 = .int .i64 b ∧ e 4 = F ∧ e 18 = .int .i64 d ∧ e 19 = .int .i64 (d + m) ∧ e 20 = .int .i64 s.1 ∧ e 21 = .int .i64 s.2 ∧ e 22 = .int .i64 (d + m - 1) ∧ -2000 ≤ s.1 ∧ s.1 ≤ 2000 ∧ G = hp G0 bq ver l) ?_ ?_ hlp ⟨q0, q1, q2, q3, q4, q18, q19, q20, q21, q22, hs9.1, hs9.2, rfl⟩
      · rintro ⟨i, j⟩ s' e G _ ⟨h0, h1, h2, h3, h4, h18, h19, h20, h21, h22, hi0, hi9, rfl⟩ hf'
        simp only [] at *
        by_cases hij : i < j
        · rw [if_pos hij, Option.map_eq_some_iff] at hf'
          obtain ⟨c, hc, hf'⟩ := hf'
          obtain ⟨x, y, p, q, r1, r2, r3, r4, r5, e1, e2⟩ := cmM_ok S hn hc
          have hqn := at_lt r2
          obtain ⟨v1, v2, v3, v4, v5⟩ := hf_wraps (hf_le e2 hqn hS)
          have w6 : IntKind.wrap .i64 (d + m - 1 - hf i j) = d + m - 1 - hf i j := wrap64 (by omega)
          by_cases hc0 : c < 0
          · rw [if_pos hc0] at hf'
            cases hf'
            simp [b590_5, h0, h1, h2, h3, h4, h18, h19, h20, h21, h22, hij, v1, v2, v3, v4, v5, w6, r1, r2, r3, r4, r5, hc0]
            omega
          · rw [if_neg hc0] at hf'
            cases hf'
            simp [b590_5, h0, h1, h2, h3, h4, h18, h19, h20, h21, h22, hij, v1, v2, v3, v4, v5, w6, r1, r2, r3, r4, r5, hc0]
            omega
        · rw [if_neg hij] at hf'; cases hf'
      · rintro ⟨i, j⟩ e G _ ⟨h0, h1, h2, h3, h4, h18, h19, h20, h21, h22, hi0, hi9, rfl⟩ hf'
        simp only [] at *
        by_cases hij : i < j
        · rw [if_pos hij, Option.map_eq_some_iff] at hf'
          obtain ⟨c, hc, hf'⟩ := hf'
          split at hf' <;> cases hf'
        · rw [if_neg hij] at hf'
          cases hf'
          simp [b590_5, h20, h21, hij]
          exact hq _ (by simp [h0]) (by simp [h1]) (by simp [h2]) (by simp [h3]) (by simp [h4]) (by simp [h18]) (by simp [h19]) (by simp [h20]) hi0 hi9
    rw [Option.bind_eq_some_iff] at h
    obtain ⟨l1, hl1, h⟩ := h
    rw [Option.bind_eq_some_iff] at h
    obtain ⟨l2, hl2, h⟩ := h
    have hw6 : -2000 ≤ r.1 → r.1 ≤ 2000 → IntKind.wrap .i64 (d + m - r.1) = d + m - r.1 := fun _ _ => wrap64 (by omega)
    have C1 : ((r.1 < m ∧ m < d + m - r.1 ∧ Call tab false 610 [slc bq 0 ver n n, .int .i64 r.1, .int .i64 m, .int .i64 (d + m - r.1), F] (hp G0 bq ver l) = some (tup [], hp G0 bq ver l1)) ∨ (r.1 < m ∧ ¬ m < d + m - r.1 ∧ l1 = l) ∨ (¬ r.1 < m ∧ l1 = l)) ∧ l1.length = n := by
      by_cases a1 : r.1 < m
      · by_cases a2 : m < d + m - r.1
        · rw [if_pos ⟨a1, a2⟩] at hl1
          obtain ⟨z1, z2⟩ := call610 S hn hl1
          exact ⟨.inl ⟨a1, a2, z1⟩, z2⟩
        · rw [if_neg (fun z => a2 z.2)] at hl1
          cases hl1
          exact ⟨.inr (.inl ⟨a1, a2, rfl⟩), hn⟩
      · rw [if_neg (fun z => a1 z.1)] at hl1
        cases hl1
        exact ⟨.inr (.inr ⟨a1, rfl⟩), hn⟩
    obtain ⟨C1, hn1⟩ := C1
    have C2 : ((a < r.1 ∧ r.1 < d ∧ Call tab false 590 [slc bq 0 ver n n, .int .i64 a, .int .i64 r.1, .int .i64 d, F] (hp G0 bq ver l1) = some (tup [], hp G0 bq ver l2)) ∨ (a < r.1 ∧ ¬ r.1 < d ∧ l2 = l1) ∨ (¬ a < r.1 ∧ l2 = l1)) ∧ l2.length = n := by
      by_cases a1 : a < r.1
      · by_cases a2 : r.1 < d
        · rw [if_pos ⟨a1, a2⟩] at hl2
          obtain ⟨z1, z2⟩ := ih hn1 hl2
          exact ⟨.inl ⟨a1, a2, z1⟩, z2⟩
        · rw [if_neg (fun z => a2 z.2)] at hl2
          cases hl2
          exact ⟨.inr (.inl ⟨a1, a2, rfl⟩), hn1⟩
      · rw [if_neg (fun z => a1 z.1)] at hl2
        cases hl2
        exact ⟨.inr (.inr ⟨a1, rfl⟩), hn1⟩
    obtain ⟨C2, hn2⟩ := C2
    have C3 : ((d < d + m - r.1 ∧ d + m - r.1 < b ∧ Call tab false 590 [slc bq 0 ver n n, .int .i64 d, .int .i64 (d + m - r.1), .int .i64 b, F] (hp G0 bq ver l2) = some (tup [], hp G0 bq ver l')) ∨ (d < d + m - r.1 ∧ ¬ d + m - r.1 < b ∧ l' = l2) ∨ (¬ d < d + m - r.1 ∧ l' = l2)) ∧ l'.length = n := by
      by_cases a1 : d < d + m - r.1
      · by_cases a2 : d + m - r.1 < b
        · rw [if_pos ⟨a1, a2⟩] at h
          obtain ⟨z1, z2⟩ := ih hn2 h
          exact ⟨.inl ⟨a1, a2, z1⟩, z2⟩
        · rw [if_neg (fun z => a2 z.2)] at h
          cases h
          exact ⟨.inr (.inl ⟨a1, a2, rfl⟩), hn2⟩
      · rw [if_neg (fun z => a1 z.1)] at h
        cases h
        exact ⟨.inr (.inr ⟨a1, rfl⟩), hn2⟩
    obtain ⟨C3, hn3⟩ := C3
    obtain ⟨E, hE⟩ : ∃ E, d + m - r.1 = E := ⟨_, rfl⟩
    rw [hE] at C1 C3 hw6
    by_cases hdm : d < m
    · rw [if_pos hdm] at hs0
      rw [hs0] at loop
      simp [c590, k590, hp_len, w1, h1', w2, h2', v1, v2, v3, v4, w3, w4, w5, hdm, wbOf]
      refine loop _ (by simp) (by simp) (by simp) (by simp) (by simp) (by simp) (by simp) (by simp) (by simp) (by simp) _ _ fun e q0 q1 q2 q3 q4 q18 q19 q20 hr0 hr9 => ?_
      have w6 := hw6 hr0 hr9
      clear loop ih hlp hl1 hl2 h hd hs0 hs9 v1 v2 v3 v4 v5 hd9 hw6
      rcases C1 with ⟨a1, a2, z1⟩ | ⟨a1, a2, rfl⟩ | ⟨a1, rfl⟩ <;> rcases C2 with ⟨b1, b2, z2⟩ | ⟨b1, b2, rfl⟩ | ⟨b1, rfl⟩ <;> rcases C3 with ⟨c1, c2, z3⟩ | ⟨c1, c2, rfl⟩ | ⟨c1, rfl⟩ <;>
        simp [*, hp_take, skip]
    · rw [if_neg hdm] at hs0
      rw [hs0] at loop
      simp [c590, k590, hp_len, w1, h1', w2, h2', v1, v2, v3, v4, w3, w4, w5, hdm, wbOf]
      refine loop _ (by simp) (by simp) (by simp) (by simp) (by simp) (by simp) (by simp) (by simp) (by simp) (by simp) _ _ fun e q0 q1 q2 q3 q4 q18 q19 q20 hr0 hr9 => ?_
      have w6 := hw6 hr0 hr9
      clear loop ih hlp hl1 hl2 h hd hs0 hs9 v1 v2 v3 v4 v5 hd9 hw6
      rcases C1 with ⟨a1, a2, z1⟩ | ⟨a1, a2, rfl⟩ | ⟨a1, rfl⟩ <;> rcases C2 with ⟨b1, b2, z2⟩ | ⟨b1, b2, rfl⟩ | ⟨b1, rfl⟩ <;> rcases C3 with ⟨c1, c2, z3⟩ | ⟨c1, c2, rfl⟩ | ⟨c1, rfl⟩ <;>
        simp [*, hp_take, skip]
theorem insM_in {l l' : ML} {a b : Int} (h : insM l a b = some l') : (0 ≤ a ∧ a ≤ 1000) ∧ 0 ≤ b ∧ b ≤ 1000 := by
  unfold insM at h
  split at h
  · rename_i hg
    simp only [Bool.and_eq_true] at hg
    exact ⟨in9_ok hg.1, in9_ok hg.2⟩
  · cases h
theorem symM_in {f : Nat} {l l' : ML} {a m b : Int} (h : symM f l a m b = some l') : (0 ≤ a ∧ a ≤ 1000) ∧ (0 ≤ m ∧ m ≤ 1000) ∧ 0 ≤ b ∧ b ≤ 1000 := by
  cases f with
  | zero => simp [symM] at h
  | succ f =>
    simp only [symM] at h
    split at h
    · rename_i hg
      simp only [Bool.and_eq_true] at hg
      exact ⟨in9_ok hg.1.1, in9_ok hg.1.2, in9_ok hg.2⟩
    · cases h
theorem call565 {G0 : Heap} {bq ver n : Nat} {F : Value} {l l' : ML} {m : Int} (S : SrtH G0 bq ver n F) (hn : l.length = n) (h : stbM l m = some l') :
    Call tab false 565 [slc bq 0 ver n n, .int .i64 m, F] (hp G0 bq ver l) = some (tup [], hp G0 bq ver l') ∧ l'.length = n := by
  unfold stbM at h
  split at h
  rotate_left
  · cases h
  rename_i hg
  have hm := in9_ok hg
  rw [Option.bind_eq_some_iff] at h
  obtain ⟨r, hlp, h⟩ := h
  rw [Option.bind_eq_some_iff] at h
  obtain ⟨l1, hins, h⟩ := h
  rw [Option.map_eq_some_iff] at h
  obtain ⟨u, hlp3, rfl⟩ := h
  suffices main : ∃ q, Call tab false 565 [slc bq 0 ver n n, .int .i64 m, F] (hp G0 bq ver l) = some q ∧ (q = (tup [], hp G0 bq ver u.1) ∧ u.1.length = n) by
    obtain ⟨q, h1, rfl, h2⟩ := main; exact ⟨h1, h2⟩
  refine Call_ex t565 (.inl rfl) rfl ?_
  simp [c565, k565, hp_len]
  refine WK_sim _ (fun s e G => e 0 = slc bq 0 ver n n ∧ e 1 = .int .i64 m ∧ e 2 = F ∧ e 6 = .int .i64 20 ∧ e 7 = .int .i64 s.2.1 ∧ e 8 = .int .i64 s.2.2 ∧ s.1.length = n ∧ G = hp G0 bq ver s.1) ?_ ?_ hlp ⟨by simp, by simp, by simp, by simp, by simp, by simp, hn, rfl⟩
  · rintro ⟨l, i, j⟩ s' e G _ ⟨h0, h1, h2, h6, h7, h8, hl, rfl⟩ hf
    simp only [] at *
    by_cases hj : j ≤ m
    · rw [if_pos hj, Option.map_eq_some_iff] at hf
      obtain ⟨l2, hi2, hgo⟩ := hf
      cases hgo
      have hb := insM_in hi2
      have w1 : IntKind.wrap .i64 (j + 20) = j + 20 := wrap64 (by omega)
      obtain ⟨r1, r2⟩ := call589 S hl hi2
      simp [b565_1, h0, h1, h2, h6, h7, h8, hj, w1, r1, wbOf]
      exact r2
    · rw [if_neg hj] at hf; cases hf
  · rintro ⟨l, i, j⟩ e G _ ⟨h0, h1, h2, h6, h7, h8, hl, rfl⟩ hf
    simp only [] at *
    by_cases hj : j ≤ m
    · rw [if_pos hj, Option.map_eq_some_iff] at hf
      obtain ⟨l2, hi2, hgo⟩ := hf
      cases hgo
    · rw [if_neg hj] at hf
      cases hf
      obtain ⟨r1, r2⟩ := call589 S hl hins
      simp [b565_1, h0, h1, h2, h6, h7, h8, hj, r1, wbOf]
      refine WK_sim _ (fun s e G => e 0 = slc bq 0 ver n n ∧ e 1 = .int .i64 m ∧ e 2 = F ∧ e 6 = .int .i64 s.2 ∧ s.1.length = n ∧ 0 ≤ s.2 ∧ G = hp G0 bq ver s.1) ?_ ?_ hlp3 ⟨by simp [h0], by simp [h1], by simp [h2], by simp [h6], r2, by simp, rfl⟩
      · rintro ⟨l, k⟩ s' e G _ ⟨h0, h1, h2, h6, hl, hk0, rfl⟩ hf
        simp only [] at *
        by_cases hk : k < m
        · rw [if_pos hk, Option.bind_eq_some_iff] at hf
          obtain ⟨t, hlp2, hf⟩ := hf
          rw [Option.map_eq_some_iff] at hf
          obtain ⟨l3, hl3, hgo⟩ := hf
          cases hgo
          have w1 : IntKind.wrap .i64 (2 * k) = 2 * k := wrap64 (by omega)
          have w2 : IntKind.wrap .i64 (k * 2) = k * 2 := wrap64 (by omega)
          simp [b565_3, h0, h1, h2, h6, hk, w1]
          refine WK_sim _ (fun s e G => e 0 = slc bq 0 ver n n ∧ e 1 = .int .i64 m ∧ e 2 = F ∧ e 6 = .int .i64 k ∧ e 7 = .int .i64 s.2.1 ∧ e 8 = .int .i64 s.2.2 ∧ s.1.length = n ∧ 0 ≤ s.2.1 ∧ s.2.1 ≤ 1000 ∧ G = hp G0 bq ver s.1) ?_ ?_ hlp2 ⟨by simp [h0], by simp [h1], by simp [h2], by simp [h6], by simp, by simp, hl, by simp, by simp, rfl⟩
          · rintro ⟨l, i, j⟩ s' e G _ ⟨h0, h1, h2, h6, h7, h8, hl, hi0, hi9, rfl⟩ hf
            simp only [] at *
            by_cases hj : j ≤ m
            · rw [if_pos hj, Option.map_eq_some_iff] at hf
              obtain ⟨l2, hi2, hgo⟩ := hf
              cases hgo
              have hb := symM_in hi2
              have w3 : IntKind.wrap .i64 (i + k) = i + k := wrap64 (by omega)
              have w4 : IntKind.wrap .i64 (j + 2 * k) = j + 2 * k := wrap64 (by omega)
              obtain ⟨r1, r2⟩ := call590 S _ hl hi2
              simp [b565_2, h0, h1, h2, h6, h7, h8, hj, w1, w3, w4, r1, wbOf]
              exact ⟨r2, hb.2.2⟩
            · rw [if_neg hj] at hf; cases hf
          · rintro ⟨l, i, j⟩ e G _ ⟨h0, h1, h2, h6, h7, h8, hl, hi0, hi9, rfl⟩ hf
            simp only [] at *
            by_cases hj : j ≤ m
            · rw [if_pos hj, Option.map_eq_some_iff] at hf
              obtain ⟨l2, hi2, hgo⟩ := hf
              cases hgo
            · rw [if_neg hj] at hf
              cases hf
              have w3 : IntKind.wrap .i64 (i + k) = i + k := wrap64 (by omega)
              simp only [] at hl3
              by_cases hik : i + k < m
              · rw [if_pos hik] at hl3
                obtain ⟨r1, r2⟩ := call590 S _ hl hl3
                simp [b565_2, h0, h1, h2, h6, h7, h8, hj, hik, w2, w3, r1, wbOf]
                exact ⟨r2, by omega⟩
              · rw [if_neg hik] at hl3
                cases hl3
                simp [b565_2, h0, h1, h2, h6, h7, h8, hj, hik, w2, w3]
                exact ⟨hl, by omega⟩
        · rw [if_neg hk] at hf; cases hf
      · rintro ⟨l, k⟩ e G _ ⟨h0, h1, h2, h6, hl, hk0, rfl⟩ hf
        simp only [] at *
        by_cases hk : k < m
        · rw [if_pos hk, Option.bind_eq_some_iff] at hf
          obtain ⟨t, hlp2, hf⟩ := hf
          rw [Option.map_eq_some_iff] at hf
          obtain ⟨l3, hl3, hgo⟩ := hf
          cases hgo
        · rw [if_neg hk] at hf
          cases hf
          simp [b565_3, h1, h6, hk, hp_take]
          exact hl
theorem call517 {G0 : Heap} {bq ver n : Nat} {F : Value} {l l' : ML} (S : SrtH G0 bq ver n F) (hn : l.length = n) (h : stbM l n = some l') :
    Call tab false 517 [slc bq 0 ver n n, F] (hp G0 bq ver l) = some (tup [], hp G0 bq ver l') ∧ l'.length = n := by
  obtain ⟨h1, h2⟩ := call565 S hn h
  refine ⟨Call_wp t517 (.inl rfl) rfl ?_, h2⟩
  simp [c517, k517, h1, wbOf, hp_len, hp_take]
/- How moves are compared. -/
theorem call516 {pu : Bool} {H : Heap} {a : Int} (h : -1000 ≤ a ∧ a ≤ 1000) : Call tab pu 516 [.int .i64 a] H = some (.int .i64 (szI a), H) := by
  refine Call_wp t516 (.inr rfl) rfl ?_
  have w : IntKind.wrap .i64 (-a) = -a := wrap64 (by omega)
  simp [c516, k516, w]
  rfl
theorem szI_ok {a : Int} (h : -1000 ≤ a ∧ a ≤ 1000) : 0 ≤ szI a ∧ szI a ≤ 1000 := by unfold szI; split <;> omega
theorem smallM_ok {a : Int × Int} (h : smallM a = true) : (-100 ≤ a.1 ∧ a.1 ≤ 100) ∧ -100 ≤ a.2 ∧ a.2 ≤ 100 := by simpa [smallM] using h
theorem call515 {pu : Bool} {H : Heap} {a : Int × Int} (h : smallM a = true) : Call tab pu 515 [agg (mvC a)] H = some (.int .i64 (mkey a), H) := by
  refine Call_wp t515 (.inr rfl) rfl ?_
  obtain ⟨h1, h2⟩ := smallM_ok h
  have w1 : IntKind.wrap .i64 a.1 = a.1 := wrap64 (by omega)
  have w2 : IntKind.wrap .i64 a.2 = a.2 := wrap64 (by omega)
  have z1 := szI_ok (a := a.1) (by omega)
  have z2 := szI_ok (a := a.2) (by omega)
  have w3 : IntKind.wrap .i64 (szI a.1 + szI a.2) = mkey a := by rw [wrap64 (by omega)]; rfl
  have c1 := call516 (pu := true) (H := H) (a := a.1) (by omega)
  have c2 := call516 (pu := true) (H := H) (a := a.2) (by omega)
  simp [c515, k515, mvC, ldc, w1, w2, c1, c2, w3]
theorem call566 {pu : Bool} {H : Heap} {a : Int} : Call tab pu 566 [.int .i64 a] H = some (.bool false, H) := by
  refine Call_wp t566 (.inr rfl) rfl ?_
  simp [c566, k566]
theorem call519 {pu : Bool} {H : Heap} {a b : Int} : Call tab pu 519 [.int .i64 a, .int .i64 b] H = some (.int .i64 (if a < b then -1 else if b < a then 1 else 0), H) := by
  refine Call_wp t519 (.inr rfl) rfl ?_
  have c1 := call566 (pu := true) (H := H) (a := a)
  have c2 := call566 (pu := true) (H := H) (a := b)
  by_cases h1 : a < b
  · simp [c519, k519, c1, c2, h1]
  · by_cases h2 : b < a
    · simp [c519, k519, c1, c2, h1, h2]
    · simp [c519, k519, c1, c2, h1, h2]
theorem call518 {pu : Bool} {H : Heap} {P : Nat} {a b : Int × Int} (hP : rd H P 0 0 1 = some [.func (.func 515) #[] #[]]) (ha : smallM a = true) (hb : smallM b = true) : Call tab pu 518 [agg (mvC a), agg (mvC b), adr P 0 0] H = some (.int .i64 (kcmp a b), H) := by
  refine Call_wp t518 (.inr rfl) rfl ?_
  have c1 := call515 (pu := true) (H := H) ha
  have c2 := call515 (pu := true) (H := H) hb
  have c3 := call519 (pu := true) (H := H) (a := mkey a) (b := mkey b)
  simp [mvC] at c1 c2
  simp [c518, k518, mvC, ldc, hP, c1, c2, c3, callV]
  rfl
/-- The k-th move of the grid. -/
def grE (m k : Nat) : Int × Int := (((k / (2 * m + 1) : Nat) : Int) - m, ((k % (2 * m + 1) : Nat) : Int) - m)
def gridK (m k : Nat) : ML := (List.range k).map (grE m)
theorem gridK_succ {m k : Nat} : gridK m (k + 1) = gridK m k ++ [grE m k] := by simp [gridK, List.range_succ]
theorem gridK_len {m k : Nat} : (gridK m k).length = k := by simp [gridK]
theorem gridK_all : ∀ m, m < 5 → gridK m ((2 * m + 1) * (2 * m + 1)) = gridM m := by decide +kernel
theorem grE_at {m i j : Nat} (hj : j < 2 * m + 1) : grE m (i * (2 * m + 1) + j) = ((i : Int) - m, (j : Int) - m) := by
  unfold grE
  have h1 : (i * (2 * m + 1) + j) / (2 * m + 1) = i := by
    rw [Nat.mul_comm, Nat.mul_add_div (by omega), Nat.div_eq_of_lt hj]; rfl
  have h2 : (i * (2 * m + 1) + j) % (2 * m + 1) = j := by
    rw [Nat.mul_comm, Nat.mul_add_mod, Nat.mod_eq_of_lt hj]
  rw [h1, h2]
theorem stb_all {m : Nat} (h : m ≤ 4) : stbM (gridM m) (gridM m).length = some (farM m) := by
  have : m = 0 ∨ m = 1 ∨ m = 2 ∨ m = 3 ∨ m = 4 := by omega
  rcases this with rfl | rfl | rfl | rfl | rfl
  · exact stb0
  · exact stb1
  · exact stb2
  · exact stb3
  · exact stb4
theorem gridM_len {m : Nat} (h : m ≤ 4) : (gridM m).length = (2 * m + 1) * (2 * m + 1) := by rw [← gridK_all m (by omega), gridK_len]
theorem farM_small : ∀ m : Nat, m < 5 → ((farM m).all smallM && (gridM m).all smallM && decide ((farM m).length = (gridM m).length)) = true := by decide +kernel
theorem mvsC_one {l : ML} {a : Int × Int} : mvsC l ++ mvC a = mvsC (l ++ [a]) := by rw [mvsC_app]; simp [mvsC, rowsC]
theorem room2 {i : Nat} (h : i ≤ 1000000) : (i + 1) * 2 ≤ roomMax := by have : roomMax = 140737488355328 := rfl; omega
theorem call371 {pu : Bool} {H : Heap} {m : Nat} (hm : m ≤ 4) : Call tab pu 371 [.int .i64 (m : Int)] H = some (slc H.length 0 0 (farM m).length (farM m).length, H ++ [⟨mvsC (farM m), 2, 0, false⟩]) := by
  refine Call_wp t371 (.inr rfl) rfl ?_
  obtain ⟨N, hN⟩ : ∃ N, N = 2 * m + 1 := ⟨_, rfl⟩
  have hNN : N * N ≤ 81 := by
    have : N ≤ 9 := by omega
    exact Nat.mul_le_mul this this
  have hgk := gridK_all m (by omega)
  rw [← hN] at hgk
  have w0 : IntKind.wrap .i64 (-(m : Int)) = -(m : Int) := wrap64 (by omega)
  simp [c371, k371, fill, rep, w0]
  refine WK_loop (fun i e G => e 0 = .int .i64 m ∧ e 4 = .int .i64 ((i : Int) - m) ∧ ∃ g, e 3 = g ∧ Gr H G g 2 (i * N) (mvsC (gridK m (i * N)))) N ?_ (Nat.zero_le _) ⟨by simp, by simp, by simp; exact Gr.new .refl⟩
  rintro i e G _ hi ⟨h0, h4, g, h3, hg⟩
  by_cases hiN : i = N
  · rw [hiN] at h4 hg
    have n1 : ¬ ((N : Int) - m ≤ m) := by omega
    rw [hgk] at hg
    obtain ⟨b, ver, rfl, hgb, hbH, hlen, hP⟩ := hg
    have hbG := (List.getElem?_eq_some_iff.1 hgb).1
    have hgl : (gridM m).length = N * N := by rw [gridM_len hm, hN]
    have hfl : (farM m).length = N * N := by
      have := farM_small m (by omega)
      simp only [Bool.and_eq_true, decide_eq_true_eq] at this
      rw [this.2, hgl]
    obtain ⟨G0, hG0⟩ : ∃ G0, G0 = G ++ [(⟨[.func (.func 515) #[] #[]], 1, 0, false⟩ : Blk)] := ⟨_, rfl⟩
    have hwr : wr H.length false (G ++ [⟨[.nilFunc], 1, 0, false⟩]) G.length 0 0 [.func (.func 515) #[] #[]] = some G0 := by
      have := wr_last (n0 := H.length) (wb := false) (H := G) (b := ⟨[.nilFunc], 1, 0, false⟩) (vs := [.func (.func 515) #[] #[]]) rfl rfl hP.len rfl
      rw [this, hG0]
    have hb0 : b < G0.length := by rw [hG0]; simp; omega
    have hg0 : hp G0 b ver (gridM m) = G0 := by
      unfold hp
      refine set_self ?_
      rw [hG0, List.getElem?_append_left hbG]; exact hgb
    have S : SrtH G0 b ver (N * N) (.func (.func 518) #[] #[adr G.length 0 0]) := by
      refine ⟨hb0, by omega, fun l a c _ ha hc => ?_⟩
      have hP : rd (hp G0 b ver l) G.length 0 0 1 = some [.func (.func 515) #[] #[]] := by
        have : (hp G0 b ver l)[G.length]? = some ⟨[.func (.func 515) #[] #[]], 1, 0, false⟩ := by
          unfold hp
          rw [List.getElem?_set_ne (by omega), hG0]; exact get_last
        rw [rd_at this rfl (by simp)]; rfl
      have := call518 (pu := true) hP ha hc
      rw [← this]
      simp [callV]
    have hst := stb_all hm
    rw [hgl] at hst
    obtain ⟨r1, _⟩ := call517 S hgl hst
    rw [hg0] at r1
    have hPG : Pre H G0 := by rw [hG0]; exact hP.app
    have hP2 : Pre H (hp G0 b ver (farM m)) := hPG.set hbH
    have hGr : Gr H (hp G0 b ver (farM m)) (slc b 0 ver (N * N) (N * N)) 2 (N * N) (mvsC (farM m)) := ⟨b, ver, rfl, hp_get hb0, hbH, by rw [mvsC_length, hfl], hP2⟩
    have hfin := hGr.fin mvsC_flat
    rw [hfl]
    have hel : elder H.length false G0 (tup [], hp G0 b ver (farM m)) = some (tup [], hp G0 b ver (farM m)) := elder_pre hPG hP2
    have hcf : cellsOf (.func (.func 515) #[] #[]) = [.func (.func 515) #[] #[]] := rfl
    simp [b371_2, h0, h4, h3, n1, hcf, hwr, wbOf, r1, hel, hfin]
  · have n1 : (i : Int) - m ≤ m := by omega
    have e9 : IntKind.wrap .i64 ((i : Int) - m + 1) = ((i + 1 : Nat) : Int) - m := by rw [wrap64 (by omega)]; omega
    have w1 : IntKind.wrap .i8 ((i : Int) - m) = (i : Int) - m := wrap8 (by omega)
    simp [b371_2, h0, h4, h3, n1, w0]
    refine WK_loop (fun j e G => e 0 = .int .i64 m ∧ e 4 = .int .i64 ((i : Int) - m) ∧ e 5 = .int .i64 ((j : Int) - m) ∧ ∃ g, e 3 = g ∧ Gr H G g 2 (i * N + j) (mvsC (gridK m (i * N + j)))) N ?_ (Nat.zero_le _) ⟨by simp [h0], by simp [h4], by simp, g, by simp [h3], hg⟩
    rintro j e G _ hj ⟨h0, h4, h5, g, h3, hg⟩
    by_cases hjN : j = N
    · rw [hjN] at h5 hg
      have n2 : ¬ ((N : Int) - m ≤ m) := by omega
      simp [b371_1, h0, h4, h5, h3, n2, e9]
      exact ⟨by omega, by rw [Nat.succ_mul]; exact hg⟩
    · have n2 : (j : Int) - m ≤ m := by omega
      have e10 : IntKind.wrap .i64 ((j : Int) - m + 1) = ((j + 1 : Nat) : Int) - m := by rw [wrap64 (by omega)]; omega
      have w2 : IntKind.wrap .i8 ((j : Int) - m) = (j : Int) - m := wrap8 (by omega)
      have hij : i * N + j < N * N := by
        have := mul_next (esz := N) (show i < N by omega)
        omega
      obtain ⟨x', G', hpush, hx'⟩ := hg.push (c := mvC ((i : Int) - m, (j : Int) - m)) (bytes := 2) rfl (room2 (by omega)) (wb := false)
      have hge : grE m (i * N + j) = ((i : Int) - m, (j : Int) - m) := by rw [hN]; exact grE_at (by omega)
      rw [mvsC_one, ← hge, ← gridK_succ] at hx'
      have hfa : fill [.int .i8 0, .int .i8 0] [(0, 1, .int .i8 ((i : Int) - m)), (1, 1, .int .i8 ((j : Int) - m))] = some (mvC ((i : Int) - m, (j : Int) - m)) := rfl
      have hf1 := fill_one (z := [.int .i8 0, .int .i8 0]) (v := agg (mvC ((i : Int) - m, (j : Int) - m))) (esz := 2) rfl rfl
      simp [b371_1, h0, h4, h5, h3, n2, w1, w2, hfa, hf1, hpush, wbOf, e10]
      exact ⟨by omega, hx'⟩
theorem call549 {pu : Bool} {H : Heap} {a b : Int} : Call tab pu 549 [.int .i64 a, .int .i64 b] H = some (.int .i64 (if b < a then a else b), H) := by
  refine Call_wp t549 (.inr rfl) rfl ?_
  by_cases h : b < a
  · simp [c549, k549, h]
  · simp [c549, k549, h]
end Fb
