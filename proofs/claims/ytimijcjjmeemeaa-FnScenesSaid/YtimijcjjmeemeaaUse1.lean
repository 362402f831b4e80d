/- What each function computes. -/
import Derived.Test.YtimijcjjmeemeaaUse0
set_option linter.unusedVariables false
set_option linter.unusedSimpArgs false
namespace Fb
open Go
theorem mvR_shr {f : List Int} {d y n : Nat} {dy : Int} (hy : y < 12) (hsy : 0 ≤ (y : Int) - dy ∧ (y : Int) - dy < 12) (hn : nth f ((y : Int) - dy).toNat = n) (hlt : n < 4096) : mvR f (-(d : Int)) dy y = ((n / 2 ^ d : Nat) : Int) := by
  rw [mvR, shF, dotsF_nth hy]
  congr 1
  refine (rowN_eq (m := 12) (Nat.lt_of_le_of_lt (Nat.div_le_self _ _) hlt) fun x hx => ?_).symm
  rw [Nat.testBit_div_two_pow]
  rw [Bool.eq_iff_iff]
  simp only [mvP, hasF, hn, dotB_bit, Bool.and_eq_true, decide_eq_true_eq]
  have e1 : ((x : Int) - -(d : Int)).toNat = x + d := by omega
  rw [e1]
  constructor
  · intro h2
    refine ⟨?_, h2⟩
    have : ¬ (12 ≤ x + d) := fun h => by
      have := Nat.testBit_lt_two_pow (x := n) (i := x + d) (Nat.lt_of_lt_of_le hlt (Nat.pow_le_pow_right (n := 2) (by omega) h))
      rw [this] at h2; cases h2
    omega
  · rintro ⟨_, h2⟩
    exact h2
theorem mvR_off {f : List Int} {dx dy : Int} {y : Nat} (hy : y < 12) (h : ¬ (0 ≤ (y : Int) - dy ∧ (y : Int) - dy < 12)) : mvR f dx dy y = 0 := by
  rw [mvR, shF, dotsF_nth hy]
  have : rowN (fun x => mvP f dx dy x y) 12 = 0 := (rowN_eq (by decide) fun x hx => by
    simp only [mvP]
    rw [decide_eq_false (by omega)]; simp).symm
  rw [this]; rfl
theorem shF_far {f : List Int} {dx dy : Int} (h : ¬ (-12 ≤ dx ∧ dx ≤ 12)) : shF f dx dy = zr 12 0 := by
  rw [← dotsF_none]
  apply dotsF_congr
  intro x y hx hy
  simp only [mvP]
  rw [decide_eq_false (by omega)]; simp
/-- A moved frame, made so far. -/
def shU (f : List Int) (dx dy : Int) (k : Nat) : List Int := tabN 12 fun y => if y < k then mvR f dx dy y else 0
theorem shU_zero {f : List Int} {dx dy : Int} : shU f dx dy 0 = zr 12 0 :=
  (tabN_of (by simp) fun i _ => by rw [nth_zr]; simp).symm
theorem shU_all {f : List Int} {dx dy : Int} : shU f dx dy 12 = shF f dx dy :=
  (tabN_of (by rw [shF, dotsF_length]) fun i hi => by rw [if_pos hi]; rfl).symm
theorem shU_length {f : List Int} {dx dy : Int} {k : Nat} : (shU f dx dy k).length = 12 := tabN_length
theorem shU_set {f : List Int} {dx dy : Int} {k : Nat} (hk : k < 12) {v : Int} (hv : mvR f dx dy k = v) : (shU f dx dy k).set k v = shU f dx dy (k + 1) :=
  tabN_set hk (by rw [if_pos (by omega), hv]) fun i _ hi => by
    by_cases h : i < k
    · rw [if_pos h, if_pos (by omega)]
    · rw [if_neg h, if_neg (by omega)]
theorem shU_skip {f : List Int} {dx dy : Int} {k : Nat} (hk : k < 12) (h0 : mvR f dx dy k = 0) : shU f dx dy k = shU f dx dy (k + 1) :=
  tabN_ext fun i _ => by
    by_cases h : i < k
    · rw [if_pos h, if_pos (by omega)]
    · by_cases h2 : i = k
      · subst h2; rw [if_neg h, if_pos (by omega), h0]
      · rw [if_neg h, if_neg (by omega)]
theorem shF_length {f : List Int} {dx dy : Int} : (shF f dx dy).length = 12 := dotsF_length
theorem call358 {pu : Bool} {H : Heap} {f : List Int} {dx dy : Int} (hw : FrW f) (hk : okF f = true) (hx : -1000 ≤ dx ∧ dx ≤ 1000) (hy : -1000 ≤ dy ∧ dy ≤ 1000) : Call tab pu 358 [iv .u16 f, .int .i64 dx, .int .i64 dy] H = some (iv .u16 (shF f dx dy), H) := by
  refine Call_wp t358 (.inr rfl) rfl ?_
  have hl := hw.len
  have hz := stc_zr (k := .u16) (n := 12) (l := zr 12 0) (by simp)
  have hz2 := stc_zr (k := .u16) (n := 12) (l := shF f dx dy) shF_length
  cases hb : in1 dx (-12) 12 with
  | false =>
    have hf : shF f dx dy = zr 12 0 := shF_far (by simpa [in1] using hb)
    simp [c358, k358, zs_cs, agg_cs, fill, hz, in295, hb, hf]
  | true =>
    have hb' : -12 ≤ dx ∧ dx ≤ 12 := by simpa [in1] using hb
    simp [c358, k358, zs_cs, agg_cs, fill, hz, in295, hb]
    refine WP_forH 15 12 12 rfl (by omega) (fun i e => e 1 = .int .i64 dx ∧ e 2 = .int .i64 dy ∧ e 3 = iv .u16 f ∧ e 6 = iv .u16 (zr 12 0) ∧ e 7 = iv .u16 (shU f dx dy i)) ?_ ?_ (by simp) (by simp [shU_zero])
    · rintro y e hy12 hyy e4 h15 ⟨h1, h2, h3, h6, h7⟩
      have u1 : IntKind.wrap .i64 ((y : Int) - dy) = (y : Int) - dy := wrap64 (by omega)
      cases hs : in1 ((y : Int) - dy) 0 11 with
      | false =>
        have h0 := mvR_off (f := f) (dx := dx) (dy := dy) hy12 (by simp only [in1, decide_eq_false_iff_not] at hs; omega)
        have hsk := shU_skip hy12 h0
        simp [b358_1, h15, h1, h2, h3, h6, h7, hyy, u1, in295, hs, e4, hsk]
      | true =>
        have hs' : 0 ≤ (y : Int) - dy ∧ (y : Int) - dy < 12 := by simp only [in1, decide_eq_true_eq] at hs; omega
        obtain ⟨m, hm⟩ : ∃ m : Nat, (y : Int) - dy = m := ⟨((y : Int) - dy).toNat, by omega⟩
        have hm12 : m < 12 := by omega
        obtain ⟨n, hn, hn4⟩ := okF_row hk hw hm12
        have hn' : nth f ((y : Int) - dy).toNat = n := by rw [hm]; exact hn
        rw [hm] at hs u1
        have hlu := shU_length (f := f) (dx := dx) (dy := dy) (k := y)
        by_cases hd : 0 ≤ dx
        · obtain ⟨d, rfl⟩ := Int.eq_ofNat_of_zero_le hd
          have hd12 : d ≤ 12 := by omega
          have hv := mvR_shl (f := f) (d := d) (dy := dy) hy12 hs' hn'
          have hst := shU_set hy12 hv
          have q1 := shl_nat (n := n) hd12
          have q2 := and_4095 (n := n * 2 ^ d % 65536) (by omega)
          rw [Nat.mod_mod_of_dvd _ (by decide)] at q2
          have e9 := stc_at (k := .u16) (l := shU f d dy y) (by omega) hst
          simp (disch := omega) [b358_1, h15, h1, h2, h3, h6, h7, hyy, u1, hm, in295, hs, hm12, hl, hn, q1, q2, hy12, hlu, e9, e4, -Int.natCast_emod, -Int.natCast_mul, -Int.natCast_pow]
        · obtain ⟨d, rfl⟩ : ∃ d : Nat, dx = -(d : Int) := ⟨(-dx).toNat, by omega⟩
          have hd12 : d ≤ 12 := by omega
          have hv := mvR_shr (f := f) (d := d) (dy := dy) hy12 hs' hn' hn4
          have hst := shU_set hy12 hv
          have q1 := shr_nat (n := n) hd12
          have e9 := stc_at (k := .u16) (l := shU f (-(d : Int)) dy y) (by omega) hst
          have u2 : IntKind.wrap .i64 (d : Int) = (d : Int) := wrap64 (by omega)
          have hd0 : ¬ d = 0 := by omega
          simp (disch := omega) [b358_1, h15, h1, h2, h3, h6, h7, hyy, u1, hm, in295, hs, hm12, hl, hn, hd0, q1, u2, hy12, hlu, e9, e4, -Int.natCast_ediv, -Int.natCast_pow]
    · rintro e h15 ⟨h1, h2, h3, h6, h7⟩
      rw [shU_all] at h7
      simp [b358_1, h15, h6, h7, hz2, shF_length, agg_cs]
theorem put_off {G : Heap} {b : Nat} {x y : Int} (h : okP x y = false) : Call tab false 305 [adr b 0 0, .int .i64 x, .int .i64 y] G = some (tup [], G) := by
  refine Call_wp t305 (.inl rfl) rfl ?_
  simp [c305, k305, placeS, h]
theorem mv1_in {dx dy : Int} {x y u v : Nat} {s : List Int} (hx : x < 12) (e1 : (x : Int) + dx = u) (e2 : (y : Int) + dy = v) (hu : u < 12) (hv : v < 12) : mv1 dx dy (y * 12 + x) s = putF s u v := by
  have m1 : (y * 12 + x) % 12 = x := by omega
  have m2 : (y * 12 + x) / 12 = y := by omega
  rw [mv1, m1, m2, e1, e2, if_pos (by omega)]; rfl
theorem mv1_out {dx dy : Int} {x y : Nat} {s : List Int} (hx : x < 12) (h : okP ((x : Int) + dx) ((y : Int) + dy) = false) : mv1 dx dy (y * 12 + x) s = s := by
  have m1 : (y * 12 + x) % 12 = x := by omega
  have m2 : (y * 12 + x) / 12 = y := by omega
  rw [mv1, m1, m2, if_neg]
  intro h2
  have : okP ((x : Int) + dx) ((y : Int) + dy) = true := by simp [okP]; omega
  rw [this] at h; cases h
theorem mvS_length {dx dy : Int} {L : List Nat} : (mvS dx dy L).length = 12 := by rw [mvS_dots, dotsF_length]
theorem call355 {pu : Bool} {H : Heap} {q off ver : Nat} {f : List Int} {dx dy : Int} (hw : FrW f) (hr : rd H q off ver 12 = some (cs .u16 f)) (hx : -1000 ≤ dx ∧ dx ≤ 1000) (hy : -1000 ≤ dy ∧ dy ≤ 1000) :
    Call tab pu 355 [adr q off ver, .int .i64 dx, .int .i64 dy] H = some (iv .u16 (shF f dx dy), H) := by
  refine Call_wp t355 (.inr rfl) rfl ?_
  have hl := hw.len
  have hz := stc_zr (k := .u16) (n := 12) (l := shF f dx dy) shF_length
  have hle := dotL_len (f := f) (k := 144)
  obtain ⟨G0, hG0⟩ : ∃ G0, G0 = H ++ [⟨cs .u16 (zr 12 0), 1, 0, false⟩] := ⟨_, rfl⟩
  have hP0 : Pre H G0 := by rw [hG0]; exact Pre.one
  have hlen0 : G0.length = H.length + 1 := by rw [hG0]; simp
  have hc := call440 (pu := true) hw (hP0.rd hr)
  have hwr : wr H.length false (H ++ [⟨cs .u16 (zr 12 0), 1, 0, false⟩]) H.length 0 0 (cs .u16 (zr 12 0)) = some G0 := by
    rw [wr_at get_last rfl rfl (by simp [may]) (by simp), hG0]
    simp [splice]
  simp [c355, k355, zs_cs, agg_cs, fill, rep, hwr, wbOf, hc]
  refine WP_count 9 (dotL f 144).length _ rfl (fun j e G => e 1 = .int .i64 dx ∧ e 2 = .int .i64 dy ∧ e 6 = iv .u16 (zr 12 0) ∧ e 7 = adr H.length 0 0 ∧ e 8 = slc G0.length 0 0 (dotL f 144).length (dotL f 144).length ∧
    G = H ++ [⟨cs .u16 (mvS dx dy ((dotL f 144).take j)), 1, 0, false⟩, ⟨dotC f 144, 2, 0, false⟩]) (by omega) ?_ ?_ (by simp) ⟨by simp, by simp, by simp, by simp, by simp, by rw [hG0]; simp; rfl⟩
  · rintro j e _ _ hj hjj e4 h9 ⟨h1, h2, h6, h7, h8, rfl⟩
    obtain ⟨y, x, hp, hy12, hx12, hni, htk⟩ := dotL_at hj
    obtain ⟨F, hF⟩ : ∃ F, F = mvS dx dy ((dotL f 144).take j) := ⟨_, rfl⟩
    have hFl : F.length = 12 := by rw [hF, mvS_length]
    have hF1 : mvS dx dy ((dotL f 144).take (j + 1)) = mv1 dx dy (y * 12 + x) F := by rw [htk, mvS_snoc, hF]
    rw [hF1, ← hF]
    obtain ⟨G, hG⟩ : ∃ G, G = H ++ [⟨cs .u16 F, 1, 0, false⟩, ⟨dotC f 144, 2, 0, false⟩] := ⟨_, rfl⟩
    have hGG : G = H ++ [⟨cs .u16 F, 1, 0, false⟩] ++ [⟨dotC f 144, 2, 0, false⟩] := by rw [hG]; simp
    have pG : G[G0.length]? = some ⟨dotC f 144, 2, 0, false⟩ := by
      rw [hGG, hlen0]
      have := get_last (H := H ++ [⟨cs .u16 F, 1, 0, false⟩]) (b := ⟨dotC f 144, 2, 0, false⟩)
      rw [List.length_append] at this
      exact this
    have pF : G[H.length]? = some ⟨cs .u16 F, 1, 0, false⟩ := by
      rw [hGG, List.getElem?_append_left (by simp)]; exact get_last
    have hcl : (dotC f 144).length = (dotL f 144).length * 2 := by rw [dotC, mvsC_length]; simp
    have hs0 : SlR G (slc G0.length 0 0 (dotL f 144).length (dotL f 144).length) 2 (dotL f 144).length (dotC f 144) := ⟨hcl, .inr ⟨_, 0, 0, _, rfl, Nat.le_refl _, by rw [rd_at pG rfl (by simp [hcl])]; simp [take_all (Nat.le_of_eq hcl)], _, pG, rfl, rfl⟩⟩
    obtain ⟨b, o, v, ha, hr2⟩ := hs0.get1 hj
    have hel : elem (dotC f 144) 2 j = mvC ((x : Int), (y : Int)) := by
      rw [dotC, mvsC_elem (by simpa using hj), mv_map hj, hp, dotM_yx hx12]
    rw [hel] at hr2
    have d0 := rd_part hr2 (o := 0) (m := 1) (by omega)
    have d1 := rd_part hr2 (o := 1) (m := 1) (by omega)
    simp [mvC] at d0 d1
    have w1 : IntKind.wrap .i64 (x : Int) = x := wrap64 (by omega)
    have w2 : IntKind.wrap .i64 (y : Int) = y := wrap64 (by omega)
    have c1 : IntKind.wrap .i64 ((x : Int) + dx) = (x : Int) + dx := wrap64 (by omega)
    have c2 : IntKind.wrap .i64 ((y : Int) + dy) = (y : Int) + dy := wrap64 (by omega)
    rw [← hG]
    cases ho : okP ((x : Int) + dx) ((y : Int) + dy) with
    | false =>
      have hpo := put_off (G := G) (b := H.length) ho
      rw [mv1_out hx12 ho]
      simp [b355_1, h9, h1, h2, h6, h7, h8, hjj, ha, d0, d1, w1, w2, c1, c2, hpo, wbOf, e4, ← hG]
    | true =>
      obtain ⟨u, v, eu, ev, hu, hv⟩ := okP_get ho
      have hput := call305 (x := u) (y := v) pF hFl hu hv
      rw [mv1_in hx12 eu ev hu hv]
      have hset : G.set H.length ⟨cs .u16 (putF F u v), 1, 0, false⟩ = H ++ [⟨cs .u16 (putF F u v), 1, 0, false⟩, ⟨dotC f 144, 2, 0, false⟩] := by
        rw [hGG, List.set_append_left _ _ (by simp), set_last]; simp
      rw [hset] at hput
      rw [eu] at c1
      rw [ev] at c2
      have hel2 : elder H.length false G (tup [], H ++ [⟨cs .u16 (putF F u v), 1, 0, false⟩, ⟨dotC f 144, 2, 0, false⟩]) = some (tup [], H ++ [⟨cs .u16 (putF F u v), 1, 0, false⟩, ⟨dotC f 144, 2, 0, false⟩]) := elder_same (by rw [hG]; simp)
      simp [b355_1, h9, h1, h2, h6, h7, h8, hjj, ha, d0, d1, w1, w2, eu, ev, c1, c2, hput, hel2, wbOf, e4]
  · rintro e _ _ h9 ⟨h1, h2, h6, h7, h8, rfl⟩
    have hrd : rd (H ++ [⟨cs .u16 (mvS dx dy ((dotL f 144).take (dotL f 144).length)), 1, 0, false⟩, ⟨dotC f 144, 2, 0, false⟩]) H.length 0 0 12 = some (cs .u16 (shF f dx dy)) := by
      rw [List.take_length, mvS_all]
      have := rd_app (L := [⟨dotC f 144, 2, 0, false⟩]) (rd_last (H := H) (b := ⟨cs .u16 (shF f dx dy), 1, 0, false⟩) (n := 12) rfl (by simp [shF_length]))
      simpa using this
    rw [List.take_length] at hrd
    simp [b355_1, h9, h6, h7, h8, hrd, hz, shF_length, agg_cs]
theorem rowB_get {s : Sted} {j : Nat} (h : rowB s j = true) : ∃ y : Nat, (rw' s j).1 = y ∧ y < 12 ∧ u16' (rw' s j).2 ∧ okRow (rw' s j).2 = true := by
  simp only [rowB, Bool.and_eq_true, in1, decide_eq_true_eq] at h
  refine ⟨(rw' s j).1.toNat, by omega, by omega, ?_, ?_⟩
  · simp only [u16']; omega
  · simp only [okRow, decide_eq_true_eq]; omega
theorem okSt_rows {s : Sted} {i : Nat} (h : okSt s i = true) : rowsB s = true := by
  simp only [okSt, Bool.and_eq_true] at h; exact h.1
def chgL (f g : List Int) (k : Nat) : List (Int × Int) := itN (fun y v => if (nth f y != nth g y) = true then v ++ [((y : Int), xorI (nth f y) (nth g y))] else v) [] k
/-- A list that has grown, or is none yet. -/
def GrN (H G : Heap) (x : Value) (esz n : Nat) (vs : List Value) : Prop := Gr H G x esz n vs ∨ (x = .slice none 0 0 ∧ n = 0 ∧ vs = [] ∧ Pre H G)
theorem GrN.pre {H G : Heap} {x : Value} {esz n : Nat} {vs : List Value} (g : GrN H G x esz n vs) : Pre H G := by
  rcases g with g | ⟨_, _, _, p⟩
  · exact g.pre
  · exact p
theorem GrN.sl {H G : Heap} {x : Value} {esz n : Nat} {vs : List Value} (g : GrN H G x esz n vs) : SlR G x esz n vs := by
  rcases g with g | ⟨rfl, rfl, rfl, _⟩
  · exact g.sl
  · exact ⟨by simp, .inl ⟨rfl, rfl⟩⟩
theorem GrN.push {H G : Heap} {x : Value} {esz n bytes : Nat} {vs c : List Value} (g : GrN H G x esz n vs) (hc : c.length = esz) (hb : (n + 1) * bytes ≤ roomMax) {wb : Bool} :
    ∃ x' G', ((srcOf esz (G ++ [⟨c, esz, 0, false⟩]) (slc G.length 0 0 1 1)).bind fun q => appendTo H.length wb esz bytes (G ++ [⟨c, esz, 0, false⟩]) x q.1 q.2) = some (x', G') ∧ GrN H G' x' esz (n + 1) (vs ++ c) := by
  rcases g with g | ⟨rfl, rfl, rfl, p⟩
  · obtain ⟨x', G', h1, h2⟩ := g.push hc hb (wb := wb)
    exact ⟨x', G', h1, .inl h2⟩
  · have e1 : srcOf esz (G ++ [⟨c, esz, 0, false⟩]) (slc G.length 0 0 1 1) = some (1, c) := by
      show (rd (G ++ [⟨c, esz, 0, false⟩]) G.length 0 0 (1 * esz)).map (fun cs => (1, cs)) = _
      rw [Nat.one_mul, rd_last rfl (by simpa using hc)]; rfl
    refine ⟨slc (G ++ [(⟨c, esz, 0, false⟩ : Blk)]).length 0 0 1 1, G ++ [(⟨c, esz, 0, false⟩ : Blk)] ++ [⟨c, esz, 0, false⟩], ?_, .inl ⟨_, 0, rfl, get_last, ?_, by simp [hc], (p.app).app⟩⟩
    · rw [e1, Option.bind_some]
      unfold appendTo
      simp only []
      rw [if_neg (by decide), if_pos (by simpa using hb)]
    · have := p.len
      simp; omega
theorem GrN.old {H G : Heap} {x : Value} {esz n : Nat} {vs : List Value} (g : GrN H G x esz n vs) : x = .slice none 0 0 ∨ old0 H.length x = false := by
  rcases g with ⟨b, ver, rfl, _, h, _⟩ | ⟨rfl, _⟩
  · right; rw [old0_slc]; simp; omega
  · exact .inl rfl
/-- The better of a step and a slide. -/
def stepB (f g : List Int) (base : Int) (s : Sted) (dx dy : Int) : Sted :=
  if (dx == 0 && dy == 0) = true then s else if 4 + 3 * ((chgL (shF f dx dy) g 12).length : Int) < stCost s then ⟨2, base, dx, dy, chgL (shF f dx dy) g 12⟩ else s
def inB (f g : List Int) (base dx : Int) (s : Sted) (k : Nat) : Sted := itN (fun j s => stepB f g base s dx ((j : Int) - 12)) s k
def outB (f g : List Int) (base : Int) (k : Nat) : Sted := itN (fun i s => inB f g base ((i : Int) - 12) s 25) ⟨1, base, 0, 0, chgL f g 12⟩ k
/-- A step in a block of its own. -/
structure StO (H G : Heap) (P : Nat) (s : Sted) (y : Value) : Prop where
  pre : Pre H G
  ge : H.length ≤ P
  blk : G[P]? = some ⟨stC s y, 1, 0, false⟩
  row : ∃ b, y = slc b 0 0 s.rows.length s.rows.length ∧ H.length ≤ b ∧ b ≠ P ∧ G[b]? = some ⟨chsC s.rows, 2, 0, false⟩
theorem StO.rw {H G : Heap} {P : Nat} {s : Sted} {y : Value} (h : StO H G P s y) : Rw G y s := by
  obtain ⟨b, rfl, _, _, hg⟩ := h.row
  exact ⟨chsC_length, .inr ⟨b, 0, 0, _, rfl, Nat.le_refl _, by rw [rd_at hg rfl (by simp only []; rw [chsC_length]; omega)]; simp only [List.drop_zero]; rw [List.take_of_length_le (by rw [chsC_length]; exact Nat.le_refl _)], _, hg, rfl, rfl⟩⟩
theorem StO.rd {H G : Heap} {P : Nat} {s : Sted} {y : Value} (h : StO H G P s y) : rd G P 0 0 5 = some (stC s y) := by
  rw [rd_at h.blk rfl (by simp [stC])]; rfl
theorem StO.app {H G G' : Heap} {P : Nat} {s : Sted} {y : Value} (p : Pre G G') (h : StO H G P s y) : StO H G' P s y := by
  refine ⟨h.pre.trans p, h.ge, by rw [p.get (List.getElem?_eq_some_iff.1 h.blk).1]; exact h.blk, ?_⟩
  obtain ⟨b, e, h1, h2, h3⟩ := h.row
  exact ⟨b, e, h1, h2, by rw [p.get (List.getElem?_eq_some_iff.1 h3).1]; exact h3⟩
theorem GrN.app {H G G' : Heap} {x : Value} {esz n : Nat} {vs : List Value} (g : GrN H G x esz n vs) (p : Pre G G') : GrN H G' x esz n vs := by
  rcases g with g | ⟨e1, e2, e3, q⟩
  · obtain ⟨L, rfl⟩ := p
    exact .inl g.app
  · exact .inr ⟨e1, e2, e3, q.trans p⟩
theorem GrN.low {H G G' : Heap} {x : Value} {esz n : Nat} {vs : List Value} (g : GrN G G' x esz n vs) (p : Pre H G) : GrN H G' x esz n vs := by
  rcases g with ⟨b, ver, e1, e2, e3, e4, q⟩ | ⟨e1, e2, e3, q⟩
  · exact .inl ⟨b, ver, e1, e2, Nat.le_trans p.len e3, e4, p.trans q⟩
  · exact .inr ⟨e1, e2, e3, p.trans q⟩
/-- The better of a step and the cheapest step from a page. -/
def pickB (b : List (List Int)) (k : Nat) (p : Nat → Bool) (j : Nat) (s : Sted) : Sted :=
  if p j = true then if stCost (outB (fr b j) (fr b k) j 25) < stCost s then outB (fr b j) (fr b k) j 25 else s else s
def bestS (b : List (List Int)) (k : Nat) (p : Nat → Bool) (i : Nat) : Sted := itN (fun j s => pickB b k p j s) ⟨0, 0, 0, 0, chgL (zr 12 0) (fr b k) 12⟩ i
structure StP (H G : Heap) (P : Nat) (s : Sted) (y : Value) : Prop where
  ge : H.length ≤ P
  blk : G[P]? = some ⟨stC s y, 1, 0, false⟩
  row : GrN H G y 2 s.rows.length (chsC s.rows)
theorem StP.rd {H G : Heap} {P : Nat} {s : Sted} {y : Value} (h : StP H G P s y) : rd G P 0 0 5 = some (stC s y) := by
  rw [rd_at h.blk rfl (by simp [stC])]; rfl
theorem StP.app {H G G' : Heap} {P : Nat} {s : Sted} {y : Value} (p : Pre G G') (h : StP H G P s y) : StP H G' P s y :=
  ⟨h.ge, by rw [p.get (List.getElem?_eq_some_iff.1 h.blk).1]; exact h.blk, h.row.app p⟩
theorem GrN.set {H G : Heap} {y : Value} {n P : Nat} {vs : List Value} {k k' : Blk} (g : GrN H G y 2 n vs) (ge : H.length ≤ P) (hP : G[P]? = some k) (hk : k.esz = 1) : GrN H (G.set P k') y 2 n vs := by
  rcases g with ⟨b, ver, e1, e2, e3, e4, q⟩ | ⟨e1, e2, e3, q⟩
  · have hne : P ≠ b := by
      rintro rfl
      rw [hP] at e2
      cases e2
      cases hk
    exact .inl ⟨b, ver, e1, by rw [List.getElem?_set_ne hne]; exact e2, e3, e4, q.set ge⟩
  · exact .inr ⟨e1, e2, e3, q.set ge⟩
/-- A list of steps that grows: the rows stand in blocks of their own. -/
def GrS (H G : Heap) (x : Value) (l : List Sted) : Prop := ∃ b ver vs, x = slc b 0 ver l.length l.length ∧ G[b]? = some ⟨vs, 5, ver, false⟩ ∧ H.length ≤ b ∧ vs.length = l.length * 5 ∧ Pre H G ∧
  ∀ i, i < l.length → ∃ y, elem vs 5 i = stC (at0 l i) y ∧ GrN H G y 2 (at0 l i).rows.length (chsC (at0 l i).rows)
theorem GrN.put {H G : Heap} {y : Value} {n P : Nat} {vs : List Value} {k k' : Blk} (g : GrN H G y 2 n vs) (ge : H.length ≤ P) (hP : G[P]? = some k) (hk : k.esz ≠ 2) : GrN H (G.set P k') y 2 n vs := by
  rcases g with ⟨b, ver, e1, e2, e3, e4, q⟩ | ⟨e1, e2, e3, q⟩
  · have hne : P ≠ b := by
      rintro rfl
      rw [hP] at e2
      cases e2
      exact hk rfl
    exact .inl ⟨b, ver, e1, by rw [List.getElem?_set_ne hne]; exact e2, e3, e4, q.set ge⟩
  · exact .inr ⟨e1, e2, e3, q.set ge⟩
theorem GrS.new {H G : Heap} (p : Pre H G) : GrS H (G ++ [⟨[], 5, 0, false⟩]) (slc G.length 0 0 0 0) [] := ⟨_, _, _, rfl, get_last, p.len, by simp, p.app, fun i hi => by simp at hi⟩
theorem GrS.pre {H G : Heap} {x : Value} {l : List Sted} (g : GrS H G x l) : Pre H G := by obtain ⟨_, _, _, _, _, _, _, p, _⟩ := g; exact p
theorem at0_app {α : Type} [Inhabited α] {l : List α} {a : α} {i : Nat} : at0 (l ++ [a]) i = if i < l.length then at0 l i else if i = l.length then a else default := by
  unfold at0
  by_cases h : i < l.length
  · rw [if_pos h]; simp [List.getD_eq_getElem?_getD, List.getElem?_append_left h]
  · rw [if_neg h]
    by_cases h2 : i = l.length
    · rw [if_pos h2]; subst h2; simp [List.getD_eq_getElem?_getD]
    · rw [if_neg h2, List.getD_eq_getElem?_getD, List.getElem?_eq_none (by simp; omega)]; rfl
theorem GrS.push {H G : Heap} {x : Value} {l : List Sted} {s : Sted} {y : Value} (g : GrS H G x l) (hy : GrN H G y 2 s.rows.length (chsC s.rows)) (hb : (l.length + 1) * 32 ≤ roomMax) {wb : Bool} :
    ∃ x' G', ((srcOf 5 (G ++ [⟨stC s y, 5, 0, false⟩]) (slc G.length 0 0 1 1)).bind fun q => appendTo H.length wb 5 32 (G ++ [⟨stC s y, 5, 0, false⟩]) x q.1 q.2) = some (x', G') ∧ GrS H G' x' (l ++ [s]) ∧ ∀ (b' : Nat) (k : Blk), G[b']? = some k → k.esz ≠ 5 → G'[b']? = some k := by
  obtain ⟨b, ver, vs, rfl, h1, h2, h3, h4, h5⟩ := g
  obtain ⟨G1, hG1⟩ : ∃ G1, G1 = G ++ [(⟨stC s y, 5, 0, false⟩ : Blk)] := ⟨_, rfl⟩
  have p1 : Pre G G1 := by rw [hG1]; exact Pre.one
  have h1' : G1[b]? = some ⟨vs, 5, ver, false⟩ := by rw [p1.get (List.getElem?_eq_some_iff.1 h1).1]; exact h1
  have e1 : srcOf 5 G1 (slc G.length 0 0 1 1) = some (1, stC s y) := by
    show (rd G1 G.length 0 0 (1 * 5)).map (fun cs => (1, cs)) = _
    rw [Nat.one_mul, hG1, rd_last rfl (by simp [stC])]; rfl
  rw [← hG1]
  have hl : (stC s y).length = 5 := rfl
  refine ⟨slc b 0 (ver + 1) (l.length + 1) (l.length + 1), G1.set b ⟨vs ++ stC s y, 5, ver + 1, false⟩, ?_, ⟨b, ver + 1, vs ++ stC s y, by simp, get_set h1', h2, by simp [h3, hl]; omega, (h4.trans p1).set h2, fun i hi => ?_⟩, fun b' k hk he => ?_⟩
  · rw [e1, Option.bind_some]
    exact appendTo_grow h1' rfl rfl (by simp [may, h2]) rfl h3.symm (by omega) hb
  · rw [at0_app]
    by_cases hil : i < l.length
    · rw [if_pos hil]
      obtain ⟨y', e2, e3⟩ := h5 i hil
      have hm := mul_next (esz := 5) hil
      refine ⟨y', ?_, (e3.app p1).put h2 h1' (by simp)⟩
      rw [← e2]
      unfold elem
      rw [List.drop_append_of_le_length (by omega), List.take_append_of_le_length (by simp; omega)]
    · have hie : i = l.length := by simp at hi; omega
      rw [if_neg hil, if_pos hie]
      subst hie
      refine ⟨y, ?_, (hy.app p1).put h2 h1' (by simp)⟩
      unfold elem
      rw [← h3, List.drop_left, List.take_of_length_le (by rw [hl]; omega)]
  · have hne : b ≠ b' := by
      rintro rfl
      rw [h1] at hk
      cases hk
      exact he rfl
    rw [List.getElem?_set_ne hne, p1.get (List.getElem?_eq_some_iff.1 hk).1]
    exact hk
/-- The steps and the depths, page by page. -/
def encP (b : List (List Int)) (lim : Int) (i : Nat) : List Sted × List Int :=
  itN (fun i q => let s := bestS b i (fun j => !decide (lim ≤ nth q.2 j)) i; (q.1 ++ [s], q.2 ++ [depV s q.2])) ([], []) i
/-- Only blocks of one kind have changed. -/
def KeepE (e : Nat) (G G' : Heap) : Prop := ∀ (b : Nat) (k : Blk), G[b]? = some k → k.esz ≠ e → G'[b]? = some k
theorem KeepE.pre {e : Nat} {G G' : Heap} (p : Pre G G') : KeepE e G G' := fun b k h _ => by rw [p.get (List.getElem?_eq_some_iff.1 h).1]; exact h
theorem KeepE.trans {e : Nat} {A B C : Heap} (h : KeepE e A B) (h' : KeepE e B C) : KeepE e A C := fun b k q n => h' b k (h b k q n) n
theorem GrN.keep {e : Nat} {H G G' : Heap} {y : Value} {n : Nat} {vs : List Value} (g : GrN H G y 2 n vs) (k : KeepE e G G') (he : e ≠ 2) (p : Pre H G') : GrN H G' y 2 n vs := by
  rcases g with ⟨b, ver, e1, e2, e3, e4, _⟩ | ⟨e1, e2, e3, _⟩
  · exact .inl ⟨b, ver, e1, k _ _ e2 (by simp only []; omega), e3, e4, p⟩
  · exact .inr ⟨e1, e2, e3, p⟩
theorem GrS.keep {e : Nat} {H G G' : Heap} {x : Value} {l : List Sted} (g : GrS H G x l) (k : KeepE e G G') (he : e ≠ 2) (he5 : e ≠ 5) (p : Pre H G') : GrS H G' x l := by
  obtain ⟨b, ver, vs, e1, h1, h2, h3, _, h5⟩ := g
  refine ⟨b, ver, vs, e1, k _ _ h1 (by simp only []; omega), h2, h3, p, fun i hi => ?_⟩
  obtain ⟨y, e2, e3⟩ := h5 i hi
  exact ⟨y, e2, e3.keep k he p⟩
theorem Gr.keep {e esz : Nat} {H G G' : Heap} {x : Value} {n : Nat} {vs : List Value} (g : Gr H G x esz n vs) (k : KeepE e G G') (he : e ≠ esz) (p : Pre H G') : Gr H G' x esz n vs := by
  obtain ⟨b, ver, e1, h1, h2, h3, _⟩ := g
  exact ⟨b, ver, e1, k _ _ h1 (by simp only []; omega), h2, h3, p⟩
@[simp] theorem blkOf_adr {b o v : Nat} : blkOf (adr b o v) = some b := rfl
@[simp] theorem blkOf_slc {b o v n c : Nat} : blkOf (slc b o v n c) = some b := rfl
@[simp] theorem blkOf_nil {n c : Nat} : blkOf (.slice none n c) = none := rfl
/-- A piece appended to a list of a call's own. -/
theorem push_at {n0 b ver n esz bytes : Nat} {G : Heap} {vs c : List Value} {wb : Bool} (hg : G[b]? = some ⟨vs, esz, ver, false⟩) (hb : n0 ≤ b) (hl : vs.length = n * esz) (hc : c.length = esz) (hr : (n + 1) * bytes ≤ roomMax) :
    ((srcOf esz (G ++ [⟨c, esz, 0, false⟩]) (slc G.length 0 0 1 1)).bind fun q => appendTo n0 wb esz bytes (G ++ [⟨c, esz, 0, false⟩]) (slc b 0 ver n n) q.1 q.2) =
      some (slc b 0 (ver + 1) (n + 1) (n + 1), (G ++ [(⟨c, esz, 0, false⟩ : Blk)]).set b ⟨vs ++ c, esz, ver + 1, false⟩) := by
  have h1' : (G ++ [(⟨c, esz, 0, false⟩ : Blk)])[b]? = some ⟨vs, esz, ver, false⟩ := by rw [List.getElem?_append_left (List.getElem?_eq_some_iff.1 hg).1]; exact hg
  have e1 : srcOf esz (G ++ [⟨c, esz, 0, false⟩]) (slc G.length 0 0 1 1) = some (1, c) := by
    show (rd (G ++ [⟨c, esz, 0, false⟩]) G.length 0 0 (1 * esz)).map (fun cs => (1, cs)) = _
    rw [Nat.one_mul, rd_last rfl (by simpa using hc)]; rfl
  rw [e1, Option.bind_some]
  exact appendTo_grow h1' rfl rfl (by simp [may, hb]) rfl hl.symm (by omega) hr
theorem push_get {b b' : Nat} {G : Heap} {k k' : Blk} (hb : b' ≠ b) (hl : b' < G.length) : ((G ++ [k']).set b k)[b']? = G[b']? := by
  rw [List.getElem?_set_ne (Ne.symm hb), List.getElem?_append_left hl]
theorem push_self {b : Nat} {G : Heap} {k k' : Blk} (hl : b < G.length) : ((G ++ [k']).set b k)[b]? = some k := by
  rw [List.getElem?_set_self (by simp; omega)]
theorem push_pre {H G : Heap} {b : Nat} {k k' : Blk} (p : Pre H G) (hb : H.length ≤ b) : Pre H ((G ++ [k']).set b k) := (p.app).set hb
theorem GrN.ownC {H G : Heap} {x : Value} {esz n : Nat} {vs : List Value} (g : GrN H G x esz n vs) : Own G x (blkOf x) H.length esz n vs := by
  rcases g with ⟨b, ver, rfl, h1, h2, h3, _⟩ | ⟨rfl, rfl, rfl, _⟩
  · exact ⟨h3, h2, ver, n, [], rfl, Nat.le_refl _, by rw [List.append_nil]; exact h1⟩
  · exact ⟨by simp, rfl, rfl⟩
/-- Cells of records of five, the last of which leads to rows of its own. -/
structure RawD (n0 : Nat) (G : Heap) (b ver n : Nat) (ys : Nat → Value) (β : Nat → Option Nat) (hd : Nat → List Value) (m : Nat → Nat) (rc : Nat → List Value) : Prop where
  lo : n0 ≤ b
  out : ∃ vs, G[b]? = some ⟨vs, 5, ver, false⟩ ∧ vs.length = n * 5 ∧ ∀ i, i < n → elem vs 5 i = hd i ++ [ys i]
  hl : ∀ i, i < n → (hd i).length = 4
  row : ∀ i, i < n → Own G (ys i) (β i) n0 2 (m i) (rc i)
  dis : ∀ i j q, i < n → j < n → β i = some q → β j = some q → i = j
theorem RawD.lt {n0 b ver n : Nat} {G : Heap} {ys : Nat → Value} {β : Nat → Option Nat} {hd rc : Nat → List Value} {m : Nat → Nat} (h : RawD n0 G b ver n ys β hd m rc) : b < G.length := by
  obtain ⟨vs, hg, _⟩ := h.out
  exact (List.getElem?_eq_some_iff.1 hg).1
theorem RawD.ne {n0 b ver n : Nat} {G : Heap} {ys : Nat → Value} {β : Nat → Option Nat} {hd rc : Nat → List Value} {m : Nat → Nat} (h : RawD n0 G b ver n ys β hd m rc) {i q : Nat} (hi : i < n) (hq : β i = some q) : q ≠ b := by
  rintro rfl
  obtain ⟨vs, hg, _⟩ := h.out
  obtain ⟨_, h2⟩ := h.row i hi
  rw [hq] at h2
  obtain ⟨_, ver', cap, rest, _, _, hg'⟩ := h2
  rw [hg] at hg'
  cases hg'
/-- What keeps the blocks keeps the list. -/
theorem RawD.keep {n0 b ver n : Nat} {G G' : Heap} {ys : Nat → Value} {β : Nat → Option Nat} {hd rc : Nat → List Value} {m : Nat → Nat} (h : RawD n0 G b ver n ys β hd m rc)
    (k : ∀ (b' : Nat) (k : Blk), G[b']? = some k → k.esz ≠ 1 → G'[b']? = some k) : RawD n0 G' b ver n ys β hd m rc := by
  refine ⟨h.lo, ?_, h.hl, fun i hi => ?_, h.dis⟩
  · obtain ⟨vs, hg, h2⟩ := h.out
    exact ⟨vs, k _ _ hg (by simp), h2⟩
  · obtain ⟨h1, h2⟩ := h.row i hi
    refine ⟨h1, ?_⟩
    cases hb : β i with
    | none => rw [hb] at h2; exact h2
    | some q =>
      rw [hb] at h2
      obtain ⟨hb, ver', cap, rest, e1, hc, hg⟩ := h2
      exact ⟨hb, ver', cap, rest, e1, hc, k _ _ hg (by simp)⟩
theorem RawD.pre {n0 b ver n : Nat} {G G' : Heap} {ys : Nat → Value} {β : Nat → Option Nat} {hd rc : Nat → List Value} {m : Nat → Nat} (p : Pre G G') (h : RawD n0 G b ver n ys β hd m rc) : RawD n0 G' b ver n ys β hd m rc :=
  h.keep fun b' k hk _ => by rw [p.get (List.getElem?_eq_some_iff.1 hk).1]; exact hk
theorem RawD.low {n0 n1 b ver n : Nat} {G : Heap} {ys : Nat → Value} {β : Nat → Option Nat} {hd rc : Nat → List Value} {m : Nat → Nat} (h : RawD n0 G b ver n ys β hd m rc) (hn : n1 ≤ n0) : RawD n1 G b ver n ys β hd m rc :=
  ⟨Nat.le_trans hn h.lo, h.out, h.hl, fun i hi => (h.row i hi).low hn, h.dis⟩
theorem RawD.rows {n0 b ver n : Nat} {G G' : Heap} {ys : Nat → Value} {β : Nat → Option Nat} {hd rc : Nat → List Value} {m : Nat → Nat} (h : RawD n0 G b ver n ys β hd m rc) {i : Nat} {c : List Value} (hi : i < n) (s : SameB G G' (β i)) (ho : Own G' (ys i) (β i) n0 2 (m i) c) :
    RawD n0 G' b ver n ys β hd m (fun j => if j = i then c else rc j) := by
  refine ⟨h.lo, ?_, h.hl, fun j hj => ?_, h.dis⟩
  · obtain ⟨vs, hg, h2⟩ := h.out
    refine ⟨vs, ?_, h2⟩
    rw [s.get]
    · exact hg
    · intro hq; exact h.ne hi hq rfl
  · by_cases hji : j = i
    · subst hji; simp only [if_pos rfl]; exact ho
    · simp only [if_neg hji]
      exact (h.row j hj).agree fun q hq => s.get q fun he => hji (h.dis j i q hj hi hq he)
/- Marks. -/
def msH (c : Int) : List Value := [.int .i8 (IntKind.wrap .i8 c), .int .i8 (IntKind.wrap .i8 (c + 1)), .int .i8 (IntKind.wrap .i8 (c + 2)), .int .i8 (IntKind.wrap .i8 (c + 3))]
def mkP (m : Nat → Nat) (i : Nat) : Int := 101 + (mkS m i : Nat)
/-- A list of steps, with rows of its own. -/
def StD (n0 : Nat) (G : Heap) (b ver : Nat) (l : List Sted) : Prop := ∃ ys β, RawD n0 G b ver l.length ys β (fun i => [.int .i8 (at0 l i).a, .int .i8 (at0 l i).b, .int .i8 (at0 l i).c, .int .i8 (at0 l i).d]) (fun i => (at0 l i).rows.length) (fun i => chsC (at0 l i).rows)
theorem StD.new {n0 : Nat} {G : Heap} (h : n0 ≤ G.length) : StD n0 (G ++ [⟨[], 5, 0, false⟩]) G.length 0 [] :=
  ⟨fun _ => U, fun _ => none, h, ⟨_, get_last, rfl, fun i hi => by simp at hi⟩, fun i hi => by simp at hi, fun i hi => by simp at hi, fun i j q hi => by simp at hi⟩
theorem StD.keep {n0 b ver : Nat} {G G' : Heap} {l : List Sted} (h : StD n0 G b ver l) (k : ∀ (b' : Nat) (k : Blk), G[b']? = some k → k.esz ≠ 1 → G'[b']? = some k) : StD n0 G' b ver l := by
  obtain ⟨ys, β, h⟩ := h; exact ⟨ys, β, h.keep k⟩
theorem StD.pre {n0 b ver : Nat} {G G' : Heap} {l : List Sted} (p : Pre G G') (h : StD n0 G b ver l) : StD n0 G' b ver l := by
  obtain ⟨ys, β, h⟩ := h; exact ⟨ys, β, h.pre p⟩
theorem StD.lt {n0 b ver : Nat} {G : Heap} {l : List Sted} (h : StD n0 G b ver l) : b < G.length := by
  obtain ⟨ys, β, h⟩ := h; exact h.lt
theorem StD.lo {n0 b ver : Nat} {G : Heap} {l : List Sted} (h : StD n0 G b ver l) : n0 ≤ b := by
  obtain ⟨ys, β, h⟩ := h; exact h.lo
/-- Another step. -/
theorem StD.push {n0 b ver : Nat} {K G : Heap} {l : List Sted} {s : Sted} {y : Value} (g : StD n0 K b ver l) (p : Pre K G) (hy : GrN K G y 2 s.rows.length (chsC s.rows)) (hn : n0 ≤ K.length) (hb : (l.length + 1) * 32 ≤ roomMax) {wb : Bool} :
    ∃ G', ((srcOf 5 (G ++ [⟨stC s y, 5, 0, false⟩]) (slc G.length 0 0 1 1)).bind fun q => appendTo n0 wb 5 32 (G ++ [⟨stC s y, 5, 0, false⟩]) (slc b 0 ver l.length l.length) q.1 q.2) = some (slc b 0 (ver + 1) (l.length + 1) (l.length + 1), G') ∧
      StD n0 G' b (ver + 1) (l ++ [s]) ∧ (∀ (b' : Nat) (k : Blk), b' ≠ b → G[b']? = some k → G'[b']? = some k) ∧ ∀ H : Heap, Pre H G → H.length ≤ b → Pre H G' := by
  obtain ⟨ys, β, g⟩ := g
  have hβK : ∀ i q, i < l.length → β i = some q → q < K.length := fun i q hi hq => by
    obtain ⟨_, h2⟩ := g.row i hi
    rw [hq] at h2
    obtain ⟨_, _, _, _, _, _, h3⟩ := h2
    exact (List.getElem?_eq_some_iff.1 h3).1
  have hbK := g.lt
  have g' := g.pre p
  obtain ⟨vs, h1, h3, h5⟩ := g'.out
  have hbG := g'.lt
  have hlen : (stC s y).length = 5 := rfl
  have oy := hy.ownC
  have hne : ∀ q, blkOf y = some q → q ≠ b := fun q hq => by have := oy.below q hq; omega
  have hkeep : ∀ (b' : Nat) (k : Blk), b' ≠ b → G[b']? = some k → ((G ++ [(⟨stC s y, 5, 0, false⟩ : Blk)]).set b ⟨vs ++ stC s y, 5, ver + 1, false⟩)[b']? = some k := fun b' k hb' hk => by
    rw [push_get hb' (List.getElem?_eq_some_iff.1 hk).1]; exact hk
  refine ⟨_, push_at h1 g.lo h3 rfl hb, ⟨fun i => if i < l.length then ys i else y, fun i => if i < l.length then β i else blkOf y, g.lo, ⟨_, push_self hbG, by simp [h3, hlen]; omega, fun i hi => ?_⟩, fun i hi => rfl, fun i hi => ?_, fun i j q hi hj => ?_⟩, hkeep, fun H pH hH => push_pre pH hH⟩
  · rw [at0_app]
    by_cases hil : i < l.length
    · have hm := mul_next (esz := 5) hil
      simp only [if_pos hil]
      rw [← h5 i hil]
      unfold elem
      rw [List.drop_append_of_le_length (by omega), List.take_append_of_le_length (by simp; omega)]
    · have hie : i = l.length := by simp at hi; omega
      simp only [if_neg hil, if_pos hie]
      subst hie
      unfold elem
      rw [← h3, List.drop_left, List.take_of_length_le (by rw [hlen]; omega)]; rfl
  · by_cases hil : i < l.length
    · simp only [at0_app, if_pos hil]
      exact (g'.row i hil).agree fun q hq => by
        have := hβK i q hil hq
        have := p.len
        exact push_get (g'.ne hil hq) (by omega)
    · have hie : i = l.length := by simp at hi; omega
      simp only [at0_app, if_neg hil, if_pos hie]
      exact (oy.low hn).agree fun q hq => by
        obtain ⟨_, h2⟩ := oy
        rw [hq] at h2
        obtain ⟨_, _, _, _, _, _, h3⟩ := h2
        exact push_get (hne q hq) (List.getElem?_eq_some_iff.1 h3).1
  · simp at hi hj
    by_cases hil : i < l.length
    · by_cases hjl : j < l.length
      · simp only [if_pos hil, if_pos hjl]
        exact g.dis i j q hil hjl
      · simp only [if_pos hil, if_neg hjl]
        intro e1 e2
        have := hβK i q hil e1
        have := oy.below q e2
        omega
    · by_cases hjl : j < l.length
      · simp only [if_neg hil, if_pos hjl]
        intro e1 e2
        have := hβK j q hjl e2
        have := oy.below q e1
        omega
      · intro _ _; omega
/-- What a function hands back: steps, and numbers. -/
theorem StD.fin {H G : Heap} {b ver : Nat} {l : List Sted} {rest : List Value} (g : StD H.length G b ver l) (p : Pre H G) (hr : rest.all (old1 H.length) = true) :
    ∃ b' ver' G', finish H.length G (slc b 0 ver l.length l.length :: rest) = (one (slc b' 0 ver' l.length l.length :: rest), G') ∧ StD H.length G' b' ver' l ∧ Pre H G' := by
  obtain ⟨ys, β, g⟩ := g
  obtain ⟨vs, hg, h3, h5⟩ := g.out
  have hlo := g.lo
  have hne : old1 H.length (slc b 0 ver l.length l.length) = false := by
    show (true && decide (b < H.length)) = false
    simp; omega
  cases ho : vs.all (old0 H.length) with
  | false =>
    refine ⟨b, ver, G, ?_, ⟨ys, β, g⟩, p⟩
    have : pack H.length G (slc b 0 ver l.length l.length :: rest) [] [] = none := by
      rw [pack, if_neg (by rw [hne]; decide)]
      show (match G[b]? with
        | some k => if ([] : List Nat).contains b = false ∧ ver = k.ver ∧ k.ro = false ∧ k.cells.all (old0 H.length) = true then _ else none
        | none => none) = _
      rw [hg]
      simp only []
      rw [if_neg (by rw [ho]; simp)]
    unfold finish; rw [this]
  | true =>
    have hall := List.all_eq_true.1 ho
    have hnil : ∀ i, i < l.length → β i = none := fun i hi => by
      obtain ⟨_, h2⟩ := g.row i hi
      cases hb : β i with
      | none => rfl
      | some q =>
        exfalso
        rw [hb] at h2
        obtain ⟨hq, ver', cap, rest, e1, _, _⟩ := h2
        have hm : ys i ∈ vs := mem_elem (esz := 5) (i := i) (by rw [h5 i hi]; simp)
        have := hall _ hm
        rw [e1, old0_slc] at this
        simp at this; omega
    refine ⟨H.length, 0, H ++ [⟨vs, 5, 0, false⟩], ?_, ⟨ys, β, Nat.le_refl _, ⟨vs, get_last, h3, h5⟩, g.hl, fun i hi => ?_, g.dis⟩, Pre.one⟩
    · have : pack H.length G (slc b 0 ver l.length l.length :: rest) [] [] = some (slc H.length 0 0 l.length l.length :: rest, [⟨vs, 5, 0, false⟩]) := by
        rw [pack, if_neg (by rw [hne]; decide)]
        show (match G[b]? with
          | some k => if ([] : List Nat).contains b = false ∧ ver = k.ver ∧ k.ro = false ∧ k.cells.all (old0 H.length) = true then (pack H.length G rest (b :: []) ([] ++ [{ k with ver := 0 }])).map fun (q : List Value × List Blk) => (slc (H.length + ([] : List Blk).length) 0 0 l.length l.length :: q.1, q.2) else none
          | none => none) = _
        rw [hg]
        simp only []
        rw [if_pos ⟨by simp, by simp, by simp, ho⟩, pack_all hr]; rfl
      rw [finish_some this, p.take]
    · obtain ⟨h1, h2⟩ := g.row i hi
      rw [hnil i hi] at h2 ⊢
      exact ⟨h1, h2⟩
/-- Steps with rows of their own, or nothing. -/
def StX (n0 : Nat) (G : Heap) (x : Value) (l : List Sted) : Prop := (x = .slice none 0 0 ∧ l = []) ∨ ∃ b ver, x = slc b 0 ver l.length l.length ∧ StD n0 G b ver l
theorem StX.pre {n0 : Nat} {G G' : Heap} {x : Value} {l : List Sted} (p : Pre G G') (h : StX n0 G x l) : StX n0 G' x l := by
  rcases h with h | ⟨b, ver, rfl, h⟩
  · exact .inl h
  · exact .inr ⟨b, ver, rfl, h.pre p⟩
/-- Marks over steps. -/
def MkX (n0 : Nat) (G : Heap) (x : Value) (l : List Sted) : Prop := (x = .slice none 0 0 ∧ l = []) ∨ ∃ b ver ys β, x = slc b 0 ver l.length l.length ∧
  RawD n0 G b ver l.length ys β (fun i => msH (mkP (fun i => (at0 l i).rows.length) i)) (fun i => (at0 l i).rows.length) (fun i => mkL (ms2 (mkP (fun i => (at0 l i).rows.length) i + 4)) ((at0 l i).rows.length * 2))
theorem MkX.pre {n0 : Nat} {G G' : Heap} {x : Value} {l : List Sted} (p : Pre G G') (h : MkX n0 G x l) : MkX n0 G' x l := by
  rcases h with h | ⟨b, ver, ys, β, rfl, h⟩
  · exact .inl h
  · exact .inr ⟨b, ver, ys, β, rfl, h.pre p⟩
theorem mem_at0 {α : Type} [Inhabited α] {l : List α} {a : α} (h : a ∈ l) : ∃ i, i < l.length ∧ at0 l i = a := by
  obtain ⟨i, hi, rfl⟩ := List.getElem_of_mem h
  exact ⟨i, hi, Option.some.inj ((at0_get hi).symm.trans (List.getElem?_eq_getElem hi))⟩
/-- Steps, what they cost, and a code. -/
def RsE (H : Heap) (r : Value × Heap) (l : List Sted) (t c : Int) : Prop := ∃ x G, r = (tup [x, .int .i64 t, .int .i64 c], G) ∧ StX H.length G x l ∧ Pre H G
theorem StX.fin {H G : Heap} {x : Value} {l : List Sted} {t c : Int} (h : StX H.length G x l) (p : Pre H G) : ∃ r, finish H.length G [x, .int .i64 t, .int .i64 c] = r ∧ RsE H r l t c := by
  rcases h with ⟨rfl, rfl⟩ | ⟨b, ver, rfl, h⟩
  · have e1 : finish H.length G [.slice none 0 0, .int .i64 t, .int .i64 c] = (one [.slice none 0 0, .int .i64 t, .int .i64 c], G.take H.length) := finish_vs (by simp)
    rw [p.take] at e1
    exact ⟨_, e1, .slice none 0 0, H, rfl, .inl ⟨rfl, rfl⟩, .refl⟩
  · obtain ⟨b', ver', G', e, h1, h2⟩ := h.fin p (rest := [.int .i64 t, .int .i64 c]) rfl
    exact ⟨_, e, _, G', rfl, .inr ⟨b', ver', rfl, h1⟩, h2⟩
inductive Lo (σ : Type) where
  | go (s : σ)
  | st (s : σ)
/- Moves, compared by how far they go. -/
def szI (a : Int) : Int := if a < -a then -a else a
def mkey (a : Int × Int) : Int := szI a.1 + szI a.2
abbrev ML := List (Int × Int)
/-- Halves. -/
def hf (i j : Int) : Int := (i + j) / 2
/- The moves up to a size, as both sides order them. -/
def rgI (m : Int) : List Int := (List.range (2 * m + 1).toNat).map fun (i : Nat) => (i : Int) - m
def gridM (m : Int) : ML := (rgI m).flatMap fun a => (rgI m).map fun b => (a, b)
def farM (m : Int) : ML := (List.range (2 * m + 1).toNat).flatMap fun (d : Nat) => (gridM m).filter fun a => decide (mkey a = d)
/-- The list that is being sorted, in its block. -/
def hp (G0 : Heap) (bq ver : Nat) (l : ML) : Heap := G0.set bq ⟨mvsC l, 2, ver, false⟩
theorem fill_two {f g : List Int} (hw : f.length = 12) (hwg : g.length = 12) : fill (rep 2 (cs .u16 (zr 12 0))) [(0, 12, iv .u16 f), (12, 12, iv .u16 g)] = some (bkC [f, g]) := by
  have l1 : (cs .u16 f).length = 12 := by simp [hw]
  have l2 : (cs .u16 g).length = 12 := by simp [hwg]
  have lz : (cs .u16 (zr 12 0)).length = 12 := by simp
  have e0 : rep 2 (cs .u16 (zr 12 0)) = cs .u16 (zr 12 0) ++ cs .u16 (zr 12 0) := by simp [rep]
  rw [e0]
  generalize cs IntKind.u16 (zr 12 0) = Z at *
  show (if (cs .u16 f).length = 12 ∧ 0 + 12 ≤ (Z ++ Z).length then fill (splice (Z ++ Z) 0 (cs .u16 f)) [(12, 12, iv .u16 g)] else none) = _
  rw [if_pos ⟨l1, by simp [lz]⟩]
  have e1 : splice (Z ++ Z) 0 (cs .u16 f) = cs .u16 f ++ Z := by
    unfold splice
    rw [l1, List.take_zero, List.nil_append, List.drop_append_of_le_length (by omega), List.drop_eq_nil_of_le (by omega), List.nil_append]
  rw [e1]
  show (if (cs .u16 g).length = 12 ∧ 12 + 12 ≤ (cs .u16 f ++ Z).length then fill (splice (cs .u16 f ++ Z) 12 (cs .u16 g)) [] else none) = _
  rw [if_pos ⟨l2, by simp [lz, hw]⟩]
  have e2 : splice (cs .u16 f ++ Z) 12 (cs .u16 g) = cs .u16 f ++ cs .u16 g := by
    unfold splice
    rw [l2, List.take_append_of_le_length (by omega), List.take_of_length_le (by omega), List.drop_eq_nil_of_le (by simp [lz, hw]), List.append_nil]
  rw [e2]
  simp [fill, bkC, rowsC, frC]
/-- Two frames in a list of their own, held against the rule. -/
theorem two351 {H : Heap} {f g : List Int} (hw : FrW f) (hwg : FrW g) : Call tab true 351 [slc H.length 0 0 2 2] (H ++ [⟨bkC [f, g], 12, 0, false⟩]) = some (.bool (okF f && okF g), H ++ [⟨bkC [f, g], 12, 0, false⟩]) := by
  have hBW : BkW [f, g] := by
    intro x hx
    rcases List.mem_cons.1 hx with rfl | hx
    · exact hw
    · rcases List.mem_cons.1 hx with rfl | hx
      · exact hwg
      · cases hx
  have hbk : Bk (H ++ [⟨bkC [f, g], 12, 0, false⟩]) (slc H.length 0 0 2 2) [f, g] := (own_new (H := H) (esz := 12) (n := 2) (vs := bkC [f, g]) (by rw [bkC_length hBW]; rfl)).sl
  have hc := call351 (pu := true) hbk hBW (by simp)
  have hok : okFs [f, g] = (okF f && okF g) := by simp [okFs]
  rw [hok] at hc
  exact hc
theorem own_nil {H : Heap} {esz : Nat} : Own H (.slice none 0 0) none H.length esz 0 [] := ⟨by simp, rfl, rfl⟩
theorem SlR.cells {H : Heap} {x : Value} {esz n : Nat} {vs : List Value} (h : SlR H x esz n vs) : cellsOf x = [x] := by
  rcases h.is with ⟨rfl, _⟩ | ⟨b, off, ver, cap, rfl, _⟩ <;> rfl
def cpP (b c : List (List Int)) (a : Int × Int) (p : Nat) : Bool := allN (fun i => decide (fr b (p + i) = shF (fr c i) a.1 a.2)) c.length
/-- Which move is the first one that makes a copy at p. -/
def mcJ (b c : List (List Int)) (m p : Nat) : Int := findN (fun j => cpP b c (mv (farM m) j) p) (farM m).length
def mcS (b c : List (List Int)) (m p : Nat) (s : List Int × ML) : List Int × ML := if 0 ≤ mcJ b c m p then (s.1 ++ [(p : Int)], s.2 ++ [mv (farM m) (mcJ b c m p).toNat]) else s
def mcK (b c : List (List Int)) (m k : Nat) : List Int × ML := itN (mcS b c m) ([], []) k
theorem mcK_zero {b c : List (List Int)} {m : Nat} : mcK b c m 0 = ([], []) := itN_zero
theorem mcK_succ {b c : List (List Int)} {m k : Nat} : mcK b c m (k + 1) = mcS b c m k (mcK b c m k) := itN_succ
theorem mcK_len {b c : List (List Int)} {m k : Nat} : (mcK b c m k).1.length ≤ k ∧ (mcK b c m k).2.length = (mcK b c m k).1.length := by
  induction k with
  | zero => rw [mcK_zero]; simp
  | succ k ih =>
    rw [mcK_succ, mcS]
    split
    · simp [ih.2]; omega
    · exact ⟨by omega, ih.2⟩
def mcC (b c : List (List Int)) (m : Int) : Int := if (okB b && okB c) = true then if (in1 m 0 4 && !((c.length : Int) == 0)) = true then 0 else 2 else 1
/-- How many places there are. -/
def mcN (b c : List (List Int)) : Nat := b.length + 1 - c.length
def mcR (b c : List (List Int)) (m : Int) : List Int × ML := if mcC b c m = 0 then mcK b c m.toNat (mcN b c) else ([], [])
theorem GrB.pr {H G : Heap} {b : Nat} {x : Value} {esz n : Nat} {vs : List Value} (g : GrB H G b x esz n vs) : Pre H G := by obtain ⟨_, _, _, _, _, p⟩ := g; exact p
theorem GrB.ltG {H G : Heap} {b : Nat} {x : Value} {esz n : Nat} {vs : List Value} (g : GrB H G b x esz n vs) : b < G.length := by obtain ⟨_, _, h, _, _, _⟩ := g; exact (List.getElem?_eq_some_iff.1 h).1
theorem GrB.kept {H G G' : Heap} {b : Nat} {x : Value} {esz n : Nat} {vs : List Value} (g : GrB H G b x esz n vs) (h : G'[b]? = G[b]?) (p : Pre H G') : GrB H G' b x esz n vs := by
  obtain ⟨ver, e, h1, h2, h3, _⟩ := g
  exact ⟨ver, e, by rw [h]; exact h1, h2, h3, p⟩
theorem GrB.onto {H G G' : Heap} {b : Nat} {x : Value} {esz n : Nat} {vs : List Value} (g : GrB H G b x esz n vs) (p : Pre G G') : GrB H G' b x esz n vs := g.kept (p.get g.ltG) (g.pr.trans p)
theorem GrB.mk' {H G : Heap} {b : Nat} {esz : Nat} (h : G[b]? = some ⟨[], esz, 0, false⟩) (hb : H.length ≤ b) (p : Pre H G) : GrB H G b (slc b 0 0 0 0) esz 0 [] := ⟨0, rfl, h, hb, by simp, p⟩
/-- What 352 hands back. -/
def RsM (H : Heap) (r : Value × Heap) (q : List Int × ML) (c : Int) : Prop :=
  (c ≠ 0 ∧ r = (tup [.slice none 0 0, .slice none 0 0, .int .i64 c], H)) ∨
  (c = 0 ∧ r = (tup [slc H.length 0 0 q.1.length q.1.length, slc (H.length + 1) 0 0 q.1.length q.1.length, .int .i64 c], H ++ [⟨cs .i64 q.1, 1, 0, false⟩, ⟨mvsC q.2, 2, 0, false⟩]))
theorem rowsC_drop {α : Type} {f : α → List Value} {esz : Nat} {l : List α} (hf : ∀ a ∈ l, (f a).length = esz) {k : Nat} : (rowsC f l).drop (k * esz) = rowsC f (l.drop k) := by
  induction l generalizing k with
  | nil => simp [rowsC]
  | cons a r ih =>
    cases k with
    | zero => simp
    | succ k =>
      have h1 := hf a (by simp)
      have := ih (k := k) (fun b hb => hf b (by simp [hb]))
      show (f a ++ rowsC f r).drop ((k + 1) * esz) = rowsC f (r.drop k)
      rw [← this, show (k + 1) * esz = (f a).length + k * esz by rw [h1, Nat.succ_mul]; omega, List.drop_length_add_append]
theorem rowsC_take {α : Type} {f : α → List Value} {esz : Nat} {l : List α} (hf : ∀ a ∈ l, (f a).length = esz) {k : Nat} : (rowsC f l).take (k * esz) = rowsC f (l.take k) := by
  induction l generalizing k with
  | nil => simp [rowsC]
  | cons a r ih =>
    cases k with
    | zero => simp [rowsC]
    | succ k =>
      have h1 := hf a (by simp)
      have := ih (k := k) (fun b hb => hf b (by simp [hb]))
      show (f a ++ rowsC f r).take ((k + 1) * esz) = f a ++ rowsC f (r.take k)
      rw [← this, show (k + 1) * esz = (f a).length + k * esz by rw [h1, Nat.succ_mul]; omega, List.take_length_add_append]
theorem frC_len {b : List (List Int)} (hw : BkW b) : ∀ a ∈ b, (frC a).length = 12 := fun a ha => by simp [frC, (hw a ha).len]
/-- A part of a book in memory. -/
theorem Bk.sub {H : Heap} {x : Value} {b : List (List Int)} (h : Bk H x b) (hw : BkW b) {lo n : Nat} (hn : lo + n ≤ b.length) {k k' : IntKind} :
    ∃ y, slcAV H 12 x (some (.int k (lo : Int))) (some (.int k' ((lo + n : Nat) : Int))) none = some y ∧ Bk H y ((b.drop lo).take n) ∧ BkW ((b.drop lo).take n) := by
  obtain ⟨y, h1, h2⟩ := SlR.sub h (lo := lo) (hi := lo + n) (by omega) hn (k := k) (k' := k')
  have hW : BkW ((b.drop lo).take n) := fun f hf => hw f (List.mem_of_mem_drop (List.mem_of_mem_take hf))
  refine ⟨y, h1, ?_, hW⟩
  have e1 : lo + n - lo = n := by omega
  rw [e1] at h2
  have e2 : (bkC b).drop (lo * 12) = bkC (b.drop lo) := rowsC_drop (frC_len hw)
  have e3 : (bkC (b.drop lo)).take (n * 12) = bkC ((b.drop lo).take n) := rowsC_take (frC_len fun f hf => hw f (List.mem_of_mem_drop hf))
  rw [e2, e3] at h2
  have e4 : ((b.drop lo).take n).length = n := by simp; omega
  show SlR H y 12 ((b.drop lo).take n).length (bkC ((b.drop lo).take n))
  rw [e4]; exact h2
/-- Two lists of its own, and a code. -/
def RsD (H : Heap) (r : Value × Heap) (q : List Int × ML) (c : Int) : Prop := ∃ r1 r2 G β1 β2, r = (tup [r1, r2, .int .i64 c], G) ∧ Pre H G ∧ Own G r1 β1 H.length 1 q.1.length (cs .i64 q.1) ∧ Own G r2 β2 H.length 2 q.1.length (mvsC q.2) ∧ ∀ b, β1 = some b → β2 ≠ some b
theorem mcR_len {b c : List (List Int)} {m : Int} : (mcR b c m).2.length = (mcR b c m).1.length := by
  by_cases h : mcC b c m = 0
  · rw [mcR, if_pos h]; exact mcK_len.2
  · rw [mcR, if_neg h]; rfl
theorem two_own {H : Heap} {vs ws : List Value} {e1 e2 n1 n2 : Nat} (h1 : vs.length = n1 * e1) (h2 : ws.length = n2 * e2) :
    Own (H ++ [⟨vs, e1, 0, false⟩, ⟨ws, e2, 0, false⟩]) (slc H.length 0 0 n1 n1) (some H.length) H.length e1 n1 vs ∧ Own (H ++ [⟨vs, e1, 0, false⟩, ⟨ws, e2, 0, false⟩]) (slc (H.length + 1) 0 0 n2 n2) (some (H.length + 1)) H.length e2 n2 ws :=
  ⟨⟨h1, Nat.le_refl _, 0, n1, [], rfl, Nat.le_refl _, by simp⟩, ⟨h2, by omega, 0, n2, [], rfl, Nat.le_refl _, by simp⟩⟩
theorem RsM.d {b c : List (List Int)} {m : Int} {H : Heap} {r : Value × Heap} (h : RsM H r (mcR b c m) (mcC b c m)) : RsD H r (mcR b c m) (mcC b c m) := by
  rcases h with ⟨hc, rfl⟩ | ⟨hc, rfl⟩
  · refine ⟨_, _, H, none, none, rfl, .refl, ?_, ?_, by intro b h; cases h⟩
    · rw [mcR, if_neg hc]; exact own_nil
    · rw [mcR, if_neg hc]; exact own_nil
  · obtain ⟨o1, o2⟩ := two_own (H := H) (vs := cs .i64 (mcR b c m).1) (ws := mvsC (mcR b c m).2) (e1 := 1) (e2 := 2) (n1 := (mcR b c m).1.length) (n2 := (mcR b c m).1.length) (by simp) (by rw [mvsC_length, mcR_len])
    exact ⟨_, _, _, _, _, rfl, ⟨_, rfl⟩, o1, o2, by intro b h; cases h; simp⟩
structure Ly where
  f : List Int
  x : Int
  y : Int
  d : Int
instance : Inhabited Ly := ⟨⟨[], 0, 0, 0⟩⟩
structure LyW (s : Ly) : Prop where
  len : s.f.length = 24
  ok : ∀ n ∈ s.f, u16' n
  x : i8 s.x
  y : i8 s.y
  d : i8 s.d
def lyT (f : List Int) (a b c : Value) : List Value := cs .u16 f ++ [a, b, c]
def lyC (s : Ly) : List Value := lyT s.f (.int .i8 s.x) (.int .i8 s.y) (.int .i8 s.d)
def scC (l : List Ly) : List Value := rowsC lyC l
abbrev ScW (l : List Ly) : Prop := ∀ s ∈ l, LyW s
theorem lyT_len {f : List Int} {a b c : Value} (h : f.length = 24) : (lyT f a b c).length = 27 := by simp [lyT, h]
theorem lyC_len {s : Ly} (h : LyW s) : (lyC s).length = 27 := lyT_len h.len
theorem scC_length {l : List Ly} (h : ScW l) : (scC l).length = l.length * 27 := rows_length (f := lyC) (esz := 27) fun s hs => lyC_len (h s hs)
theorem scC_elem {l : List Ly} (h : ScW l) {i : Nat} (hi : i < l.length) : elem (scC l) 27 i = lyC (at0 l i) := rows_elem (f := lyC) (esz := 27) (fun s hs => lyC_len (h s hs)) hi
theorem lyC_flat {s : Ly} : NoRef (lyC s) := by
  refine NoRef.app flat_cs ?_
  intro v hv n
  simp only [List.mem_cons, List.not_mem_nil, or_false] at hv
  rcases hv with rfl | rfl | rfl <;> exact old0_int
theorem scC_flat {l : List Ly} : NoRef (scC l) := rows_flat fun _ _ => lyC_flat
def lyZ : List Value := lyT (zr 24 0) (.int .i8 0) (.int .i8 0) (.int .i8 0)
theorem z27 : ([.int .u16 0, .int .u16 0, .int .u16 0, .int .u16 0, .int .u16 0, .int .u16 0, .int .u16 0, .int .u16 0, .int .u16 0, .int .u16 0, .int .u16 0, .int .u16 0, .int .u16 0, .int .u16 0, .int .u16 0, .int .u16 0, .int .u16 0, .int .u16 0, .int .u16 0, .int .u16 0, .int .u16 0, .int .u16 0, .int .u16 0, .int .u16 0, .int .i8 0, .int .i8 0, .int .i8 0] : List Value) = lyZ := rfl
theorem ldL0 {f : List Int} {a b c : Value} (h : f.length = 24) : ldc 24 true (agg (lyT f a b c)) 0 = some (iv .u16 f) := by
  unfold ldc
  rw [cellsOf_agg, if_pos (by rw [lyT_len h]; omega)]
  simp only [List.drop_zero, lyT]
  rw [List.take_left' (by simp [h])]; rfl
theorem lyT_at {f : List Int} {a b c : Value} (h : f.length = 24) {k : Nat} : (lyT f a b c).drop (24 + k) = [a, b, c].drop k := by
  unfold lyT
  rw [show 24 + k = (cs .u16 f).length + k by simp [h], List.drop_length_add_append]
theorem ldLx {f : List Int} {a b c : Value} (h : f.length = 24) : ldc 1 false (agg (lyT f a b c)) 24 = some a := by
  unfold ldc
  rw [cellsOf_agg, if_pos (by rw [lyT_len h]; omega), show 24 = 24 + 0 from rfl, lyT_at h]; rfl
theorem ldLy {f : List Int} {a b c : Value} (h : f.length = 24) : ldc 1 false (agg (lyT f a b c)) 25 = some b := by
  unfold ldc
  rw [cellsOf_agg, if_pos (by rw [lyT_len h]; omega), show 25 = 24 + 1 from rfl, lyT_at h]; rfl
theorem ldLd {f : List Int} {a b c : Value} (h : f.length = 24) : ldc 1 false (agg (lyT f a b c)) 26 = some c := by
  unfold ldc
  rw [cellsOf_agg, if_pos (by rw [lyT_len h]; omega), show 26 = 24 + 2 from rfl, lyT_at h]; rfl
theorem ldLall {f : List Int} {a b c : Value} (h : f.length = 24) : ldc 27 true (agg (lyT f a b c)) 0 = some (agg (lyT f a b c)) := by
  unfold ldc
  rw [cellsOf_agg, if_pos (by rw [lyT_len h]; omega), List.drop_zero, List.take_of_length_le (by rw [lyT_len h]; omega)]; rfl
theorem stL_at {l : List Value} {o : Nat} {vs : List Value} (h : o + vs.length ≤ l.length) : stc (agg l) o vs = some (agg (splice l o vs)) := by
  unfold stc agg
  simp only [List.size_toArray]
  rw [if_pos h]
theorem stLy {f : List Int} {a b c v : Value} (h : f.length = 24) : stc (agg (lyT f a b c)) 25 [v] = some (agg (lyT f a v c)) := by
  rw [stL_at (by rw [lyT_len h]; simp)]
  congr 2
  unfold splice
  rw [show 25 + [v].length = 24 + 2 from rfl, lyT_at h]
  unfold lyT
  rw [show 25 = (cs .u16 f).length + 1 by simp [h], List.take_length_add_append]; simp
theorem stLd {f : List Int} {a b c v : Value} (h : f.length = 24) : stc (agg (lyT f a b c)) 26 [v] = some (agg (lyT f a b v)) := by
  rw [stL_at (by rw [lyT_len h]; simp)]
  congr 2
  unfold splice
  rw [show 26 + [v].length = 24 + 3 from rfl, lyT_at h]
  unfold lyT
  rw [show 26 = (cs .u16 f).length + 2 by simp [h], List.take_length_add_append]; simp
theorem stLall {f g : List Int} {a b c : Value} {a' b' c' : Value} (h : f.length = 24) (hg : g.length = 24) : stc (agg (lyT f a b c)) 0 (lyT g a' b' c') = some (agg (lyT g a' b' c')) := by
  rw [stL_at (by rw [lyT_len h, lyT_len hg]; omega)]
  congr 2
  unfold splice
  rw [List.take_zero, List.nil_append, List.drop_eq_nil_of_le (by rw [lyT_len h, lyT_len hg]; omega), List.append_nil]
theorem wrt_a {f g : List Int} (h : f.length = 24) (hg : g.length = 12) : wrt f 0 g = g ++ f.drop 12 := by
  unfold wrt; rw [List.take_zero, List.nil_append, Nat.zero_add, hg]
theorem wrt_b {a f g : List Int} (ha : a.length = 12) (hf : f.length = 12) (hg : g.length = 12) : wrt (a ++ f) 12 g = a ++ g := by
  unfold wrt
  rw [hg, List.take_append_of_le_length (by omega), List.take_of_length_le (by omega), List.drop_eq_nil_of_le (by simp [ha, hf]), List.append_nil]
abbrev Sc (H : Heap) (x : Value) (l : List Ly) : Prop := SlR H x 27 l.length (scC l)
def inkL (s : Ly) : List Int := sub s.f 0 12
def mskL (s : Ly) : List Int := sub s.f 12 12
theorem LyW.ink {s : Ly} (h : LyW s) : FrW (inkL s) := ⟨sub_length (by rw [h.len]; omega), fun n hn => h.ok n (sub_mem hn)⟩
theorem LyW.msk {s : Ly} (h : LyW s) : FrW (mskL s) := ⟨sub_length (by rw [h.len]; omega), fun n hn => h.ok n (sub_mem hn)⟩
def okCel (s : Ly) : Bool := (okF (inkL s) && okF (mskL s)) && decide (mixF lessI (inkL s) (mskL s) = zr 12 0)
def okLy (s : Ly) : Bool := ((okCel s && in1 s.x (-12) 12) && in1 s.y (-12) 12) && in1 s.d 0 8
def okSc (l : List Ly) : Bool := allN (fun i => okLy (at0 l i)) l.length && decide (l.length ≤ 8)
theorem d24a {f : List Int} (h : f.length = 24) : ldc 12 true (iv .u16 f) 0 = some (iv .u16 (sub f 0 12)) := ldc_sub (by omega)
theorem d24b {f : List Int} (h : f.length = 24) : ldc 12 true (iv .u16 f) 12 = some (iv .u16 (sub f 12 12)) := ldc_sub (by omega)
theorem call333 {pu : Bool} {H : Heap} {s : Ly} (hw : LyW s) : Call tab pu 333 [iv .u16 s.f] H = some (.bool (okCel s), H) := by
  refine Call_wp t333 (.inr rfl) rfl ?_
  have l1 := hw.ink.len
  have l2 := hw.msk.len
  have hf := fill_two l1 l2
  have hc := two351 (H := H) hw.ink hw.msk
  obtain ⟨G, hG⟩ : ∃ G, G = H ++ [(⟨bkC [inkL s, mskL s], 12, 0, false⟩ : Blk)] := ⟨_, rfl⟩
  rw [← hG] at hc
  have pG : Pre H G := by rw [hG]; exact Pre.one
  have d1 := d24a hw.len
  have d2 := d24b hw.len
  have c3 := call350 (pu := true) (H := G) l1 l2
  have hev := eqV_iv (k := .u16) (n := 12) (f := mixF lessI (inkL s) (mskL s)) (g := zr 12 0) mixF_length (by simp)
  have e1 : sub s.f 0 12 = inkL s := rfl
  have e2 : sub s.f 12 12 = mskL s := rfl
  rw [e1] at d1
  rw [e2] at d2
  cases k1 : okF (inkL s) && okF (mskL s) with
  | false =>
    have : okCel s = false := by unfold okCel; rw [k1]; rfl
    simp [c333, k333, d1, d2, zs_cs, hf, ← hG, hc, k1, skip, this, pG.take]
  | true =>
    have : okCel s = decide (mixF lessI (inkL s) (mskL s) = zr 12 0) := by unfold okCel; rw [k1]; rfl
    simp [c333, k333, d1, d2, zs_cs, agg_cs, hf, ← hG, hc, k1, c3, fill, hev, this, pG.take, -decide_eq_true_eq, -decide_eq_false_iff_not]
theorem call473 {pu : Bool} {H : Heap} {s : Ly} (hw : LyW s) : Call tab pu 473 [agg (lyC s)] H = some (.bool (okLy s), H) := by
  refine Call_wp t473 (.inr rfl) rfl ?_
  have h := hw.len
  have c1 := call333 (pu := true) (H := H) hw
  have hx := hw.x
  have hy := hw.y
  have hd := hw.d
  have w1 : IntKind.wrap .i64 s.x = s.x := wrap64 (by omega)
  have w2 : IntKind.wrap .i64 s.y = s.y := wrap64 (by omega)
  have w3 : IntKind.wrap .i64 s.d = s.d := wrap64 (by omega)
  cases k1 : okCel s with
  | false => simp [c473, k473, lyC, ldL0 h, c1, k1, skip, okLy]
  | true =>
    cases k2 : in1 s.x (-12) 12 with
    | false => simp [c473, k473, lyC, ldL0 h, ldLx h, c1, k1, w1, in295, k2, skip, okLy]
    | true =>
      cases k3 : in1 s.y (-12) 12 with
      | false => simp [c473, k473, lyC, ldL0 h, ldLx h, ldLy h, c1, k1, w1, w2, in295, k2, k3, skip, okLy]
      | true => simp [c473, k473, lyC, ldL0 h, ldLx h, ldLy h, ldLd h, c1, k1, w1, w2, w3, in295, k2, k3, okLy]
theorem s555 : tab 555 = some (.fn (ixFC 27 true)) := t555
theorem s471 : tab 471 = some (.fn (ctFC 555)) := t471
theorem anyN_not {p : Nat → Bool} {n : Nat} : (!anyN (fun i => !p i) n) = allN p n := by
  unfold anyN allN
  induction (List.range n) with
  | nil => rfl
  | cons a r ih => simp only [List.any_cons, List.all_cons, Bool.not_or, Bool.not_not, ih]
theorem call472 {pu : Bool} {H : Heap} {s : Ly} (hw : LyW s) : Call tab pu 472 [agg (lyC s)] H = some (.bool (!okLy s), H) := by
  refine Call_wp t472 (.inr rfl) rfl ?_
  have h := hw.len
  have c1 := call473 (pu := true) (H := H) hw
  simp only [lyC] at c1 ⊢
  simp [c472, k472, ldLall h, c1]
theorem call281 {pu : Bool} {H : Heap} {x : Value} {l : List Ly} (hs : Sc H x l) (hw : ScW l) (hn : l.length ≤ 1000000) : Call tab pu 281 [x] H = some (.bool (okSc l), H) := by
  refine Call_wp t281 (.inr rfl) rfl ?_
  have hc := ctF_call s471 s555 (pu := true) (F := .func (.func 472) #[] #[]) (p := fun i => !okLy (at0 l i)) hs (by omega) fun i hi =>
    ⟨agg (lyC (at0 l i)), by rw [scC_elem hw hi]; rfl, by simp [call472 (hw _ (at0_mem hi))]⟩
  by_cases hl : l.length ≤ 8
  · have hl' : (l.length : Int) ≤ 8 := by omega
    simp [c281, k281, SlR.lenV hs, hl', hc, anyN_not, okSc, hl]
  · have hl' : ¬ (l.length : Int) ≤ 8 := by omega
    simp [c281, k281, SlR.lenV hs, hl', skip, okSc, hl]
/- The spec's side, in memory. -/
theorem lyC_parts {s : Ly} (h : s.f.length = 24) : ((lyC s).drop 0).take 12 = cs .u16 (inkL s) ∧ ((lyC s).drop 12).take 12 = cs .u16 (mskL s) ∧ ((lyC s).drop 24).take 1 = [.int .i8 s.x] ∧ ((lyC s).drop 25).take 1 = [.int .i8 s.y] ∧ ((lyC s).drop 26).take 1 = [.int .i8 s.d] := by
  refine ⟨?_, ?_, ?_, ?_, ?_⟩
  · unfold lyC lyT inkL
    rw [List.drop_zero, List.take_append_of_le_length (by simp [h]), show (cs .u16 s.f).take 12 = ((cs .u16 s.f).drop 0).take 12 by simp, cs_sub]
  · unfold lyC lyT mskL
    rw [List.drop_append_of_le_length (by simp [h]), List.take_append_of_le_length (by simp [h]), cs_sub]
  · unfold lyC
    rw [show 24 = 24 + 0 from rfl, lyT_at h]; rfl
  · unfold lyC
    rw [show 25 = 24 + 1 from rfl, lyT_at h]; rfl
  · unfold lyC
    rw [show 26 = 24 + 2 from rfl, lyT_at h]; rfl
/-- A layer in memory. -/
structure LyR (H : Heap) (q off ver : Nat) (s : Ly) : Prop where
  ink : rd H q off ver 12 = some (cs .u16 (inkL s))
  msk : rd H q (off + 12) ver 12 = some (cs .u16 (mskL s))
  x : rd H q (off + 24) ver 1 = some [.int .i8 s.x]
  y : rd H q (off + 25) ver 1 = some [.int .i8 s.y]
  d : rd H q (off + 26) ver 1 = some [.int .i8 s.d]
theorem LyR.of {H : Heap} {q off ver : Nat} {s : Ly} (h : rd H q off ver 27 = some (lyC s)) (hf : s.f.length = 24) : LyR H q off ver s := by
  obtain ⟨h1, h2, h3, h4, h5⟩ := lyC_parts hf
  have g1 := rd_part h (o := 0) (m := 12) (by omega)
  rw [h1, Nat.add_zero] at g1
  exact ⟨g1, by rw [rd_part h (by omega), h2], by rw [rd_part h (by omega), h3], by rw [rd_part h (by omega), h4], by rw [rd_part h (by omega), h5]⟩
theorem LyR.pre {H G : Heap} {q off ver : Nat} {s : Ly} (p : Pre H G) (h : LyR H q off ver s) : LyR G q off ver s := ⟨p.rd h.ink, p.rd h.msk, p.rd h.x, p.rd h.y, p.rd h.d⟩
theorem Sc.get {H : Heap} {x : Value} {l : List Ly} (hs : Sc H x l) (hw : ScW l) {i : Nat} (hi : i < l.length) : ∃ q off ver, idxAV 27 x (.int .i64 (i : Int)) = some (adr q off ver) ∧ rd H q off ver 27 = some (lyC (at0 l i)) ∧ LyR H q off ver (at0 l i) := by
  obtain ⟨q, off, ver, h1, h2⟩ := SlR.get1 hs hi
  rw [scC_elem hw hi] at h2
  exact ⟨q, off, ver, h1, h2, LyR.of h2 (hw _ (at0_mem hi)).len⟩
theorem call467 {pu : Bool} {H : Heap} {q off ver : Nat} {s : Ly} (hw : LyW s) (hr : LyR H q off ver s) : Call tab pu 467 [adr q off ver] H = some (.bool (okCel s), H) := by
  refine Call_wp t467 (.inr rfl) rfl ?_
  have c1 := call359 (pu := true) hw.ink.len hr.ink
  have c2 := call359 (pu := true) hw.msk.len hr.msk
  have c3 := call349 (pu := true) hw.ink.len hw.msk.len hr.ink hr.msk
  have hev := eqV_iv (k := .u16) (n := 12) (f := mixF lessI (inkL s) (mskL s)) (g := zr 12 0) mixF_length (by simp)
  cases k1 : okF (inkL s) with
  | false =>
    have : okCel s = false := by unfold okCel; rw [k1]; rfl
    simp [c467, k467, c1, k1, skip, this]
  | true =>
    cases k2 : okF (mskL s) with
    | false =>
      have : okCel s = false := by unfold okCel; rw [k1, k2]; rfl
      simp [c467, k467, c1, k1, c2, k2, this]
    | true =>
      have : okCel s = decide (mixF lessI (inkL s) (mskL s) = zr 12 0) := by unfold okCel; rw [k1, k2]; rfl
      simp [c467, k467, c1, k1, c2, k2, c3, fill, zs_cs, agg_cs, hev, this, -decide_eq_true_eq, -decide_eq_false_iff_not]
theorem call563 {pu : Bool} {H : Heap} {q off ver : Nat} {s : Ly} (hw : LyW s) (hr : LyR H q off ver s) : Call tab pu 563 [adr q off ver] H = some (.bool (okLy s), H) := by
  refine Call_wp t563 (.inr rfl) rfl ?_
  have c1 := call467 (pu := true) hw hr
  have hx := hw.x
  have hy := hw.y
  have hd := hw.d
  have w1 : IntKind.wrap .i64 s.x = s.x := wrap64 (by omega)
  have w2 : IntKind.wrap .i64 s.y = s.y := wrap64 (by omega)
  have w3 : IntKind.wrap .i64 s.d = s.d := wrap64 (by omega)
  cases k1 : okCel s with
  | false => simp [c563, k563, c1, k1, skip, okLy]
  | true =>
    cases k2 : in1 s.x (-12) 12 with
    | false => simp [c563, k563, c1, k1, hr.x, w1, in304, k2, skip, okLy]
    | true =>
      cases k3 : in1 s.y (-12) 12 with
      | false => simp [c563, k563, c1, k1, hr.x, hr.y, w1, w2, in304, k2, k3, skip, okLy]
      | true => simp [c563, k563, c1, k1, hr.x, hr.y, hr.d, w1, w2, w3, in304, k2, k3, okLy]
theorem call498 {pu : Bool} {H : Heap} {x : Value} {l : List Ly} (hs : Sc H x l) (hw : ScW l) (hn : l.length ≤ 1000000) : Call tab pu 498 [x] H = some (.bool (okSc l), H) := by
  refine Call_wp t498 (.inr rfl) rfl ?_
  simp [c498, k498]
  refine WP_forH 3 l.length _ rfl (by omega) (fun i e => e 0 = x ∧ ∀ j, j < i → okLy (at0 l j) = true) ?_ ?_ (by simp) ⟨by simp, fun j hj => by omega⟩
  · rintro i e hi hii e4 h3 ⟨h0, hj⟩
    obtain ⟨q, off, ver, ha, _, hr⟩ := Sc.get hs hw hi
    have c1 := call563 (pu := true) (hw _ (at0_mem hi)) hr
    cases hk : okLy (at0 l i) with
    | true =>
      rw [hk] at c1
      simp [b498_1, h3, h0, SlR.lenV hs, hii, ha, c1, e4]
      exact upto_succ hj hk
    | false =>
      rw [hk] at c1
      have : okSc l = false := by
        unfold okSc
        rw [allN_false hi hk]; rfl
      simp [b498_1, h3, h0, SlR.lenV hs, hii, ha, c1, this]
  · rintro e h3 ⟨h0, hj⟩
    have : okSc l = decide (l.length ≤ 8) := by
      unfold okSc
      rw [allN_true hj]; rfl
    have e1 : decide ((l.length : Int) ≤ 8) = decide (l.length ≤ 8) := by
      by_cases h : l.length ≤ 8
      · rw [decide_eq_true h, decide_eq_true (by omega)]
      · rw [decide_eq_false h, decide_eq_false (by omega)]
    simp [b498_1, h3, h0, SlR.lenV hs, this, e1, -decide_eq_true_eq, -decide_eq_false_iff_not]
/- The camera. -/
def cmC (l : List Ly) (x y : Int) : Int := if okSc l = true then if (in1 x (-100) 100 && in1 y (-100) 100) = true then 0 else 2 else 1
theorem call416 {pu : Bool} {H : Heap} {x y : Int} : Call tab pu 416 [.int .i64 x, .int .i64 y] H = some (.bool (in1 x (-100) 100 && in1 y (-100) 100), H) := by
  refine Call_wp t416 (.inr rfl) rfl ?_
  cases k1 : in1 x (-100) 100 with
  | false => simp [c416, k416, in295, k1, skip]
  | true => simp [c416, k416, in295, k1]
theorem call329 {pu : Bool} {H : Heap} {z : Value} {l : List Ly} {x y : Int} (hs : Sc H z l) (hw : ScW l) (hn : l.length ≤ 1000000) : Call tab pu 329 [z, .int .i64 x, .int .i64 y] H = some (.int .i64 (cmC l x y), H) := by
  refine Call_wp t329 (.inr rfl) rfl ?_
  have c1 := call281 (pu := true) hs hw hn
  cases k1 : okSc l with
  | false => simp [c329, k329, c1, k1, cmC]
  | true =>
    cases k2 : in1 x (-100) 100 && in1 y (-100) 100 with
    | false => simp only [cmC, k1, k2]; simp [c329, k329, c1, k1, call416, k2]
    | true => simp only [cmC, k1, k2]; simp [c329, k329, c1, k1, call416, k2]
theorem call331 {pu : Bool} {H : Heap} {z : Value} {l : List Ly} {x y : Int} (hs : Sc H z l) (hw : ScW l) (hn : l.length ≤ 1000000) : Call tab pu 331 [z, .int .i64 x, .int .i64 y] H = some (.int .i64 (cmC l x y), H) := by
  refine Call_wp t331 (.inr rfl) rfl ?_
  have c1 := call498 (pu := true) hs hw hn
  cases k1 : okSc l with
  | false => simp [c331, k331, c1, k1, cmC]
  | true =>
    cases k2 : in1 x (-100) 100 with
    | false => simp [c331, k331, c1, k1, in304, k2, skip, cmC]
    | true =>
      cases k3 : in1 y (-100) 100 with
      | false => simp [c331, k331, c1, k1, in304, k2, k3, cmC]
      | true => simp [c331, k331, c1, k1, in304, k2, k3, cmC]
theorem cmC_ok {l : List Ly} {x y : Int} (h : cmC l x y = 0) : okSc l = true ∧ (-100 ≤ x ∧ x ≤ 100) ∧ -100 ≤ y ∧ y ≤ 100 := by
  unfold cmC at h
  split at h
  · rename_i h1
    split at h
    · rename_i h2
      simp [in1] at h2
      exact ⟨h1, h2.1, h2.2⟩
    · omega
  · omega
/- Where a layer stands. -/
theorem call501 {pu : Bool} {H : Heap} {a b : Int} (ha : -1000 ≤ a ∧ a ≤ 1000) (hb : 0 ≤ b ∧ b ≤ 8) : Call tab pu 501 [.int .i64 a, .int .i64 b] H = some (.int .i64 (a * b / 8), H) := by
  refine Call_wp t501 (.inr rfl) rfl ?_
  have hab : -8000 ≤ a * b ∧ a * b ≤ 8000 := by
    have : b = 0 ∨ b = 1 ∨ b = 2 ∨ b = 3 ∨ b = 4 ∨ b = 5 ∨ b = 6 ∨ b = 7 ∨ b = 8 := by omega
    rcases this with rfl | rfl | rfl | rfl | rfl | rfl | rfl | rfl | rfl <;> omega
  have w1 : IntKind.wrap .i64 (a * b) = a * b := wrap64 (by omega)
  have hsh : shiftOf .shr .i64 (a * b) 3 = some (.int .i64 (a * b / 8)) := by
    unfold shiftOf
    rw [if_neg (by omega)]
    have e1 : min ((3 : Int).toNat) (IntKind.bits .i64) = 3 := rfl
    simp only [e1]
    show some (Value.int .i64 ((a * b).fdiv (2 ^ 3))) = _
    rw [Int.fdiv_eq_ediv_of_nonneg _ (by omega)]; rfl
  simp [c501, k501, w1, hsh]
theorem call564 {pu : Bool} {H : Heap} {a b : Int} (ha : -1000 ≤ a ∧ a ≤ 1000) (hb : 0 ≤ b ∧ b ≤ 8) : Call tab pu 564 [.int .i64 a, .int .i64 b] H = some (.int .i64 (a * b / 8), H) := by
  refine Call_wp t564 (.inr rfl) rfl ?_
  have hab : -8000 ≤ a * b ∧ a * b ≤ 8000 := by
    have : b = 0 ∨ b = 1 ∨ b = 2 ∨ b = 3 ∨ b = 4 ∨ b = 5 ∨ b = 6 ∨ b = 7 ∨ b = 8 := by omega
    rcases this with rfl | rfl | rfl | rfl | rfl | rfl | rfl | rfl | rfl <;> omega
  have w1 : IntKind.wrap .i64 (a * b) = a * b := wrap64 (by omega)
  obtain ⟨p, hp⟩ : ∃ p, p = a * b := ⟨_, rfl⟩
  rw [← hp] at hab w1
  have hwp : IntKind.wrap .i64 p = p := wrap64 (by omega)
  by_cases h1 : p < 0
  · obtain ⟨n, hn⟩ : ∃ n : Nat, p = -(n : Int) := ⟨p.natAbs, by omega⟩
    have t1 : p.tdiv 8 = -((n : Int) / 8) := by rw [hn, Int.neg_tdiv, Int.tdiv_eq_ediv_of_nonneg (by omega)]
    have t2 : p.tmod 8 = -((n : Int) % 8) := by rw [hn, Int.neg_tmod, Int.tmod_eq_emod_of_nonneg (by omega)]
    have w2 : IntKind.wrap .i64 (p.tdiv 8) = p.tdiv 8 := by rw [t1]; exact wrap64 (by omega)
    have w3 : IntKind.wrap .i64 (p.tdiv 8 - 1) = p.tdiv 8 - 1 := by rw [t1]; exact wrap64 (by omega)
    by_cases h2 : p.tmod 8 = 0
    · have e1 : p.tdiv 8 = p / 8 := by rw [t1]; omega
      have h3 : (p.tmod 8 != 0) = false := by simp [h2]
      simp [c564, k564, ← hp, hwp, w2, h1, h3, e1]
      exact wrap64 (by omega)
    · have e1 : p.tdiv 8 - 1 = p / 8 := by rw [t1]; omega
      have h3 : (p.tmod 8 != 0) = true := by simpa using h2
      simp [c564, k564, ← hp, hwp, w2, h1, h3, w3, e1]
      exact wrap64 (by omega)
  · have e1 : p.tdiv 8 = p / 8 := Int.tdiv_eq_ediv_of_nonneg (by omega)
    have w2 : IntKind.wrap .i64 (p / 8) = p / 8 := wrap64 (by omega)
    simp [c564, k564, ← hp, hwp, w2, h1, e1, skip]
def offX (s : Ly) (x : Int) : Int := s.x - x * s.d / 8
def offY (s : Ly) (y : Int) : Int := s.y - y * s.d / 8
theorem okLy_d {s : Ly} (h : okLy s = true) : (-12 ≤ s.x ∧ s.x ≤ 12) ∧ (-12 ≤ s.y ∧ s.y ≤ 12) ∧ (0 ≤ s.d ∧ s.d ≤ 8) ∧ okF (inkL s) = true ∧ okF (mskL s) = true := by
  simp only [okLy, okCel, Bool.and_eq_true, in1, decide_eq_true_eq] at h
  exact ⟨h.1.1.2, h.1.2, h.2, h.1.1.1.1.1, h.1.1.1.1.2⟩
theorem div8 {a b : Int} (ha : -100 ≤ a ∧ a ≤ 100) (hb : 0 ≤ b ∧ b ≤ 8) : -100 ≤ a * b / 8 ∧ a * b / 8 ≤ 100 := by
  have : b = 0 ∨ b = 1 ∨ b = 2 ∨ b = 3 ∨ b = 4 ∨ b = 5 ∨ b = 6 ∨ b = 7 ∨ b = 8 := by omega
  rcases this with rfl | rfl | rfl | rfl | rfl | rfl | rfl | rfl | rfl <;> omega
theorem off_ok {s : Ly} {x y : Int} (h : okLy s = true) (hx : -100 ≤ x ∧ x ≤ 100) (hy : -100 ≤ y ∧ y ≤ 100) : (-112 ≤ offX s x ∧ offX s x ≤ 112) ∧ -112 ≤ offY s y ∧ offY s y ≤ 112 := by
  obtain ⟨h1, h2, h3, _⟩ := okLy_d h
  have d1 := div8 hx h3
  have d2 := div8 hy h3
  unfold offX offY
  omega
theorem call335 {pu : Bool} {H : Heap} {s : Ly} {x y : Int} (hw : LyW s) (h : okLy s = true) (hx : -100 ≤ x ∧ x ≤ 100) (hy : -100 ≤ y ∧ y ≤ 100) :
    Call tab pu 335 [agg (lyC s), .int .i64 x, .int .i64 y] H = some (tup [.int .i64 (offX s x), .int .i64 (offY s y)], H) := by
  refine Call_wp t335 (.inr rfl) rfl ?_
  obtain ⟨h1, h2, h3, _⟩ := okLy_d h
  have l := hw.len
  have w1 : IntKind.wrap .i64 s.x = s.x := wrap64 (by omega)
  have w2 : IntKind.wrap .i64 s.y = s.y := wrap64 (by omega)
  have w3 : IntKind.wrap .i64 s.d = s.d := wrap64 (by omega)
  have d1 := div8 hx h3
  have d2 := div8 hy h3
  have c1 := call501 (pu := true) (H := H) (a := x) (b := s.d) (by omega) h3
  have c2 := call501 (pu := true) (H := H) (a := y) (b := s.d) (by omega) h3
  have w4 : IntKind.wrap .i64 (s.x - x * s.d / 8) = offX s x := by rw [wrap64 (by omega)]; rfl
  have w5 : IntKind.wrap .i64 (s.y - y * s.d / 8) = offY s y := by rw [wrap64 (by omega)]; rfl
  simp [c335, k335, lyC, ldLx l, ldLy l, ldLd l, w1, w2, w3, c1, c2, w4, w5]
theorem call499 {pu : Bool} {H : Heap} {q off ver : Nat} {s : Ly} {x y : Int} (hr : LyR H q off ver s) (h : okLy s = true) (hx : -100 ≤ x ∧ x ≤ 100) (hy : -100 ≤ y ∧ y ≤ 100) :
    Call tab pu 499 [adr q off ver, .int .i64 x, .int .i64 y] H = some (tup [.int .i64 (offX s x), .int .i64 (offY s y)], H) := by
  refine Call_wp t499 (.inr rfl) rfl ?_
  obtain ⟨h1, h2, h3, _⟩ := okLy_d h
  have w1 : IntKind.wrap .i64 s.x = s.x := wrap64 (by omega)
  have w2 : IntKind.wrap .i64 s.y = s.y := wrap64 (by omega)
  have w3 : IntKind.wrap .i64 s.d = s.d := wrap64 (by omega)
  have d1 := div8 hx h3
  have d2 := div8 hy h3
  have c1 := call564 (pu := true) (H := H) (a := x) (b := s.d) (by omega) h3
  have c2 := call564 (pu := true) (H := H) (a := y) (b := s.d) (by omega) h3
  have w4 : IntKind.wrap .i64 (s.x - x * s.d / 8) = offX s x := by rw [wrap64 (by omega)]; rfl
  have w5 : IntKind.wrap .i64 (s.y - y * s.d / 8) = offY s y := by rw [wrap64 (by omega)]; rfl
  simp [c499, k499, hr.x, hr.y, hr.d, w1, w2, w3, c1, c2, w4, w5]
theorem lessI_row {a b : Int} (ha : u16' a) (h1 : okRow a = true) : okRow (lessI a b) = true := by
  obtain ⟨n, rfl⟩ := Int.eq_ofNat_of_zero_le ha.1
  simp [okRow] at h1 ⊢
  have e0 : IntKind.bits .u16 = 16 := rfl
  unfold lessI bitsOf
  simp only []
  have e1 : (BitVec.ofInt (IntKind.bits .u16) (n : Int) &&& ~~~BitVec.ofInt (IntKind.bits .u16) b).toNat ≤ n := by
    rw [BitVec.toNat_and]
    refine Nat.le_trans Nat.and_le_left ?_
    rw [e0, BitVec.ofInt_natCast, BitVec.toNat_ofNat]
    exact Nat.mod_le _ _
  rw [wrapu16 (by omega)]; omega
theorem lessI_ok {a b : Int} : u16' (lessI a b) := by
  have e0 : IntKind.bits .u16 = 16 := rfl
  unfold lessI bitsOf
  simp only []
  have := (BitVec.ofInt (IntKind.bits .u16) a &&& ~~~BitVec.ofInt (IntKind.bits .u16) b).isLt
  rw [e0] at this ⊢
  rw [wrapu16 (by omega)]; omega
theorem less_W {a b : List Int} : FrW (mixF lessI a b) := mixF_W fun _ _ => lessI_ok
theorem less_ok {a b : List Int} (ha : FrW a) (h1 : okF a = true) : okF (mixF lessI a b) = true :=
  okF_true mixF_length fun i hi => by
    rw [mixF, nth_tabN hi]
    exact lessI_row (ha.nth hi) (List.all_eq_true.1 (show a.all okRow = true from h1) _ (nth_mem (by rw [ha.len]; exact hi)))
def lyI (s : Ly) (x y : Int) : List Int := shF (inkL s) (offX s x) (offY s y)
def lyM (s : Ly) (x y : Int) : List Int := shF (mskL s) (offX s x) (offY s y)
theorem lyI_W {s : Ly} {x y : Int} : FrW (lyI s x y) := dotsF_W
theorem lyM_W {s : Ly} {x y : Int} : FrW (lyM s x y) := dotsF_W
theorem lyM_ok {s : Ly} {x y : Int} : okF (lyM s x y) = true := dotsF_ok
/-- What is covered by the layers before, and what is seen of a layer. -/
def cvr (l : List Ly) (x y : Int) (k : Nat) : List Int := itN (fun i c => mixF orI c (lyM (at0 l i) x y)) (zr 12 0) k
theorem cvr_zero {l : List Ly} {x y : Int} : cvr l x y 0 = zr 12 0 := itN_zero
theorem cvr_succ {l : List Ly} {x y : Int} {k : Nat} : cvr l x y (k + 1) = mixF orI (cvr l x y k) (lyM (at0 l k) x y) := itN_succ
theorem cvr_len {l : List Ly} {x y : Int} {k : Nat} : (cvr l x y k).length = 12 := by
  cases k with
  | zero => rw [cvr_zero]; simp
  | succ k => rw [cvr_succ]; exact mixF_length
def snF (l : List Ly) (x y : Int) (i : Nat) : List Int := mixF lessI (lyM (at0 l i) x y) (cvr l x y i)
theorem snF_W {l : List Ly} {x y : Int} {i : Nat} : FrW (snF l x y i) := less_W
theorem snF_ok {l : List Ly} {x y : Int} {i : Nat} : okF (snF l x y i) = true := less_ok lyM_W lyM_ok
def snL (l : List Ly) (x y : Int) (k : Nat) : List (List Int) := (List.range k).map (snF l x y)
theorem snL_succ {l : List Ly} {x y : Int} {k : Nat} : bkC (snL l x y (k + 1)) = bkC (snL l x y k) ++ cs .u16 (snF l x y k) := by
  unfold snL
  rw [List.range_succ, List.map_append]
  show rowsC frC (_ ++ _) = _
  rw [rowsC_app]
  simp [bkC, rowsC, frC]
theorem snL_len {l : List Ly} {x y : Int} {k : Nat} : (snL l x y k).length = k := by simp [snL]
theorem snL_W {l : List Ly} {x y : Int} {k : Nat} : BkW (snL l x y k) := by
  intro f hf
  unfold snL at hf
  rw [List.mem_map] at hf
  obtain ⟨i, _, rfl⟩ := hf
  exact snF_W
theorem snL_fr {l : List Ly} {x y : Int} {k i : Nat} (h : i < k) : fr (snL l x y k) i = snF l x y i := by
  unfold fr at0 snL
  rw [List.getD_eq_getElem?_getD, List.getElem?_map, List.getElem?_range h]; rfl
theorem okSc_get {l : List Ly} (h : okSc l = true) {i : Nat} (hi : i < l.length) : okLy (at0 l i) = true := by
  simp only [okSc, Bool.and_eq_true] at h
  exact allN_get (p := fun i => okLy (at0 l i)) h.1 hi
theorem okSc_len {l : List Ly} (h : okSc l = true) : l.length ≤ 8 := by
  simp only [okSc, Bool.and_eq_true, decide_eq_true_eq] at h
  exact h.2
theorem join_sub {a b : List Int} (ha : a.length = 12) (hb : b.length = 12) : sub (a ++ b) 0 12 = a ∧ sub (a ++ b) 12 12 = b := by
  constructor
  · unfold sub
    rw [List.drop_zero, List.take_append_of_le_length (by omega), List.take_of_length_le (by omega)]
  · unfold sub
    rw [List.drop_append_of_le_length (by omega), List.drop_eq_nil_of_le (by omega), List.nil_append, List.take_of_length_le (by omega)]
theorem fill24 {a b : List Int} (ha : a.length = 12) (hb : b.length = 12) : fill (cs .u16 (zr 24 0)) [(0, 12, iv .u16 a), (12, 12, iv .u16 b)] = some (cs .u16 (a ++ b)) := by
  have l1 : (cs .u16 a).length = 12 := by simp [ha]
  have l2 : (cs .u16 b).length = 12 := by simp [hb]
  show (if (cs .u16 a).length = 12 ∧ 0 + 12 ≤ (cs .u16 (zr 24 0)).length then fill (splice (cs .u16 (zr 24 0)) 0 (cs .u16 a)) [(12, 12, iv .u16 b)] else none) = _
  rw [if_pos ⟨l1, by simp⟩, splice_cs, wrt_a (by simp) ha]
  show (if (cs .u16 b).length = 12 ∧ 12 + 12 ≤ (cs .u16 (a ++ (zr 24 0).drop 12)).length then fill (splice (cs .u16 (a ++ (zr 24 0).drop 12)) 12 (cs .u16 b)) [] else none) = _
  rw [if_pos ⟨l2, by simp [ha]⟩, splice_cs, wrt_b ha (by simp) hb]; rfl
theorem call336 {pu : Bool} {H : Heap} {s : Ly} {x y : Int} (hw : LyW s) (h : okLy s = true) (hx : -100 ≤ x ∧ x ≤ 100) (hy : -100 ≤ y ∧ y ≤ 100) :
    Call tab pu 336 [iv .u16 s.f, .int .i64 (offX s x), .int .i64 (offY s y)] H = some (iv .u16 (lyI s x y ++ lyM s x y), H) := by
  refine Call_wp t336 (.inr rfl) rfl ?_
  obtain ⟨h1, h2, h3, h4, h5⟩ := okLy_d h
  obtain ⟨o1, o2⟩ := off_ok h hx hy
  have c1 := call358 (pu := true) (H := H) (dx := offX s x) (dy := offY s y) hw.ink h4 (by omega) (by omega)
  have c2 := call358 (pu := true) (H := H) (dx := offX s x) (dy := offY s y) hw.msk h5 (by omega) (by omega)
  have d1 : ldc 12 true (iv .u16 s.f) 0 = some (iv .u16 (inkL s)) := d24a hw.len
  have d2 : ldc 12 true (iv .u16 s.f) 12 = some (iv .u16 (mskL s)) := d24b hw.len
  have e1 : shF (inkL s) (offX s x) (offY s y) = lyI s x y := rfl
  have e2 : shF (mskL s) (offX s x) (offY s y) = lyM s x y := rfl
  rw [e1] at c1
  rw [e2] at c2
  have hl : (lyI s x y ++ lyM s x y).length = 24 := by simp [lyI_W.len, lyM_W.len]
  have s3 := stc_zr (k := .u16) (n := 24) (l := lyI s x y ++ lyM s x y) hl
  have hf := fill24 (a := lyI s x y) (b := lyM s x y) lyI_W.len lyM_W.len
  simp [c336, k336, d1, d2, c1, c2, zs_cs, hf, agg_cs, hl, s3]
def fldV (off n : Nat) (isAgg : Bool) : Value → Option Value
  | .agg cs => if off + n ≤ cs.size then ldv isAgg ((cs.toList.drop off).take n) else none
  | _ => none
theorem ev1_fld {T : Tab} {n0 : Nat} {wb : Bool} {e : Env} {H : Heap} {off n : Nat} {g : Bool} {x : Opd} : ev1 (Call T) n0 wb e H (.fld off n g x) = (fldV off n g (x.ev e)).map (·, H) := rfl
theorem fldV_b {a b : List Int} (ha : a.length = 12) (hb : b.length = 12) : fldV 12 12 true (iv .u16 (a ++ b)) = some (iv .u16 b) := by
  show (if 12 + 12 ≤ (cs .u16 (a ++ b)).toArray.size then ldv true (((cs .u16 (a ++ b)).toArray.toList.drop 12).take 12) else none) = _
  rw [if_pos (by simp [ha, hb])]
  simp only [cs_sub, (join_sub ha hb).2]; rfl
theorem fldV_a {a b : List Int} (ha : a.length = 12) (hb : b.length = 12) : fldV 0 12 true (iv .u16 (a ++ b)) = some (iv .u16 a) := by
  show (if 0 + 12 ≤ (cs .u16 (a ++ b)).toArray.size then ldv true (((cs .u16 (a ++ b)).toArray.toList.drop 0).take 12) else none) = _
  rw [if_pos (by simp [ha, hb])]
  simp only [cs_sub, (join_sub ha hb).1]; rfl
theorem call412 {pu : Bool} {H : Heap} {z : Value} {l : List Ly} {x y : Int} (hs : Sc H z l) (hw : ScW l) (hok : okSc l = true) (hx : -100 ≤ x ∧ x ≤ 100) (hy : -100 ≤ y ∧ y ≤ 100) :
    Call tab pu 412 [z, .int .i64 x, .int .i64 y] H = some (slc H.length 0 0 l.length l.length, H ++ [⟨bkC (snL l x y l.length), 12, 0, false⟩]) := by
  refine Call_wp t412 (.inr rfl) rfl ?_
  have hn := okSc_len hok
  have hz12 := stc_zr (k := .u16) (n := 12) (l := zr 12 0) (by simp)
  simp [c412, k412, fill, rep, zs_cs, agg_cs, hz12, SlR.lenV hs]
  refine WP_count 16 l.length _ rfl (fun i e G => e 1 = .int .i64 x ∧ e 2 = .int .i64 y ∧ e 8 = iv .u16 (cvr l x y i) ∧ e 14 = z ∧ e 15 = .int .i64 l.length ∧ ∃ g, e 7 = g ∧ Gr H G g 12 i (bkC (snL l x y i))) (by omega) ?_ ?_ (by simp) ⟨by simp, by simp, by simp [cvr_zero], by simp, by simp, _, by simp, Gr.new .refl⟩
  · rintro i e G _ hi hii e4 h16 ⟨h1, h2, h8, h14, h15, g, h7, hg⟩
    obtain ⟨q, off, ver, ha, hr, _⟩ := Sc.get (SlR.pre hg.pre hs) hw hi
    have hlw := hw _ (at0_mem hi)
    have hlo := okSc_get hok hi
    have c1 := call335 (pu := true) (H := G) hlw hlo hx hy
    have c2 := call336 (pu := true) (H := G) hlw hlo hx hy
    have hcl := cvr_len (l := l) (x := x) (y := y) (k := i)
    have c3 := call350 (pu := true) (H := G) (a := lyM (at0 l i) x y) (b := cvr l x y i) lyM_W.len hcl
    have c4 : ∀ G, Call tab true 338 [iv .u16 (cvr l x y i), iv .u16 (lyM (at0 l i) x y)] G = some (iv .u16 (mixF orI (cvr l x y i) (lyM (at0 l i) x y)), G) := fun G => call338 hcl lyM_W.len
    have hsn : mixF lessI (lyM (at0 l i) x y) (cvr l x y i) = snF l x y i := rfl
    rw [hsn] at c3
    have hff := fillF (snF_W (l := l) (x := x) (y := y) (i := i)).len
    obtain ⟨g', G', hpush, hg'⟩ := hg.push (c := cs .u16 (snF l x y i)) (bytes := 24) (by simp [snF_W.len]) (room24 (by omega)) (wb := false)
    rw [← snL_succ] at hg'
    have hz : (zr 24 0).length = 24 := rfl
    have hl := hlw.len
    simp only [lyC] at hr c1
    have st := stLall (a := .int .i8 0) (b := .int .i8 0) (c := .int .i8 0) (a' := .int .i8 (at0 l i).x) (b' := .int .i8 (at0 l i).y) (c' := .int .i8 (at0 l i).d) hz hl
    have hst2 := stc_zr (k := .u16) (n := 12) (l := lyM (at0 l i) x y) lyM_W.len
    have hst3 : stc (iv .u16 (cvr l x y i)) 0 (cs .u16 (mixF orI (cvr l x y i) (lyM (at0 l i) x y))) = some (iv .u16 (mixF orI (cvr l x y i) (lyM (at0 l i) x y))) := stc_all (by rw [hcl, mixF_length])
    simp [b412_1, h16, h1, h2, h8, h14, h15, h7, hii, z27, lyZ, ha, hr, lyT_len hl, st, zs_cs, agg_cs, ldLall hl, ldL0 hl, c1, c2, ev1_fld, fldV_b lyI_W.len lyM_W.len, lyM_W.len, hst2, hcl, c3, hff, hpush, wbOf, c4, mixF_length, hst3, e4]
    exact ⟨by rw [cvr_succ], hg'⟩
  · rintro e G _ h16 ⟨h1, h2, h8, h14, h15, g, h7, hg⟩
    have hfin := hg.fin bkC_flat
    simp [b412_1, h16, h15, h7, hfin]
theorem call408 {pu : Bool} {H : Heap} {z : Value} {l : List Ly} {x y : Int} (hs : Sc H z l) (hw : ScW l) (hok : okSc l = true) (hx : -100 ≤ x ∧ x ≤ 100) (hy : -100 ≤ y ∧ y ≤ 100) :
    Call tab pu 408 [z, .int .i64 x, .int .i64 y] H = some (slc H.length 0 0 l.length l.length, H ++ [⟨bkC (snL l x y l.length), 12, 0, false⟩]) := by
  refine Call_wp t408 (.inr rfl) rfl ?_
  have hn := okSc_len hok
  obtain ⟨G1, hG1⟩ : ∃ G1, G1 = H ++ [(⟨[], 12, 0, false⟩ : Blk), ⟨cs .u16 (zr 12 0), 1, 0, false⟩] := ⟨_, rfl⟩
  have p1 : Pre H G1 := by rw [hG1]; exact ⟨_, rfl⟩
  have gR : GrB H G1 H.length (slc H.length 0 0 0 0) 12 0 [] := GrB.mk' (by rw [hG1]; simp) (Nat.le_refl _) p1
  have gC : G1[H.length + 1]? = some ⟨cs .u16 (cvr l x y 0), 1, 0, false⟩ := by rw [hG1, cvr_zero]; simp
  have hwr : wr H.length false G1 (H.length + 1) 0 0 (cs .u16 (zr 12 0)) = some G1 := by
    rw [cvr_zero] at gC
    rw [wr_at gC rfl rfl (by simp [may]) (by simp)]
    congr 1
    refine set_self ?_
    rw [gC]; simp [splice]
  simp [c408, k408, fill, rep, zs_cs, agg_cs, ← hG1, hwr, wbOf]
  refine WP_count 9 l.length _ rfl (fun i e G => e 0 = z ∧ e 1 = .int .i64 x ∧ e 2 = .int .i64 y ∧ e 8 = adr (H.length + 1) 0 0 ∧ G[H.length + 1]? = some ⟨cs .u16 (cvr l x y i), 1, 0, false⟩ ∧ ∃ g, e 7 = g ∧ GrB H G H.length g 12 i (bkC (snL l x y i))) (by omega) ?_ ?_ (by simp) ⟨by simp, by simp, by simp, by simp, gC, _, by simp, gR⟩
  · rintro i e G _ hi hii e4 h9 ⟨h0, h1, h2, h8, hC, g, h7, hg⟩
    have hPG := hg.pr
    obtain ⟨q, off, ver, ha, _, hr⟩ := Sc.get (SlR.pre hPG hs) hw hi
    have hlw := hw _ (at0_mem hi)
    have hlo := okSc_get hok hi
    obtain ⟨o1, o2⟩ := off_ok hlo hx hy
    have c1 := call499 (pu := true) hr hlo hx hy
    have c2 := call355 (pu := true) (H := G) (dx := offX (at0 l i) x) (dy := offY (at0 l i) y) hlw.msk hr.msk (by omega) (by omega)
    have e2 : shF (mskL (at0 l i)) (offX (at0 l i) x) (offY (at0 l i) y) = lyM (at0 l i) x y := rfl
    rw [e2] at c2
    have c2' := fun G' (pp : Pre G G') => call355 (pu := true) (H := G') (dx := offX (at0 l i) x) (dy := offY (at0 l i) y) hlw.msk (pp.rd hr.msk) (by omega) (by omega)
    obtain ⟨Ga, hGa⟩ : ∃ Ga, Ga = G ++ [(⟨cs .u16 (zr 12 0), 1, 0, false⟩ : Blk)] := ⟨_, rfl⟩
    have pa : Pre G Ga := by rw [hGa]; exact Pre.one
    have c2a := c2' Ga pa
    rw [e2] at c2a
    obtain ⟨Gb, hGb⟩ : ∃ Gb, Gb = G ++ [(⟨cs .u16 (lyM (at0 l i) x y), 1, 0, false⟩ : Blk)] := ⟨_, rfl⟩
    have pb : Pre G Gb := by rw [hGb]; exact Pre.one
    have hHG : H.length ≤ G.length := hPG.len
    have hwa : wr H.length false Ga G.length 0 0 (cs .u16 (lyM (at0 l i) x y)) = some Gb := by
      have := wr_last (n0 := H.length) (wb := false) (H := G) (b := ⟨cs .u16 (zr 12 0), 1, 0, false⟩) (vs := cs .u16 (lyM (at0 l i) x y)) rfl rfl hHG (by simp [lyM_W.len])
      rw [hGa, this, hGb]
    have rM : rd Gb G.length 0 0 12 = some (cs .u16 (lyM (at0 l i) x y)) := by rw [hGb]; exact rd_last rfl (by simp [lyM_W.len])
    have hlC := (List.getElem?_eq_some_iff.1 hC).1
    have hcl := cvr_len (l := l) (x := x) (y := y) (k := i)
    have hCb : Gb[H.length + 1]? = some ⟨cs .u16 (cvr l x y i), 1, 0, false⟩ := by rw [pb.get hlC]; exact hC
    have rCb : rd Gb (H.length + 1) 0 0 12 = some (cs .u16 (cvr l x y i)) := by
      rw [rd_at hCb rfl (by simp [hcl])]; simp only [List.drop_zero]; rw [List.take_of_length_le (by simp [hcl])]
    have c3 := call349 (pu := true) lyM_W.len hcl rM rCb
    have hsn : mixF lessI (lyM (at0 l i) x y) (cvr l x y i) = snF l x y i := rfl
    rw [hsn] at c3
    have hff := fillF (snF_W (l := l) (x := x) (y := y) (i := i)).len
    obtain ⟨g', G', hpush, hg', hk⟩ := (hg.onto pb).push (c := cs .u16 (snF l x y i)) (bytes := 24) (by simp [snF_W.len]) (room24 (by omega)) (wb := false)
    rw [← snL_succ] at hg'
    have hC' : G'[H.length + 1]? = some ⟨cs .u16 (cvr l x y i), 1, 0, false⟩ := by rw [hk _ (by omega) (by have := pb.len; omega)]; exact hCb
    have hGbl : Gb.length = G.length + 1 := by rw [hGb]; simp
    have hM' : G'[G.length]? = some ⟨cs .u16 (lyM (at0 l i) x y), 1, 0, false⟩ := by rw [hk _ (by omega) (by omega), hGb]; exact get_last
    have rC' : rd G' (H.length + 1) 0 0 12 = some (cs .u16 (cvr l x y i)) := by
      rw [rd_at hC' rfl (by simp [hcl])]; simp only [List.drop_zero]; rw [List.take_of_length_le (by simp [hcl])]
    have rM' : rd G' G.length 0 0 12 = some (cs .u16 (lyM (at0 l i) x y)) := by
      rw [rd_at hM' rfl (by simp [lyM_W.len])]; simp only [List.drop_zero]; rw [List.take_of_length_le (by simp [lyM_W.len])]
    have c4 := call337 (pu := true) hcl lyM_W.len rC' rM'
    rw [← cvr_succ] at c4
    have hcl2 := cvr_len (l := l) (x := x) (y := y) (k := i + 1)
    obtain ⟨Gd, hGd⟩ : ∃ Gd, Gd = G'.set (H.length + 1) ⟨cs .u16 (cvr l x y (i + 1)), 1, 0, false⟩ := ⟨_, rfl⟩
    have hwd : wr H.length false G' (H.length + 1) 0 0 (cs .u16 (cvr l x y (i + 1))) = some Gd := by
      rw [wr_at hC' rfl rfl (by simp [may]) (by simp [hcl, hcl2]), hGd]
      have hdn : (cs .u16 (cvr l x y i)).drop 12 = [] := List.drop_eq_nil_of_le (by simp [hcl])
      simp [splice, hcl, hcl2, hdn]
    have hgd : GrB H Gd H.length g' 12 (i + 1) (bkC (snL l x y (i + 1))) := hg'.kept (by rw [hGd, List.getElem?_set_ne (by omega)]) (by rw [hGd]; exact hg'.pr.set (by omega))
    simp [b408_1, h9, h0, h1, h2, h8, h7, SlR.lenV hs, hii, ha, c1, c2, zs_cs, ← hGa, hwa, wbOf, lyM_W.len, c3, hff, hpush, c4, hcl2, hwd, e4]
    exact ⟨by rw [hGd]; exact get_set hC', hgd⟩
  · rintro e G _ h9 ⟨h0, h1, h2, h8, hC, g, h7, hg⟩
    have hfin := hg.gr.fin bkC_flat
    simp [b408_1, h9, h0, h7, SlR.lenV hs, hfin]
def trL' (l : List Ly) (x y : Int) (k : Nat) : List Ly := itN (fun i r => if 0 < cntF (snF l x y i) then r ++ [at0 l i] else r) [] k
theorem trL'_zero {l : List Ly} {x y : Int} : trL' l x y 0 = [] := itN_zero
theorem trL'_succ {l : List Ly} {x y : Int} {k : Nat} : trL' l x y (k + 1) = if 0 < cntF (snF l x y k) then trL' l x y k ++ [at0 l k] else trL' l x y k := itN_succ
theorem trL'_ok {l : List Ly} {x y : Int} (hw : ScW l) {k : Nat} (hk : k ≤ l.length) : (trL' l x y k).length ≤ k ∧ ScW (trL' l x y k) := by
  induction k with
  | zero => rw [trL'_zero]; exact ⟨Nat.le_refl _, fun s hs => by cases hs⟩
  | succ k ih =>
    obtain ⟨h1, h2⟩ := ih (by omega)
    rw [trL'_succ]
    split
    · refine ⟨by simp; omega, fun s hs => ?_⟩
      rcases List.mem_append.1 hs with h | h
      · exact h2 s h
      · rw [List.mem_singleton.1 h]; exact hw _ (at0_mem (by omega))
    · exact ⟨by omega, h2⟩
def tmL (l : List Ly) (x y : Int) : List Ly := if cmC l x y = 0 then trL' l x y l.length else []
theorem tmL_ok {l : List Ly} {x y : Int} (hw : ScW l) : (tmL l x y).length ≤ l.length ∧ ScW (tmL l x y) := by
  unfold tmL
  split
  · exact trL'_ok hw (Nat.le_refl _)
  · exact ⟨by simp, fun s hs => by cases hs⟩
theorem scC_push {l : List Ly} {s : Ly} : scC l ++ lyC s = scC (l ++ [s]) := by
  unfold scC
  rw [rowsC_app]; simp [rowsC]
theorem fill27 {s : Ly} (hw : LyW s) : fill (rep 1 lyZ) [(0, 27, agg (lyC s))] = some (lyC s) := fill_one (by rw [cellsOf_agg, lyC_len hw]) rfl
theorem room52 {n : Nat} (h : n ≤ 1000000) : (n + 1) * 52 ≤ roomMax := by have : roomMax = 140737488355328 := rfl; omega
end Fb
