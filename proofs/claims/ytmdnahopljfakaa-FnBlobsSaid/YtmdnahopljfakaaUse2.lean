/- What each function computes. -/
import Derived.Test.YtmdnahopljfakaaUse1
set_option linter.unusedVariables false
set_option linter.unusedSimpArgs false
namespace Fb
open Go
theorem mixV {op : Int → Int → Int} {f g : List Int} (hf : VF f) (hg : VF g) (h : ∀ a b, u16' a → u16' b → okRow a = true → okRow b = true → u16' (op a b) ∧ okRow (op a b) = true) : VF (mixF op f g) := by
  have key : ∀ i, i < 12 → u16' (nth (mixF op f g) i) ∧ okRow (nth (mixF op f g) i) = true := fun i hi => by
    rw [mixF, nth_tabN hi]
    exact h _ _ (hf.row hi).1 (hg.row hi).1 (hf.row hi).2 (hg.row hi).2
  exact ⟨⟨mixF_length, fun n hn => by obtain ⟨i, hi, rfl⟩ := mem_nth hn; rw [mixF_length] at hi; exact (key i hi).1⟩, okF_true mixF_length fun i hi => (key i hi).2⟩
theorem and_V {f g : List Int} (hf : VF f) (hg : VF g) : VF (mixF andI f g) := mixV hf hg fun _ _ h1 h2 h3 h4 => ⟨andI_ok, andI_row h1 h2 h3 h4⟩
theorem or_V {f g : List Int} (hf : VF f) (hg : VF g) : VF (mixF orI f g) := mixV hf hg fun _ _ h1 h2 h3 h4 => ⟨orI_ok, orI_row h1 h2 h3 h4⟩
theorem xor_V' {f g : List Int} (hf : VF f) (hg : VF g) : VF (mixF xorI f g) := mixV hf hg fun _ _ h1 h2 h3 h4 => ⟨xorI_ok, xorI_row h1 h2 h3 h4⟩
theorem less_V {f g : List Int} (hf : VF f) (hg : VF g) : VF (mixF lessI f g) := mixV hf hg fun _ _ h1 h2 h3 _ => ⟨lessI_ok, lessI_row h1 h3⟩
theorem hasF_zero {x y : Nat} (hx : x < 12) (hy : y < 12) : hasF (zr 12 0) x y = false := by rw [← dotsF_none, hasF_dots hx hy]
theorem less_none {f g : List Int} (hf : VF f) (hg : VF g) (h : ∀ x y, x < 12 → y < 12 → hasF f x y = true → hasF g x y = true) : mixF lessI f g = zr 12 0 :=
  (less_V hf hg).ext .zero fun x y hx hy => by
    rw [mix_less hf hg hx hy, hasF_zero hx hy]
    cases h1 : hasF f x y with
    | false => rfl
    | true => rw [h x y hx hy h1]; rfl
theorem whereN_dots {p : Nat → Nat → Bool} : whereN p 144 = dotsF p := by
  have key : ∀ k, k ≤ 144 → whereN p k = dotsF fun x y => decide (y * 12 + x < k) && p x y := by
    intro k
    induction k with
    | zero =>
      intro _
      rw [whereN_zero, ← dotsF_none]
      exact dotsF_congr fun x y _ _ => by simp
    | succ k ih =>
      intro hk
      have h1 := whereN_succ (p := p) (x := k % 12) (y := k / 12) (by omega)
      have e1 : k / 12 * 12 + k % 12 = k := by omega
      rw [e1, ih (by omega)] at h1
      rw [h1]
      split
      · rename_i hp
        rw [putF_dots (by omega) (by omega)]
        refine dotsF_congr fun x y hx hy => ?_
        by_cases hxy : x = k % 12 ∧ y = k / 12
        · obtain ⟨rfl, rfl⟩ := hxy
          simp [hp]; omega
        · have e2 : (decide (x = k % 12) && decide (y = k / 12)) = false := by simpa using hxy
          have e3 : decide (y * 12 + x < k) = decide (y * 12 + x < k + 1) := decide_eq_decide.2 ⟨fun h => by omega, fun h => by omega⟩
          rw [e2, e3, Bool.or_false]
      · rename_i hp
        refine dotsF_congr fun x y hx hy => ?_
        by_cases hxy : x = k % 12 ∧ y = k / 12
        · obtain ⟨rfl, rfl⟩ := hxy
          have : p (k % 12) (k / 12) = false := by simpa using hp
          simp [this]
        · have e3 : decide (y * 12 + x < k) = decide (y * 12 + x < k + 1) := decide_eq_decide.2 ⟨fun h => by omega, fun h => by omega⟩
          rw [e3]
  rw [key 144 (Nat.le_refl _)]
  exact dotsF_congr fun x y hx hy => by
    have : y * 12 + x < 144 := by omega
    simp [this]
/-- A list of bytes in memory. -/
structure By (H : Heap) (x : Value) (bs : List Int) : Prop where
  s : SlR H x 1 bs.length (cs .u8 bs)
  b : ∀ v ∈ bs, 0 ≤ v ∧ v ≤ 255
theorem By.pre {H G : Heap} {x : Value} {bs : List Int} (p : Pre H G) (h : By H x bs) : By G x bs := ⟨h.s.pre p, h.b⟩
theorem call84 {pu : Bool} {H : Heap} {x y : Value} {bs cs : List Int} (hx : By H x bs) (hy : By H y cs) : Call tab pu 84 [x, y] H = some (.bool (decide (3000 < bs.length) || decide (3000 < cs.length)), H) := by
  refine Call_wp t84 (.inr rfl) rfl ?_
  have e2 : decide ((3000 : Int) < cs.length) = decide (3000 < cs.length) := decide_eq_decide.2 (by omega)
  by_cases h : 3000 < bs.length
  · have h' : (3000 : Int) < bs.length := by omega
    simp [c84, k84, hx.s.lenV, hy.s.lenV, h, h', skip]
  · have h' : ¬ (3000 : Int) < bs.length := by omega
    simp [c84, k84, hx.s.lenV, hy.s.lenV, h, h', e2]
theorem call124 {pu : Bool} {H : Heap} {x : Value} {bs : List Int} {i : Nat} {n : Int} (hx : By H x bs) (hi : i ≤ 1000000) (hn : 1 ≤ n ∧ n ≤ 1000000) : ∃ v, Call tab pu 124 [x, .int .i64 i, .int .i64 n] H = some (.int .i64 v, H) ∧ 0 ≤ v ∧ v < n := by
  by_cases h : i < bs.length
  · obtain ⟨q, off, ver, ha, hr⟩ := hx.s.get1 h
    rw [elem_i h] at hr
    have hb := nthI_ok hx.b h
    have h1 : (nth bs i).tmod n = nth bs i % n := Int.tmod_eq_emod_of_nonneg hb.1
    have h2 := Int.emod_nonneg (nth bs i) (show n ≠ 0 by omega)
    have h3 := Int.emod_lt_of_pos (nth bs i) (show 0 < n by omega)
    have w1 : IntKind.wrap .i64 (nth bs i) = nth bs i := wrap64 (by omega)
    have w2 : IntKind.wrap .i64 (nth bs i % n) = nth bs i % n := wrap64 (by omega)
    have hn0 : n ≠ 0 := by omega
    have hn1 : ¬ n < 1 := by omega
    have hge : ¬ bs.length ≤ i := by omega
    refine ⟨nth bs i % n, Call_wp t124 (.inr rfl) rfl ?_, h2, h3⟩
    simp [c124, k124, hx.s.lenV, hge, hn1, ha, hr, w1, hn0, h1, w2]
  · have hge : bs.length ≤ i := by omega
    refine ⟨0, Call_wp t124 (.inr rfl) rfl ?_, by omega, by omega⟩
    simp [c124, k124, hx.s.lenV, hge, skip]
theorem call327 {pu : Bool} {H : Heap} {p q o o' v v' : Nat} {a b : List Int} (ha : VF a) (hb : VF b) (h1 : rd H p o v 12 = some (cs .u16 a)) (h2 : rd H q o' v' 12 = some (cs .u16 b)) : Call tab pu 327 [adr p o v, adr q o' v'] H = some (.int .i64 0, H) := by
  refine Call_wp t327 (.inr rfl) rfl ?_
  simp [c327, k327, call359 ha.W.len h1, call359 hb.W.len h2, ha.ok, hb.ok]
theorem g4c {a b : Value} : ([a, b] : List Value)[0]? = some a := rfl
theorem g4d {a : Value} : ([a] : List Value)[0]? = some a := rfl
/-- In a function that draws: the source, and a list of the call's own in the first new block. -/
structure LoG (G G' : Heap) (P k : Nat) (x : Value) (esz n : Nat) (vs : List Value) : Prop where
  src : Src G' P k
  ls : ∃ ver, x = slc G.length 0 ver n n ∧ G'[G.length]? = some ⟨vs, esz, ver, false⟩
  size : vs.length = n * esz
  len : G.length + 1 ≤ G'.length
  get : ∀ j, j < G.length → j ≠ P → G'[j]? = G[j]?
  lt : P < G.length
theorem LoG.mv {G G' G'' : Heap} {P k k' esz n : Nat} {x : Value} {vs : List Value} (h : LoG G G' P k x esz n vs) (m : Mv P G' G'') (s : Src G'' P k') : LoG G G'' P k' x esz n vs := by
  have := h.lt
  exact ⟨s, by obtain ⟨ver, e, g⟩ := h.ls; exact ⟨ver, e, by rw [m.get _ (by omega)]; exact g⟩, h.size, by rw [m.len]; exact h.len, fun j hj hp => by rw [m.get j hp]; exact h.get j hj hp, h.lt⟩
theorem LoG.new {G : Heap} {P k esz : Nat} (h : Src G P k) : LoG G (G ++ [⟨[], esz, 0, false⟩]) P k (slc G.length 0 0 0 0) esz 0 [] :=
  ⟨h.pre Pre.one, ⟨0, rfl, get_last⟩, by simp, by simp, fun j hj _ => Pre.one.get hj, h.lt⟩
theorem LoG.push {G G' : Heap} {P k esz n bytes : Nat} {x : Value} {vs c : List Value} (h : LoG G G' P k x esz n vs) (hc : c.length = esz) (hb : (n + 1) * bytes ≤ roomMax) :
    ∃ x' G'', ((srcOf esz (G' ++ [⟨c, esz, 0, false⟩]) (slc G'.length 0 0 1 1)).bind fun q => appendTo G.length true esz bytes (G' ++ [⟨c, esz, 0, false⟩]) x q.1 q.2) = some (x', G'') ∧ LoG G G'' P k x' esz (n + 1) (vs ++ c) := by
  have hl := h.lt
  have hlen := h.len
  have hsrc := h.src
  have hget := h.get
  have hs := h.size
  obtain ⟨ver, rfl, g⟩ := h.ls
  have gA : ∀ j, j < G'.length → (G' ++ [(⟨c, esz, 0, false⟩ : Blk)])[j]? = G'[j]? := fun j hj => List.getElem?_append_left hj
  have g' : (G' ++ [(⟨c, esz, 0, false⟩ : Blk)])[G.length]? = some ⟨vs, esz, ver, false⟩ := by rw [gA _ (by omega)]; exact g
  have e1 : srcOf esz (G' ++ [⟨c, esz, 0, false⟩]) (slc G'.length 0 0 1 1) = some (1, c) := by
    show (rd (G' ++ [⟨c, esz, 0, false⟩]) G'.length 0 0 (1 * esz)).map (fun cs => (1, cs)) = _
    rw [Nat.one_mul, rd_last rfl (by simpa using hc)]; rfl
  refine ⟨slc G.length 0 (ver + 1) (n + 1) (n + 1), (G' ++ [(⟨c, esz, 0, false⟩ : Blk)]).set G.length ⟨vs ++ c, esz, ver + 1, false⟩, ?_, ?_⟩
  · rw [e1, Option.bind_some]
    exact appendTo_grow g' rfl rfl (by simp [may]) rfl hs.symm (by omega) hb
  · exact ⟨hsrc.mv (by rw [List.getElem?_set_ne (by omega), gA _ (by omega)]) fun j hj => by rw [List.getElem?_set_ne (by omega), gA _ (by omega)], ⟨ver + 1, rfl, get_set g'⟩, by simp [hs, hc, Nat.succ_mul], by simp; omega,
      fun j hj hp => by rw [List.getElem?_set_ne (by omega), gA _ (by omega)]; exact hget j hj hp, hl⟩
theorem LoG.rd {G G' : Heap} {P k esz n o m : Nat} {x : Value} {vs : List Value} (h : LoG G G' P k x esz n vs) {ver : Nat} (hx : x = slc G.length 0 ver n n) (ho : o + m ≤ n * esz) : Fb.rd G' G.length o ver m = some ((vs.drop o).take m) := by
  obtain ⟨ver', e, g⟩ := h.ls
  rw [hx] at e
  have hve : ver = ver' := by
    have := e
    simp [slc] at this
    exact this
  subst hve
  exact rd_at (ver := ver) g rfl (by rw [h.size]; exact ho)
/-- Keys of a drawn track: all behind one another, ahead of t. -/
structure KG (ks : List Ky) (t : Int) : Prop where
  r : ∀ i, i < ks.length → (0 ≤ (ky ks i).1 ∧ (ky ks i).1 < t) ∧ (-6 ≤ (ky ks i).2.1 ∧ (ky ks i).2.1 ≤ 6) ∧ -6 ≤ (ky ks i).2.2 ∧ (ky ks i).2.2 ≤ 6
  s : ∀ i, i + 1 < ks.length → (ky ks i).1 < (ky ks (i + 1)).1
theorem ky_push {ks : List Ky} {k : Ky} {i : Nat} : ky (ks ++ [k]) i = if i < ks.length then ky ks i else if i = ks.length then k else default := by
  unfold ky at0
  rw [List.getD_eq_getElem?_getD, List.getElem?_append]
  split
  · rw [List.getD_eq_getElem?_getD]
  · rename_i h
    split
    · rename_i h2; subst h2; simp
    · rw [List.getElem?_eq_none (by simp; omega)]; rfl
theorem KG.push {ks : List Ky} {t t' a b : Int} (h : KG ks t) (ht : 0 ≤ t) (htt : t < t') (ha : -6 ≤ a ∧ a ≤ 6) (hb : -6 ≤ b ∧ b ≤ 6) : KG (ks ++ [(t, a, b)]) t' := by
  refine ⟨fun i hi => ?_, fun i hi => ?_⟩
  · have hi : i < ks.length + 1 := by simpa using hi
    rw [ky_push]
    by_cases h1 : i < ks.length
    · rw [if_pos h1]; have := h.r i h1; exact ⟨by omega, this.2⟩
    · rw [if_neg h1, if_pos (by omega)]; exact ⟨⟨ht, htt⟩, ha, hb⟩
  · have hi : i + 1 < ks.length + 1 := by simpa using hi
    rw [ky_push, ky_push, if_pos (by omega)]
    by_cases h1 : i + 1 < ks.length
    · rw [if_pos h1]; exact h.s i h1
    · rw [if_neg h1, if_pos (by omega)]; exact (h.r i (by omega)).1.2
/-- A drawn track. -/
structure DT (ks : List Ky) : Prop where
  n1 : 1 ≤ ks.length
  n5 : ks.length ≤ 5
  ok : okTk ks = true
/-- A drawn part. -/
structure DP (s : Pt) : Prop where
  f : VF s.f
  e : 0 ≤ s.e ∧ s.e ≤ 3
  ks : DT s.ks
theorem DT.W {ks : List Ky} (h : DT ks) : KyW ks := fun k hk => by
  have V := okTk_V h.ok
  obtain ⟨i, hi, rfl⟩ := List.getElem_of_mem hk
  have := V.r i hi
  have e : ky ks i = ks[i] := Option.some.inj ((at0_get hi).symm.trans (List.getElem?_eq_getElem hi))
  rw [e] at this
  exact ⟨by omega, ⟨by omega, by omega⟩, ⟨by omega, by omega⟩⟩
theorem DP.ok {s : Pt} (h : DP s) : okPt s = true := by
  have := h.e
  simp [okPt, h.f.ok, h.ks.ok, in1, this]
theorem DP.W {s : Pt} (h : DP s) : PtW s := ⟨h.f.W.ok, ⟨by have := h.e; omega, by have := h.e; omega⟩, h.ks.W⟩
theorem call253 {pu : Bool} {H : Heap} {a b : List Int} (ha : VF a) (hb : VF b) : Call tab pu 253 [iv .u16 a, iv .u16 b] H = some (tup [iv .u16 (mixF orI a b), .int .i64 0], H) := by
  refine Call_wp t253 (.inr rfl) rfl ?_
  obtain ⟨H1, hH1⟩ : ∃ H1, H1 = H ++ [(⟨cs .u16 a, 1, 0, false⟩ : Blk)] := ⟨_, rfl⟩
  obtain ⟨H2, hH2⟩ : ∃ H2, H2 = H1 ++ [(⟨cs .u16 b, 1, 0, false⟩ : Blk)] := ⟨_, rfl⟩
  have p1 : Pre H H1 := by rw [hH1]; exact Pre.one
  have p2 : Pre H1 H2 := by rw [hH2]; exact Pre.one
  have r1 : rd H2 H.length 0 0 12 = some (cs .u16 a) := p2.rd (by rw [hH1]; exact rd_last rfl (by simp [ha.W.len]))
  have r2 : rd H2 H1.length 0 0 12 = some (cs .u16 b) := by rw [hH2]; exact rd_last rfl (by simp [hb.W.len])
  have s3 := stc_zr (k := .u16) (n := 12) (l := mixF orI a b) mixF_length
  simp [c253, k253, ha.W.len, hb.W.len, ← hH1, ← hH2, call327 ha hb r1 r2, call337 ha.W.len hb.W.len r1 r2, zs_cs, agg_cs, mixF_length, s3, (p1.trans p2).take]
theorem call251 {pu : Bool} {H : Heap} {a b : List Int} (ha : VF a) (hb : VF b) : Call tab pu 251 [iv .u16 a, iv .u16 b] H = some (tup [iv .u16 (mixF andI a b), .int .i64 0], H) := by
  refine Call_wp t251 (.inr rfl) rfl ?_
  obtain ⟨H1, hH1⟩ : ∃ H1, H1 = H ++ [(⟨cs .u16 a, 1, 0, false⟩ : Blk)] := ⟨_, rfl⟩
  obtain ⟨H2, hH2⟩ : ∃ H2, H2 = H1 ++ [(⟨cs .u16 b, 1, 0, false⟩ : Blk)] := ⟨_, rfl⟩
  have p1 : Pre H H1 := by rw [hH1]; exact Pre.one
  have p2 : Pre H1 H2 := by rw [hH2]; exact Pre.one
  have l1 : H1.length = H.length + 1 := by rw [hH1]; simp
  have g1 : H2[H.length]? = some ⟨cs .u16 a, 1, 0, false⟩ := by rw [p2.get (by omega), hH1]; exact get_last
  have g2 : H2[H1.length]? = some ⟨cs .u16 b, 1, 0, false⟩ := by rw [hH2]; exact get_last
  have r1 : rd H2 H.length 0 0 12 = some (cs .u16 a) := p2.rd (by rw [hH1]; exact rd_last rfl (by simp [ha.W.len]))
  have r2 : rd H2 H1.length 0 0 12 = some (cs .u16 b) := by rw [hH2]; exact rd_last rfl (by simp [hb.W.len])
  have s3 := stc_zr (k := .u16) (n := 12) (l := mixF andI a b) mixF_length
  simp [c251, k251, ha.W.len, hb.W.len, ← hH1, ← hH2, call327 ha hb r1 r2, zs_cs]
  refine WP_count 7 12 12 rfl (fun i e G => e 2 = adr H.length 0 0 ∧ e 3 = adr H1.length 0 0 ∧ e 4 = iv .u16 (zr 12 0) ∧ G = H2.set H.length ⟨cs .u16 (mixU andI a b i), 1, 0, false⟩) (by omega) ?_ ?_ (by simp) ⟨by simp, by simp, by simp [agg_cs], by rw [mixU_zero ha.W.len]; exact (set_self g1).symm⟩
  · rintro i e _ _ hi hii e5 h7 ⟨h2, h3, h4, rfl⟩
    have hl := mixU_length (op := andI) (a := a) (b := b) (i := i)
    have ra := rd_at (ver := 0) (off := 0) (n := 12) (get_set (k' := ⟨cs .u16 (mixU andI a b i), 1, 0, false⟩) g1) rfl (by simp [hl])
    simp [take_all, hl] at ra
    have ra1 := rd_one ra hi
    rw [Nat.zero_add, mixU_nth hi] at ra1
    have rb1 : rd (H2.set H.length ⟨cs .u16 (mixU andI a b i), 1, 0, false⟩) H1.length i 0 1 = some [.int .u16 (nth b i)] := by
      have := rd_one r2 hi
      rw [Nat.zero_add] at this
      unfold rd at this ⊢
      rw [List.getElem?_set_ne (by omega)]
      exact this
    have hw := wr_at (n0 := H.length) (wb := false) (off := i) (vs := [.int .u16 (andI (nth a i) (nth b i))]) (ver := 0) (get_set (k' := ⟨cs .u16 (mixU andI a b i), 1, 0, false⟩) g1) rfl rfl (by simp [may]) (by simp [hl]; omega)
    have hsp : splice (cs .u16 (mixU andI a b i)) i [.int .u16 (andI (nth a i) (nth b i))] = cs .u16 (mixU andI a b (i + 1)) := by
      rw [splice_one (by simp [hl]; omega), ← mixU_set hi]; simp [cs, List.map_set]
    simp only [hsp, set_set] at hw
    simp [b251_1, h7, h2, h3, h4, hii, hi, ra1, rb1, andI_eq, hw, wbOf, e5]
  · rintro e _ _ h7 ⟨h2, h3, h4, rfl⟩
    have hl := mixF_length (op := andI) (a := a) (b := b)
    have ra := rd_at (ver := 0) (off := 0) (n := 12) (get_set (k' := ⟨cs .u16 (mixU andI a b 12), 1, 0, false⟩) g1) rfl (by simp [mixU_all, hl])
    simp [mixU_all, take_all, hl] at ra
    have ht : (H2.set H.length ⟨cs .u16 (mixF andI a b), 1, 0, false⟩).take H.length = H := by rw [Mv.set.take (Nat.le_refl _), (p1.trans p2).take]
    simp [b251_1, h7, h2, h4, mixU_all, ra, hl, s3, agg_cs, ht]
theorem hasF_put {g : List Int} (h : VF g) {x y u v : Nat} (hx : x < 12) (hy : y < 12) (hu : u < 12) (hv : v < 12) : hasF (putF g x y) u v = (hasF g u v || (decide (u = x) && decide (v = y))) := by
  have e : putF g x y = putF (dotsF (hasF g)) x y := by rw [h.dots]
  rw [e, putF_dots hx hy, hasF_dots hu hv]
theorem cntF_zr : cntF (zr 12 0) = 0 := by
  have h1 := cntF_ok (f := zr 12 0)
  have h2 : ∀ i, i < 12 → nth (zr 12 0) i = 0 := by decide
  have h3 : ¬ 0 < cntF (zr 12 0) := fun z => ((cntF_zero VF.zero.W VF.zero.ok).1 z) h2
  omega
theorem dotL_new {g : List Int} (h : VF g) {x y k : Nat} (hx : x < 12) (hy : y < 12) (hk : k ≤ 144) (hn : hasF g x y = false) : (dotL (putF g x y) k).length = (dotL g k).length + (if y * 12 + x < k then 1 else 0) := by
  induction k with
  | zero => simp [dotL]
  | succ k ih =>
    have ih := ih (by omega)
    have e := hasF_put h hx hy (u := k % 12) (v := k / 12) (by omega) (by omega)
    have d1 : (dotL (putF g x y) (k + 1)).length = (dotL (putF g x y) k).length + (if hasK (putF g x y) k = true then 1 else 0) := by
      unfold dotL; rw [List.range_succ, List.filter_append, List.length_append]
      cases hh : hasK (putF g x y) k <;> simp [hh]
    have d2 : (dotL g (k + 1)).length = (dotL g k).length + (if hasK g k = true then 1 else 0) := by
      unfold dotL; rw [List.range_succ, List.filter_append, List.length_append]
      cases hh : hasK g k <;> simp [hh]
    rw [d1, d2]
    have e2 : hasK (putF g x y) k = (hasK g k || (decide (k % 12 = x) && decide (k / 12 = y))) := e
    rw [e2]
    by_cases hxy : k % 12 = x ∧ k / 12 = y
    · have hlt : ¬ y * 12 + x < k := by omega
      have hlt2 : y * 12 + x < k + 1 := by omega
      have e4 : hasK g k = false := by unfold hasK; rw [hxy.1, hxy.2]; exact hn
      rw [if_neg hlt] at ih
      rw [if_pos hlt2, e4, hxy.1, hxy.2]
      simp; omega
    · have e3 : (decide (k % 12 = x) && decide (k / 12 = y)) = false := by simpa using hxy
      rw [e3, Bool.or_false]
      split at ih <;> split <;> split <;> omega
theorem cntF_new {g : List Int} (h : VF g) {x y : Nat} (hx : x < 12) (hy : y < 12) (hn : hasF g x y = false) : cntF (putF g x y) = cntF g + 1 := by
  have := dotL_new h hx hy (Nat.le_refl 144) hn
  rw [if_pos (by omega)] at this
  unfold cntF
  omega
def lpD (b : List (List Int)) (n i : Nat) : Int := difF (fr b (i + n - 1)) (fr b i)
/-- The best of what was visited. -/
def LpI (b : List (List Int)) (o : Lp) (S : Nat → Nat → Prop) : Prop := match o with
  | none => ∀ n i, ¬ S n i
  | some (f, c, j) => S c f ∧ j = lpD b c f ∧ ∀ n i, S n i → j ≤ lpD b n i ∧ (lpD b n i = j → n < c ∨ (n = c ∧ f ≤ i))
theorem LpI.step {b : List (List Int)} {o : Lp} {S S' : Nat → Nat → Prop} {n i : Nat} (h : LpI b o S) (hS : ∀ n' i', S' n' i' ↔ S n' i' ∨ (n' = n ∧ i' = i)) (ho : ∀ n' i', S n' i' → n < n' ∨ (n = n' ∧ i' < i)) : LpI b (stepL b n i o) S' := by
  cases o with
  | none =>
    refine ⟨(hS n i).2 (.inr ⟨rfl, rfl⟩), rfl, fun n' i' hs => ?_⟩
    rcases (hS n' i').1 hs with h1 | ⟨rfl, rfl⟩
    · exact absurd h1 (h n' i')
    · exact ⟨Int.le_refl _, fun _ => .inr ⟨rfl, Nat.le_refl _⟩⟩
  | some q =>
    obtain ⟨f, c, j⟩ := q
    obtain ⟨h1, h2, h3⟩ := h
    show LpI b (if lpD b n i < j then some (i, n, lpD b n i) else some (f, c, j)) S'
    split
    · rename_i hlt
      refine ⟨(hS n i).2 (.inr ⟨rfl, rfl⟩), rfl, fun n' i' hs => ?_⟩
      rcases (hS n' i').1 hs with h4 | ⟨rfl, rfl⟩
      · have := (h3 n' i' h4).1
        exact ⟨by omega, fun he => by omega⟩
      · exact ⟨Int.le_refl _, fun _ => .inr ⟨rfl, Nat.le_refl _⟩⟩
    · rename_i hge
      refine ⟨(hS c f).2 (.inl h1), h2, fun n' i' hs => ?_⟩
      rcases (hS n' i').1 hs with h4 | ⟨rfl, rfl⟩
      · exact h3 n' i' h4
      · refine ⟨by omega, fun _ => ?_⟩
        rcases ho c f h1 with h5 | h5
        · exact .inl h5
        · exact .inr ⟨h5.1, by omega⟩
theorem fr_app {a b : List (List Int)} {i : Nat} : fr (a ++ b) i = if i < a.length then fr a i else fr b (i - a.length) := by
  unfold fr at0
  rw [List.getD_eq_getElem?_getD, List.getElem?_append]
  split
  · rw [List.getD_eq_getElem?_getD]
  · rw [List.getD_eq_getElem?_getD]
theorem call125 {pu : Bool} {H : Heap} {a b : List Int} (ha : VF a) (hb : VF b) : Call tab pu 125 [iv .u16 a, iv .u16 b] H = some (tup [.int .i64 (difF a b), .int .i64 0], H) := by
  refine Call_wp t125 (.inr rfl) rfl ?_
  have hc := two351 (H := H) ha.W hb.W
  obtain ⟨G, hG⟩ : ∃ G, G = H ++ [(⟨bkC [a, b], 12, 0, false⟩ : Blk)] := ⟨_, rfl⟩
  have p1 : Pre H G := by rw [hG]; exact Pre.one
  rw [← hG, ha.ok, hb.ok] at hc
  have hf := fill_two ha.W.len hb.W.len
  simp [c125, k125, ha.W.len, hb.W.len, zs_cs, hf, ← hG, hc, call324 ha.W hb.W ha.ok hb.ok, p1.take]
/-- What is left of a text behind some of its parts. -/
def tailC : Nat → Cd → Cd
  | 0, c => c
  | n + 1, .seq _ b => tailC n b
  | _, c => c
structure C1 (G : Heap) (x cx l1 l2 l3 : Value) (b c : List (List Int)) (frm : Nat) : Prop where
  bk : Bk G x b
  ck : Bk G cx c
  Vb : ∀ f ∈ b, VF f
  nb : b.length ≤ 1000
  c1 : 1 ≤ c.length
  cb : frm + c.length ≤ b.length
  sub : ∀ i, i < c.length → fr c i = fr b (frm + i)
  s1 : SlR G l1 1 (mcK b c 0 (mcN b c)).1.length (cs .i64 (mcK b c 0 (mcN b c)).1)
  s2 : SlR G l2 1 (mcK b c 1 (mcN b c)).1.length (cs .i64 (mcK b c 1 (mcN b c)).1)
  s3 : SlR G l3 2 (mcK b c 1 (mcN b c)).1.length (mvsC (mcK b c 1 (mcN b c)).2)
theorem C1.V {G : Heap} {x cx l1 l2 l3 : Value} {b c : List (List Int)} {frm : Nat} (h : C1 G x cx l1 l2 l3 b c frm) {i : Nat} (hi : i < c.length) : VF (fr c i) := by
  rw [h.sub i hi]
  have := h.cb
  exact h.Vb _ (at0_mem (by omega))
theorem bk_of {G : Heap} {F ver n cap : Nat} {L : List (List Int)} (hg : G[F]? = some ⟨bkC L, 12, ver, false⟩) (hV : ∀ f ∈ L, VF f) (hn : L.length = n) (hc : n ≤ cap) : Bk G (slc F 0 ver n cap) L := by
  subst hn
  have hs := vl_size hV
  exact ⟨hs, .inr ⟨F, 0, ver, cap, rfl, hc, by rw [rd_at hg rfl (by simp [hs])]; simp [take_all, hs], _, hg, rfl, rfl⟩⟩
/-- What the walk knows all along. -/
structure K17 (H G : Heap) (x y : Value) (b : List (List Int)) (bs : List Int) (tw : Bool) (pv : Int) : Prop where
  P : Pre H G
  by' : By G y bs
  bk : Bk G x b
  V : ∀ f ∈ b, VF f
  nb : b.length ≤ 40
  tw' : tw = true → ∃ L, b = L ++ L
  pv' : 1 ≤ b.length → pv = findN (perP b) (b.length + 1)
theorem K17.pre {H G G' : Heap} {x y : Value} {b : List (List Int)} {bs : List Int} {tw : Bool} {pv : Int} (h : K17 H G x y b bs tw pv) (p : Pre G G') : K17 H G' x y b bs tw pv := ⟨h.P.trans p, h.by'.pre p, h.bk.pre p, h.V, h.nb, h.tw', h.pv'⟩
/-- A text with another one behind some of its parts. -/
def headC : Nat → Cd → Cd → Cd
  | 0, _, t => t
  | n + 1, .seq a b, t => .seq a (headC n b t)
  | _, c, _ => c
theorem fr_snoc {l : List (List Int)} {f : List Int} {i : Nat} (h : i < l.length + 1) : fr (l ++ [f]) i = if i < l.length then fr l i else f := by
  rw [fr_app]
  split
  · rfl
  · rw [show i - l.length = 0 by omega]; rfl
theorem Gr.pr {H G : Heap} {x : Value} {esz n : Nat} {vs : List Value} (g : Gr H G x esz n vs) : Pre H G := by
  obtain ⟨_, _, _, _, _, _, h⟩ := g; exact h
theorem fill0 {n : Nat} {k : IntKind} : fill (cs k (zr n 0)) [] = some (cs k (zr n 0)) := rfl
def putI (f : List Int) (a b : Int) : List Int := if okP a b = true then putF f a.toNat b.toNat else f
theorem okP_iff {a b : Int} : okP a b = true ↔ (0 ≤ a ∧ a < 12) ∧ 0 ≤ b ∧ b < 12 := by
  unfold okP; simp; omega
theorem putI_V {f : List Int} {a b : Int} (h : VF f) : VF (putI f a b) := by
  unfold putI
  split
  · rename_i ho
    have := okP_iff.1 ho
    exact h.put (by omega) (by omega)
  · exact h
theorem putI_has {f : List Int} {a b : Int} (h : VF f) {u v : Nat} (hu : u < 12) (hv : v < 12) : hasF (putI f a b) u v = (hasF f u v || (decide ((u : Int) = a) && decide ((v : Int) = b))) := by
  unfold putI
  split
  · rename_i ho
    have := okP_iff.1 ho
    rw [hasF_put h (by omega) (by omega) hu hv]
    congr 1
    congr 1
    · exact decide_eq_decide.2 (by omega)
    · exact decide_eq_decide.2 (by omega)
  · rename_i ho
    have : (decide ((u : Int) = a) && decide ((v : Int) = b)) = false := by
      simp only [Bool.and_eq_false_iff, decide_eq_false_iff_not]
      by_cases h1 : (u : Int) = a
      · refine .inr fun h2 => ho (okP_iff.2 (by omega))
      · exact .inl h1
    rw [this, Bool.or_false]
theorem put305 {H : Heap} {b ver esz : Nat} {l : List Int} (hg : H[b]? = some ⟨cs .u16 l, esz, ver, false⟩) {x y : Int} (hl : l.length = 12) :
    Call tab false 305 [adr b 0 ver, .int .i64 x, .int .i64 y] H = some (tup [], H.set b ⟨cs .u16 (putI l x y), esz, ver, false⟩) := by
  cases ho : okP x y with
  | true =>
    have := okP_iff.1 ho
    obtain ⟨a, rfl⟩ := Int.eq_ofNat_of_zero_le this.1.1
    obtain ⟨c, rfl⟩ := Int.eq_ofNat_of_zero_le this.2.1
    have := call305 hg hl (x := a) (y := c) (by omega) (by omega)
    rw [this, putI, if_pos ho]
    simp
  | false =>
    rw [putI, if_neg (by rw [ho]; decide), set_self hg]
    refine Call_wp t305 (.inl rfl) rfl ?_
    simp [c305, k305, placeS, ho]
/-- Are two places side by side? -/
def nbr (u v p : Nat) : Bool := decide ((u : Int) = ((p % 12 : Nat) : Int) - 1) && decide ((v : Int) = ((p / 12 : Nat) : Int)) || (decide ((u : Int) = ((p % 12 : Nat) : Int) + 1) && decide ((v : Int) = ((p / 12 : Nat) : Int)) || (decide ((u : Int) = ((p % 12 : Nat) : Int)) && decide ((v : Int) = ((p / 12 : Nat) : Int) - 1) || decide ((u : Int) = ((p % 12 : Nat) : Int)) && decide ((v : Int) = ((p / 12 : Nat) : Int) + 1)))
def gr1 (p : Nat) (g : List Int) : List Int :=
  putI (putI (putI (putI g (((p % 12 : Nat) : Int) - 1) ((p / 12 : Nat) : Int)) (((p % 12 : Nat) : Int) + 1) ((p / 12 : Nat) : Int)) ((p % 12 : Nat) : Int) (((p / 12 : Nat) : Int) - 1)) ((p % 12 : Nat) : Int) (((p / 12 : Nat) : Int) + 1)
theorem gr1_V {p : Nat} {g : List Int} (h : VF g) : VF (gr1 p g) := putI_V (putI_V (putI_V (putI_V h)))
theorem gr1_has {p : Nat} {g : List Int} (h : VF g) {u v : Nat} (hu : u < 12) (hv : v < 12) : hasF (gr1 p g) u v = (hasF g u v || nbr u v p) := by
  unfold gr1 nbr
  rw [putI_has (putI_V (putI_V (putI_V h))) hu hv, putI_has (putI_V (putI_V h)) hu hv, putI_has (putI_V h) hu hv, putI_has h hu hv]
  simp only [Bool.or_assoc]
def grL (f : List Int) (j : Nat) : List Int := itN (fun j g => gr1 (at0 (dotL f 144) j) g) f j
theorem grL_zero {f : List Int} : grL f 0 = f := itN_zero
theorem grL_succ {f : List Int} {j : Nat} : grL f (j + 1) = gr1 (at0 (dotL f 144) j) (grL f j) := itN_succ
theorem grL_V {f : List Int} (h : VF f) {j : Nat} : VF (grL f j) := by
  induction j with
  | zero => rw [grL_zero]; exact h
  | succ j ih => rw [grL_succ]; exact gr1_V ih
theorem grL_has {f : List Int} (h : VF f) {j : Nat} (hj : j ≤ (dotL f 144).length) {u v : Nat} (hu : u < 12) (hv : v < 12) : hasF (grL f j) u v = (hasF f u v || ((dotL f 144).take j).any (nbr u v)) := by
  induction j with
  | zero => rw [grL_zero]; simp
  | succ j ih =>
    have ht : (dotL f 144).take (j + 1) = (dotL f 144).take j ++ [at0 (dotL f 144) j] := by
      rw [List.take_add_one, at0_get (by omega)]; rfl
    rw [grL_succ, gr1_has (grL_V h) hu hv, ih (by omega), ht, List.any_append, Bool.or_assoc]
    simp
/-- A frame and all places beside its dots. -/
def nearP (f : List Int) (u v : Nat) : Bool := hasF f u v || (hasI f ((u : Int) - 1) v || (hasI f ((u : Int) + 1) v || (hasI f u ((v : Int) - 1) || hasI f u ((v : Int) + 1))))
def growF (f : List Int) : List Int := dotsF (nearP f)
theorem growF_V {f : List Int} : VF (growF f) := ⟨dotsF_W, dotsF_ok⟩
theorem hasI_dot {f : List Int} {a b : Int} (h : hasI f a b = true) : ∃ p, p ∈ dotL f 144 ∧ ((p % 12 : Nat) : Int) = a ∧ ((p / 12 : Nat) : Int) = b := by
  unfold hasI at h
  simp only [Bool.and_eq_true] at h
  have ho := okP_iff.1 h.1
  refine ⟨b.toNat * 12 + a.toNat, List.mem_filter.2 ⟨by simp; omega, by rw [hasK_yx (by omega)]; exact h.2⟩, by omega, by omega⟩
theorem dot_hasI {f : List Int} {p : Nat} (h : p ∈ dotL f 144) : hasI f ((p % 12 : Nat) : Int) ((p / 12 : Nat) : Int) = true := by
  obtain ⟨h1, h2⟩ := List.mem_filter.1 h
  have h1 : p < 144 := by simpa using h1
  rw [hasI_nat (by omega) (by omega)]; exact h2
theorem grL_all {f : List Int} (h : VF f) : grL f (dotL f 144).length = growF f := by
  refine (grL_V h).ext growF_V fun u v hu hv => ?_
  rw [grL_has h (Nat.le_refl _) hu hv, List.take_length, growF, hasF_dots hu hv, nearP]
  congr 1
  rw [Bool.eq_iff_iff]
  simp only [List.any_eq_true, Bool.or_eq_true, nbr, Bool.and_eq_true, decide_eq_true_eq]
  constructor
  · rintro ⟨p, hp, h1⟩
    have := dot_hasI hp
    rcases h1 with ⟨h1, h2⟩ | ⟨h1, h2⟩ | ⟨h1, h2⟩ | ⟨h1, h2⟩
    · exact .inr (.inl (by rw [h1, h2, show ((p % 12 : Nat) : Int) - 1 + 1 = ((p % 12 : Nat) : Int) by omega]; exact this))
    · exact .inl (by rw [h1, h2, show ((p % 12 : Nat) : Int) + 1 - 1 = ((p % 12 : Nat) : Int) by omega]; exact this)
    · exact .inr (.inr (.inr (by rw [h1, h2, show ((p / 12 : Nat) : Int) - 1 + 1 = ((p / 12 : Nat) : Int) by omega]; exact this)))
    · exact .inr (.inr (.inl (by rw [h1, h2, show ((p / 12 : Nat) : Int) + 1 - 1 = ((p / 12 : Nat) : Int) by omega]; exact this)))
  · rintro (h1 | h1 | h1 | h1)
    · obtain ⟨p, p1, p2, p3⟩ := hasI_dot h1
      exact ⟨p, p1, .inr (.inl ⟨by omega, by omega⟩)⟩
    · obtain ⟨p, p1, p2, p3⟩ := hasI_dot h1
      exact ⟨p, p1, .inl ⟨by omega, by omega⟩⟩
    · obtain ⟨p, p1, p2, p3⟩ := hasI_dot h1
      exact ⟨p, p1, .inr (.inr (.inr ⟨by omega, by omega⟩))⟩
    · obtain ⟨p, p1, p2, p3⟩ := hasI_dot h1
      exact ⟨p, p1, .inr (.inr (.inl ⟨by omega, by omega⟩))⟩
theorem call453 {pu : Bool} {H : Heap} {q off ver : Nat} {f : List Int} (hf : VF f) (hr : rd H q off ver 12 = some (cs .u16 f)) : Call tab pu 453 [adr q off ver] H = some (iv .u16 (growF f), H) := by
  refine Call_wp t453 (.inr rfl) rfl ?_
  have hlf := hf.W.len
  obtain ⟨G0, hG0⟩ : ∃ G0, G0 = H ++ [(⟨cs .u16 (zr 12 0), 1, 0, false⟩ : Blk)] := ⟨_, rfl⟩
  have p0 : Pre H G0 := by rw [hG0]; exact Pre.one
  have hr0 := p0.rd hr
  have g0 : G0[H.length]? = some ⟨cs .u16 (zr 12 0), 1, 0, false⟩ := by rw [hG0]; exact get_last
  obtain ⟨G1, hG1⟩ : ∃ G1, G1 = G0.set H.length ⟨cs .u16 f, 1, 0, false⟩ := ⟨_, rfl⟩
  have w0 : wr H.length false G0 H.length 0 0 (cs .u16 f) = some G1 := by
    rw [wr_at g0 rfl rfl (by simp [may]) (by simp [hlf]), hG1]
    congr 2
    simp [splice, hlf]
  have p1 : Pre H G1 := by rw [hG1]; exact p0.set (Nat.le_refl _)
  have g1 : G1[H.length]? = some ⟨cs .u16 f, 1, 0, false⟩ := by rw [hG1]; exact get_set g0
  have l1 : G1.length = H.length + 1 := by rw [hG1, hG0]; simp
  have c1 := call440 (pu := true) hf.W (p1.rd hr)
  obtain ⟨G2, hG2⟩ : ∃ G2, G2 = G1 ++ [(⟨dotC f 144, 2, 0, false⟩ : Blk)] := ⟨_, rfl⟩
  rw [← hG2, l1] at c1
  have p2 : Pre G1 G2 := by rw [hG2]; exact Pre.one
  have g2 : G2[H.length]? = some ⟨cs .u16 f, 1, 0, false⟩ := by rw [p2.get (by omega)]; exact g1
  have d2 : G2[H.length + 1]? = some ⟨dotC f 144, 2, 0, false⟩ := by rw [hG2, ← l1]; exact get_last
  have hcl : (dotC f 144).length = (dotL f 144).length * 2 := by rw [dotC, mvsC_length]; simp
  have hle := dotL_len (f := f) (k := 144)
  have hz : (zr 12 0).length = 12 := by simp
  simp [c453, k453, zs_cs, agg_cs, ← hG0, hr, hlf, w0, c1, wbOf]
  obtain ⟨x4, hx4⟩ : ∃ x4, x4 = slc (H.length + 1) 0 0 (dotL f 144).length (dotL f 144).length := ⟨_, rfl⟩
  rw [← hx4]
  refine WP_count 5 (dotL f 144).length _ rfl (fun j e G => e 2 = iv .u16 (zr 12 0) ∧ e 3 = adr H.length 0 0 ∧ e 4 = x4 ∧ Pre H G ∧ G[H.length]? = some ⟨cs .u16 (grL f j), 1, 0, false⟩ ∧ G[H.length + 1]? = some ⟨dotC f 144, 2, 0, false⟩) (by omega) ?_ ?_ (by simp)
    ⟨by simp, by simp, by simp, p1.trans p2, by rw [grL_zero]; exact g2, d2⟩
  · rintro j e G _ hj hjj e5 h5 ⟨h2, h3, h4, pG, g, d⟩
    have hs : SlR G x4 2 (dotL f 144).length (dotC f 144) := ⟨hcl, .inr ⟨_, 0, 0, _, hx4, Nat.le_refl _, by rw [rd_at d rfl (by simp [hcl])]; simp [take_all (Nat.le_of_eq hcl)], _, d, rfl, rfl⟩⟩
    obtain ⟨q', o', v', ha, hr'⟩ := hs.get1 hj
    have hel : elem (dotC f 144) 2 j = mvC (dotM (at0 (dotL f 144) j)) := by
      unfold dotC
      rw [mvsC_elem (by simpa using hj), mv_map hj]
    rw [hel] at hr'
    have r1 := rd_part hr' (o := 0) (m := 1) (by omega)
    have r2 := rd_part hr' (o := 1) (m := 1) (by omega)
    obtain ⟨p, hp⟩ : ∃ p, p = at0 (dotL f 144) j := ⟨_, rfl⟩
    have hgs : grL f (j + 1) = gr1 p (grL f j) := by rw [hp]; exact grL_succ
    have hp144 : p < 144 := by
      have hm := at0_mem hj
      rw [← hp] at hm
      have := (List.mem_filter.1 (show p ∈ (List.range 144).filter (hasK f) from hm)).1
      simpa using this
    rw [← hp] at r1 r2
    have r1 : rd G q' o' v' 1 = some [.int .i8 ((p % 12 : Nat) : Int)] := r1
    have r2 : rd G q' (o' + 1) v' 1 = some [.int .i8 ((p / 12 : Nat) : Int)] := r2
    obtain ⟨X, hX⟩ : ∃ X : Int, X = ((p % 12 : Nat) : Int) := ⟨_, rfl⟩
    obtain ⟨Y, hY⟩ : ∃ Y : Int, Y = ((p / 12 : Nat) : Int) := ⟨_, rfl⟩
    rw [← hX] at r1
    rw [← hY] at r2
    unfold gr1 at hgs
    rw [← hX, ← hY] at hgs
    have bX : 0 ≤ X ∧ X < 12 := by omega
    have bY : 0 ≤ Y ∧ Y < 12 := by omega
    have w1 : IntKind.wrap .i64 X = X := wrap64 (by omega)
    have w2 : IntKind.wrap .i64 Y = Y := wrap64 (by omega)
    have w3 : IntKind.wrap .i64 (X - 1) = X - 1 := wrap64 (by omega)
    have w4 : IntKind.wrap .i64 (X + 1) = X + 1 := wrap64 (by omega)
    have w5 : IntKind.wrap .i64 (Y - 1) = Y - 1 := wrap64 (by omega)
    have w6 : IntKind.wrap .i64 (Y + 1) = Y + 1 := wrap64 (by omega)
    have V0 := grL_V hf (j := j)
    have V1 := putI_V (a := X - 1) (b := Y) V0
    have V2 := putI_V (a := X + 1) (b := Y) V1
    have V3 := putI_V (a := X) (b := Y - 1) V2
    have c2 := put305 (x := X - 1) (y := Y) g V0.W.len
    have g1 := get_set (k' := ⟨cs .u16 (putI (grL f j) (X - 1) Y), 1, 0, false⟩) g
    have c3 := put305 (x := X + 1) (y := Y) g1 V1.W.len
    rw [set_set] at c3
    have g2 := get_set (k' := ⟨cs .u16 (putI (putI (grL f j) (X - 1) Y) (X + 1) Y), 1, 0, false⟩) g
    have c4 := put305 (x := X) (y := Y - 1) g2 V2.W.len
    rw [set_set] at c4
    have g3 := get_set (k' := ⟨cs .u16 (putI (putI (putI (grL f j) (X - 1) Y) (X + 1) Y) X (Y - 1)), 1, 0, false⟩) g
    have c5 := put305 (x := X) (y := Y + 1) g3 V3.W.len
    rw [set_set, ← hgs] at c5
    have el : ∀ k v, elder H.length false (G.set H.length k) (v, G.set H.length k) = some (v, G.set H.length k) := fun k v => elder_same rfl
    have el2 : ∀ k k' v, elder H.length false (G.set H.length k) (v, G.set H.length k') = some (v, G.set H.length k') := fun k k' v => elder_same (by rw [Mv.set.take (Nat.le_refl _), Mv.set.take (Nat.le_refl _)])
    have el0 : ∀ k v, elder H.length false G (v, G.set H.length k) = some (v, G.set H.length k) := fun k v => elder_same (Mv.set.take (Nat.le_refl _))
    simp [b453_1, h5, h2, h3, h4, hs.lenV, hjj, ha, r1, r2, w1, w2, w3, w4, w5, w6, c2, c3, c4, c5, el0, el2, e5, wbOf]
    exact ⟨pG.set (Nat.le_refl _), get_set g, d⟩
  · rintro e G _ h5 ⟨h2, h3, h4, pG, g, d⟩
    rw [grL_all hf] at g
    have hs : SlR G x4 2 (dotL f 144).length (dotC f 144) := ⟨hcl, .inr ⟨_, 0, 0, _, hx4, Nat.le_refl _, by rw [rd_at d rfl (by simp [hcl])]; simp [take_all (Nat.le_of_eq hcl)], _, d, rfl, rfl⟩⟩
    have hl := (growF_V (f := f)).W.len
    have rF : rd G H.length 0 0 12 = some (cs .u16 (growF f)) := by rw [rd_at g rfl (by simp [hl])]; simp [take_all, hl]
    have z12 := stc_zr (k := .u16) (n := 12) (l := growF f) hl
    simp [b453_1, h5, h2, h3, h4, hs.lenV, rF, agg_cs, hl, z12, pG.take]
theorem LoG.app {G G' L : Heap} {P k esz n : Nat} {x : Value} {vs : List Value} (h : LoG G G' P k x esz n vs) : LoG G (G' ++ L) P k x esz n vs := by
  have hl := h.lt
  have hlen := h.len
  have g : ∀ j, j < G'.length → (G' ++ L)[j]? = G'[j]? := fun j hj => List.getElem?_append_left hj
  exact ⟨h.src.pre ⟨L, rfl⟩, by obtain ⟨ver, e, q⟩ := h.ls; exact ⟨ver, e, by rw [g _ (by omega)]; exact q⟩, h.size, by simp; omega, fun j hj hp => by rw [g _ (by omega)]; exact h.get j hj hp, hl⟩
/-- A drawn layer. -/
structure DLy (s : Ly) : Prop where
  W : LyW s
  ok : okLy s = true
  bx : -3 ≤ s.x ∧ s.x ≤ 3
  bz : -3 ≤ s.y ∧ s.y ≤ 3
  bd : 0 ≤ s.d ∧ s.d ≤ 8
theorem DLy.of {f g : List Int} {x y d : Int} (hf : VF f) (hg : VF g) (hx : -3 ≤ x ∧ x ≤ 3) (hy : -3 ≤ y ∧ y ≤ 3) (hd : 0 ≤ d ∧ d ≤ 8) : DLy ⟨f ++ mixF orI f g, x, y, d⟩ := by
  have V := or_V hf hg
  have e1 : inkL ⟨f ++ mixF orI f g, x, y, d⟩ = f := (join_sub hf.W.len V.W.len).1
  have e2 : mskL ⟨f ++ mixF orI f g, x, y, d⟩ = mixF orI f g := (join_sub hf.W.len V.W.len).2
  refine ⟨⟨by simp [hf.W.len, V.W.len], fun n hn => ?_, ⟨by simp only []; omega, by simp only []; omega⟩, ⟨by simp only []; omega, by simp only []; omega⟩, ⟨by simp only []; omega, by simp only []; omega⟩⟩, ?_, hx, hy, hd⟩
  · rcases List.mem_append.1 hn with h | h
    · exact hf.W.ok n h
    · exact V.W.ok n h
  · unfold okLy okCel
    rw [e1, e2, hf.ok, V.ok, less_none hf V fun u v hu hv h => by rw [mix_or hf hg hu hv, h]; rfl]
    simp [in1]; omega
theorem shF_has {f : List Int} {dx dy : Int} {x y : Nat} (hx : x < 12) (hy : y < 12) : hasF (shF f dx dy) x y = hasI f ((x : Int) - dx) ((y : Int) - dy) := by
  unfold shF hasI
  rw [hasF_dots hx hy, mvP]
  congr 1
  rw [Bool.eq_iff_iff, okP_iff]
  simp only [decide_eq_true_eq]
  constructor <;> intro h <;> omega
theorem grown_eq {f : List Int} (h : VF f) : mixF orI (mixF orI (mixF orI (mixF orI f (shF f 1 0)) (shF f (-1) 0)) (shF f 0 1)) (shF f 0 (-1)) = growF f := by
  have v1 := or_V h (shF_V (f := f) (dx := 1) (dy := 0))
  have v2 := or_V v1 (shF_V (f := f) (dx := -1) (dy := 0))
  have v3 := or_V v2 (shF_V (f := f) (dx := 0) (dy := 1))
  have v4 := or_V v3 (shF_V (f := f) (dx := 0) (dy := -1))
  refine v4.ext growF_V fun x y hx hy => ?_
  rw [mix_or v3 shF_V hx hy, mix_or v2 shF_V hx hy, mix_or v1 shF_V hx hy, mix_or h shF_V hx hy, shF_has hx hy, shF_has hx hy, shF_has hx hy, shF_has hx hy, growF, hasF_dots hx hy, nearP]
  simp only [Bool.or_assoc, Int.sub_zero, Int.sub_neg]
theorem call452 {pu : Bool} {H : Heap} {f : List Int} (h : VF f) : Call tab pu 452 [iv .u16 f] H = some (iv .u16 (growF f), H) := by
  refine Call_wp t452 (.inr rfl) rfl ?_
  have c1 := call358 (pu := true) (H := H) (dx := 1) (dy := 0) h.W h.ok (by omega) (by omega)
  have c2 := call358 (pu := true) (H := H) (dx := -1) (dy := 0) h.W h.ok (by omega) (by omega)
  have c3 := call358 (pu := true) (H := H) (dx := 0) (dy := 1) h.W h.ok (by omega) (by omega)
  have c4 := call358 (pu := true) (H := H) (dx := 0) (dy := -1) h.W h.ok (by omega) (by omega)
  have m : ∀ a b : List Int, (mixF orI a b).length = 12 := fun _ _ => mixF_length
  have d1 := call338 (pu := true) (H := H) h.W.len (shF_length (f := f) (dx := 1) (dy := 0))
  have d2 := call338 (pu := true) (H := H) (m f (shF f 1 0)) (shF_length (f := f) (dx := -1) (dy := 0))
  have d3 := call338 (pu := true) (H := H) (m (mixF orI f (shF f 1 0)) (shF f (-1) 0)) (shF_length (f := f) (dx := 0) (dy := 1))
  have d4 := call338 (pu := true) (H := H) (m (mixF orI (mixF orI f (shF f 1 0)) (shF f (-1) 0)) (shF f 0 1)) (shF_length (f := f) (dx := 0) (dy := -1))
  rw [grown_eq h] at d4
  have hl := (growF_V (f := f)).W.len
  have s := stc_zr (k := .u16) (n := 12) (l := growF f) hl
  simp [c452, k452, zs_cs, agg_cs, h.W.len, c1, c2, c3, c4, d1, d2, d3, d4, hl, s]
theorem call247 {pu : Bool} {H : Heap} {f : List Int} (h : VF f) : Call tab pu 247 [iv .u16 f] H = some (tup [iv .u16 (growF f), .int .i64 0], H) := by
  refine Call_wp t247 (.inr rfl) rfl ?_
  have c1 := call234 (pu := true) (H := H) h.W.len
  rw [h.ok] at c1
  have hl := (growF_V (f := f)).W.len
  have s := stc_zr (k := .u16) (n := 12) (l := growF f) hl
  simp [c247, k247, zs_cs, agg_cs, h.W.len, c1, call452 h, hl, s]
theorem box12 {H : Heap} {f : List Int} (hl : f.length = 12) : rd (H ++ [(⟨cs .u16 f, 1, 0, false⟩ : Blk)]) H.length 0 0 12 = some (cs .u16 f) := rd_last rfl (by simp [hl])
theorem call248 {pu : Bool} {H : Heap} {f : List Int} (h : VF f) : Call tab pu 248 [iv .u16 f] H = some (tup [iv .u16 (growF f), .int .i64 0], H) := by
  refine Call_wp t248 (.inr rfl) rfl ?_
  obtain ⟨G, hG⟩ : ∃ G, G = H ++ [(⟨cs .u16 f, 1, 0, false⟩ : Blk)] := ⟨_, rfl⟩
  have hr : rd G H.length 0 0 12 = some (cs .u16 f) := by rw [hG]; exact box12 h.W.len
  have pG : Pre H G := by rw [hG]; exact Pre.one
  have c1 := call359 (pu := true) h.W.len hr
  rw [h.ok] at c1
  have hl := (growF_V (f := f)).W.len
  have s := stc_zr (k := .u16) (n := 12) (l := growF f) hl
  simp [c248, k248, zs_cs, agg_cs, h.W.len, ← hG, c1, call453 h hr, hl, s, pG.take]
theorem call237 {pu : Bool} {H : Heap} {f g : List Int} (hf : VF f) (hg : VF g) : Call tab pu 237 [iv .u16 f, iv .u16 g] H = some (tup [iv .u16 (mixF lessI f g), .int .i64 0], H) := by
  refine Call_wp t237 (.inr rfl) rfl ?_
  have hc := two351 (H := H) hf.W hg.W
  obtain ⟨G, hG⟩ : ∃ G, G = H ++ [(⟨bkC [f, g], 12, 0, false⟩ : Blk)] := ⟨_, rfl⟩
  have p1 : Pre H G := by rw [hG]; exact Pre.one
  rw [← hG, hf.ok, hg.ok] at hc
  have hf2 := fill_two hf.W.len hg.W.len
  have c2 := call350 (pu := true) (H := G) hf.W.len hg.W.len
  have s := stc_zr (k := .u16) (n := 12) (l := mixF lessI f g) mixF_length
  simp [c237, k237, zs_cs, agg_cs, hf.W.len, hg.W.len, hf2, ← hG, hc, c2, mixF_length, s, p1.take]
theorem call448 {pu : Bool} {H : Heap} {f : List Int} {x y : Nat} (h : VF f) (hx : x < 12) (hy : y < 12) : Call tab pu 448 [iv .u16 f, .int .i64 x, .int .i64 y] H = some (.int .i64 0, H) := by
  refine Call_wp t448 (.inr rfl) rfl ?_
  have c1 := call234 (pu := true) (H := H) h.W.len
  rw [h.ok] at c1
  simp [c448, k448, h.W.len, c1, placeI, okP_nat hx hy]
theorem call240 {pu : Bool} {H : Heap} {f : List Int} {x y : Nat} (h : VF f) (hx : x < 12) (hy : y < 12) : Call tab pu 240 [iv .u16 f, .int .i64 x, .int .i64 y] H = some (tup [.bool (hasF f x y), .int .i64 0], H) := by
  refine Call_wp t240 (.inr rfl) rfl ?_
  simp [c240, k240, h.W.len, call448 h hx hy, call395 h.W hx hy]
theorem call242 {pu : Bool} {H : Heap} {f : List Int} (h : VF f) : Call tab pu 242 [iv .u16 f] H = some (tup [slc H.length 0 0 (dotL f 144).length (dotL f 144).length, .int .i64 0], H ++ [⟨dotC f 144, 2, 0, false⟩]) := by
  refine Call_wp t242 (.inr rfl) rfl ?_
  obtain ⟨G, hG⟩ : ∃ G, G = H ++ [(⟨cs .u16 f, 1, 0, false⟩ : Blk)] := ⟨_, rfl⟩
  have hr : rd G H.length 0 0 12 = some (cs .u16 f) := by rw [hG]; exact box12 h.W.len
  have pG : Pre H G := by rw [hG]; exact Pre.one
  have c1 := call359 (pu := true) h.W.len hr
  rw [h.ok] at c1
  have c2 := call440 (pu := true) h.W hr
  have lG : G.length = H.length + 1 := by rw [hG]; simp
  obtain ⟨G2, hG2⟩ : ∃ G2, G2 = G ++ [(⟨dotC f 144, 2, 0, false⟩ : Blk)] := ⟨_, rfl⟩
  rw [← hG2] at c2
  have p2 : Pre G G2 := by rw [hG2]; exact Pre.one
  have hcl : (dotC f 144).length = (dotL f 144).length * 2 := by rw [dotC, mvsC_length]; simp
  have g : Gr H G2 (slc G.length 0 0 (dotL f 144).length (dotL f 144).length) 2 (dotL f 144).length (dotC f 144) := ⟨G.length, 0, rfl, by rw [hG2]; exact get_last, by omega, hcl, pG.trans p2⟩
  have hfin := g.fin2 (c := 0) mvsC_flat
  simp [c242, k242, h.W.len, ← hG, c1, c2, hfin]
/-- A dot taken. -/
def clrF (f : List Int) (x y : Nat) : List Int := f.set y (lessI (nth f y) (bit x))
theorem bit_dot {x i : Nat} (hx : x < 12) (hi : i < 16) : dotB (bit x) i = decide (i = x) := by
  have e : bit x = ((2 ^ x : Nat) : Int) := by unfold bit; simp
  rw [e, dotB_bit]
  rw [Nat.testBit_two_pow]
  exact decide_eq_decide.2 ⟨fun h => h.symm, fun h => h.symm⟩
theorem u16_bit {x : Nat} (hx : x < 12) : u16' (bit x) := by
  have := bit_ok hx
  exact ⟨by omega, by omega⟩
theorem clrF_V {f : List Int} {x y : Nat} (h : VF f) (hx : x < 12) (hy : y < 12) : VF (clrF f x y) :=
  h.set lessI_ok (lessI_row (h.row hy).1 (h.row hy).2)
theorem clrF_has {f : List Int} {x y u v : Nat} (h : VF f) (hx : x < 12) (hy : y < 12) (hu : u < 12) (hv : v < 12) : hasF (clrF f x y) u v = (hasF f u v && !(decide (u = x) && decide (v = y))) := by
  unfold hasF clrF
  have hl := h.W.len
  by_cases hvy : v = y
  · subst hvy
    have : nth (f.set v (lessI (nth f v) (bit x))) v = lessI (nth f v) (bit x) := by
      generalize lessI (nth f v) (bit x) = r
      simp [nth, show v < f.length by omega]
    rw [this, less_dot (h.row hv).1 (u16_bit hx) (by omega), bit_dot hx (by omega), decide_eq_true rfl, Bool.and_true]
  · have : nth (f.set y (lessI (nth f y) (bit x))) v = nth f v := by
      generalize lessI (nth f y) (bit x) = r
      unfold nth
      rw [List.getD_eq_getElem?_getD, List.getD_eq_getElem?_getD, List.getElem?_set_ne (fun h => hvy h.symm)]
    rw [this]
    simp [hvy]
theorem call256 {pu : Bool} {H : Heap} {f : List Int} {x y : Nat} {b : Bool} (h : VF f) (hx : x < 12) (hy : y < 12) :
    Call tab pu 256 [iv .u16 f, .int .i64 x, .int .i64 y, .bool b] H = some (tup [iv .u16 (if b = true then putF (clrF f x y) x y else clrF f x y), .int .i64 0], H) := by
  refine Call_wp t256 (.inr rfl) rfl ?_
  have hl := h.W.len
  have V := clrF_V h hx hy
  have hl2 := V.W.len
  have e9 := stc_at (k := .u16) (l := f) (i := y) (n := lessI (nth f y) (bit x)) (l' := clrF f x y) (by omega) rfl
  have c2 := call346 (pu := true) (H := H) (l := clrF f x y) hl2 hx hy
  have hl3 : (putF (clrF f x y) x y).length = 12 := by rw [putF_length, hl2]
  have s1 := stc_zr (k := .u16) (n := 12) (l := clrF f x y) hl2
  have s2 := stc_zr (k := .u16) (n := 12) (l := putF (clrF f x y) x y) hl3
  have s3 : stc (iv .u16 (clrF f x y)) 0 (cs .u16 (putF (clrF f x y) x y)) = some (iv .u16 (putF (clrF f x y) x y)) := stc_all (by rw [hl2, hl3])
  cases b with
  | false => simp (disch := omega) [c256, k256, hl, call448 h hx hy, zs_cs, agg_cs, hy, hx, shl_bit, lessI_eq, e9, hl2, s1]
  | true => simp (disch := omega) [c256, k256, hl, call448 h hx hy, zs_cs, agg_cs, hy, hx, shl_bit, lessI_eq, e9, hl2, c2, hl3, s2, s3]
theorem call147 {pu : Bool} {H : Heap} {x : Value} {bs : List Int} (hx : By H x bs) (hn : bs.length ≤ 1000000) : ∃ f, Call tab pu 147 [x] H = some (iv .u16 f, H) ∧ VF f := by
  obtain ⟨c1, s1⟩ := call315 (pu := true) hx.s hx.b hn
  obtain ⟨f, G2, c2, V, m2, s2⟩ := call368 s1 (by omega)
  obtain ⟨H1, hH1⟩ : ∃ H1, H1 = H ++ [srB x 0 0] := ⟨_, rfl⟩
  rw [← hH1] at c1 c2 s1 m2
  have p1 : Pre H H1 := by rw [hH1]; exact Pre.one
  have t2 : G2.take H.length = H := by rw [m2.take (Nat.le_refl _), p1.take]
  have x2 : elder H.length false H1 (iv .u16 f, G2) = some (iv .u16 f, G2) := elder_same (by rw [t2, p1.take])
  have hl := V.W.len
  have s := stc_zr (k := .u16) (n := 12) (l := f) hl
  refine ⟨f, Call_wp t147 (.inr rfl) rfl ?_, V⟩
  simp [c147, k147, zs_cs, agg_cs, c1, c2, x2, wbOf, hl, s, t2]
/-- Side by side. -/
def Adj (u v u' v' : Nat) : Prop := (v = v' ∧ (u = u' + 1 ∨ u' = u + 1)) ∨ (u = u' ∧ (v = v' + 1 ∨ v' = v + 1))
theorem Adj.symm {u v u' v' : Nat} (h : Adj u v u' v') : Adj u' v' u v := by unfold Adj at *; omega
def Dot (f : List Int) (u v : Nat) : Prop := u < 12 ∧ v < 12 ∧ hasF f u v = true
theorem hasI_iff {f : List Int} {a b : Int} : hasI f a b = true ↔ ∃ u v : Nat, a = u ∧ b = v ∧ Dot f u v := by
  unfold hasI
  rw [Bool.and_eq_true, okP_iff]
  constructor
  · rintro ⟨⟨h1, h2⟩, h3⟩
    exact ⟨a.toNat, b.toNat, by omega, by omega, by omega, by omega, h3⟩
  · rintro ⟨u, v, rfl, rfl, h1, h2, h3⟩
    exact ⟨by omega, by simpa using h3⟩
theorem nearP_iff {f : List Int} {u v : Nat} (hu : u < 12) (hv : v < 12) : nearP f u v = true ↔ Dot f u v ∨ ∃ u' v', Adj u v u' v' ∧ Dot f u' v' := by
  unfold nearP
  simp only [Bool.or_eq_true, hasI_iff]
  constructor
  · rintro (h | ⟨a, b, h1, h2, h3⟩ | ⟨a, b, h1, h2, h3⟩ | ⟨a, b, h1, h2, h3⟩ | ⟨a, b, h1, h2, h3⟩)
    · exact .inl ⟨hu, hv, h⟩
    · exact .inr ⟨a, b, by unfold Adj; omega, h3⟩
    · exact .inr ⟨a, b, by unfold Adj; omega, h3⟩
    · exact .inr ⟨a, b, by unfold Adj; omega, h3⟩
    · exact .inr ⟨a, b, by unfold Adj; omega, h3⟩
  · rintro (h | ⟨a, b, h1, h3⟩)
    · exact .inl h.2.2
    · unfold Adj at h1
      rcases h1 with ⟨rfl, h1 | h1⟩ | ⟨rfl, h1 | h1⟩
      · exact .inr (.inl ⟨a, v, by omega, by omega, h3⟩)
      · exact .inr (.inr (.inl ⟨a, v, by omega, by omega, h3⟩))
      · exact .inr (.inr (.inr (.inl ⟨u, b, by omega, by omega, h3⟩)))
      · exact .inr (.inr (.inr (.inr ⟨u, b, by omega, by omega, h3⟩)))
theorem growF_iff {f : List Int} {u v : Nat} : Dot (growF f) u v ↔ u < 12 ∧ v < 12 ∧ (Dot f u v ∨ ∃ u' v', Adj u v u' v' ∧ Dot f u' v') := by
  unfold Dot growF
  constructor
  · rintro ⟨h1, h2, h3⟩
    rw [hasF_dots h1 h2] at h3
    exact ⟨h1, h2, (nearP_iff h1 h2).1 h3⟩
  · rintro ⟨h1, h2, h3⟩
    exact ⟨h1, h2, by rw [hasF_dots h1 h2]; exact (nearP_iff h1 h2).2 h3⟩
theorem dot_and {f g : List Int} (hf : VF f) (hg : VF g) {u v : Nat} : Dot (mixF andI f g) u v ↔ Dot f u v ∧ Dot g u v := by
  unfold Dot
  constructor
  · rintro ⟨h1, h2, h3⟩
    rw [mix_and hf hg h1 h2, Bool.and_eq_true] at h3
    exact ⟨⟨h1, h2, h3.1⟩, h1, h2, h3.2⟩
  · rintro ⟨⟨h1, h2, h3⟩, _, _, h4⟩
    exact ⟨h1, h2, by rw [mix_and hf hg h1 h2, h3, h4]; rfl⟩
theorem dot_or {f g : List Int} (hf : VF f) (hg : VF g) {u v : Nat} : Dot (mixF orI f g) u v ↔ Dot f u v ∨ Dot g u v := by
  unfold Dot
  constructor
  · rintro ⟨h1, h2, h3⟩
    rw [mix_or hf hg h1 h2, Bool.or_eq_true] at h3
    exact h3.imp (fun h => ⟨h1, h2, h⟩) fun h => ⟨h1, h2, h⟩
  · rintro (⟨h1, h2, h3⟩ | ⟨h1, h2, h3⟩)
    · exact ⟨h1, h2, by rw [mix_or hf hg h1 h2, h3]; rfl⟩
    · exact ⟨h1, h2, by rw [mix_or hf hg h1 h2, h3, Bool.or_true]⟩
theorem dot_less {f g : List Int} (hf : VF f) (hg : VF g) {u v : Nat} : Dot (mixF lessI f g) u v ↔ Dot f u v ∧ ¬ Dot g u v := by
  unfold Dot
  constructor
  · rintro ⟨h1, h2, h3⟩
    rw [mix_less hf hg h1 h2, Bool.and_eq_true, Bool.not_eq_true'] at h3
    exact ⟨⟨h1, h2, h3.1⟩, fun h => by rw [h3.2] at h; cases h.2.2⟩
  · rintro ⟨⟨h1, h2, h3⟩, h4⟩
    refine ⟨h1, h2, ?_⟩
    rw [mix_less hf hg h1 h2, h3]
    cases h5 : hasF g u v with
    | false => rfl
    | true => exact absurd ⟨h1, h2, h5⟩ h4
theorem dot_ext {f g : List Int} (hf : VF f) (hg : VF g) (h : ∀ u v, Dot f u v ↔ Dot g u v) : f = g :=
  hf.ext hg fun u v hu hv => by
    rw [Bool.eq_iff_iff]
    exact ⟨fun h1 => ((h u v).1 ⟨hu, hv, h1⟩).2.2, fun h1 => ((h u v).2 ⟨hu, hv, h1⟩).2.2⟩
theorem dot_zero {u v : Nat} : ¬ Dot (zr 12 0) u v := fun h => by rw [Dot, hasF] at h; have := hasF_zero h.1 h.2.1; rw [hasF] at this; rw [this] at h; cases h.2.2
theorem dot_put {f : List Int} (hf : VF f) {x y u v : Nat} (hx : x < 12) (hy : y < 12) : Dot (putF f x y) u v ↔ Dot f u v ∨ (u = x ∧ v = y) := by
  unfold Dot
  constructor
  · rintro ⟨h1, h2, h3⟩
    rw [hasF_put hf hx hy h1 h2] at h3
    simp only [Bool.or_eq_true, Bool.and_eq_true, decide_eq_true_eq] at h3
    exact h3.imp (fun h => ⟨h1, h2, h⟩) id
  · rintro (⟨h1, h2, h3⟩ | ⟨rfl, rfl⟩)
    · exact ⟨h1, h2, by rw [hasF_put hf hx hy h1 h2, h3]; rfl⟩
    · exact ⟨hx, hy, by rw [hasF_put hf hx hy hx hy]; simp⟩
/-- What hangs together. -/
inductive Conn (f : List Int) (x y : Nat) : Nat → Nat → Prop
  | base (h : Dot f x y) : Conn f x y x y
  | step {u v u' v' : Nat} (h : Conn f x y u v) (ha : Adj u' v' u v) (hd : Dot f u' v') : Conn f x y u' v'
theorem Conn.dot {f : List Int} {x y u v : Nat} (h : Conn f x y u v) : Dot f u v := by cases h <;> assumption
theorem Conn.dot0 {f : List Int} {x y u v : Nat} (h : Conn f x y u v) : Dot f x y := by
  induction h with
  | base h => exact h
  | step _ _ _ ih => exact ih
theorem Conn.trans {f : List Int} {x y u v a b : Nat} (h : Conn f x y u v) (h2 : Conn f u v a b) : Conn f x y a b := by
  induction h2 with
  | base _ => exact h
  | step _ ha hd ih => exact .step ih ha hd
theorem Conn.symm {f : List Int} {x y u v : Nat} (h : Conn f x y u v) : Conn f u v x y := by
  induction h with
  | base h => exact .base h
  | step h1 ha hd ih => exact Conn.trans (.step (.base hd) ha.symm h1.dot) ih
/-- One step of a blob's growth. -/
def bstep (f g : List Int) : List Int := mixF andI (growF g) f
theorem bstep_V {f g : List Int} (hf : VF f) : VF (bstep f g) := and_V growF_V hf
theorem bstep_iff {f g : List Int} (hf : VF f) {u v : Nat} : Dot (bstep f g) u v ↔ (Dot g u v ∨ ∃ u' v', Adj u v u' v' ∧ Dot g u' v') ∧ Dot f u v := by
  unfold bstep
  rw [dot_and growF_V hf, growF_iff]
  constructor
  · rintro ⟨⟨_, _, h⟩, h2⟩; exact ⟨h, h2⟩
  · rintro ⟨h, h2⟩; exact ⟨⟨h2.1, h2.2.1, h⟩, h2⟩
def blI (f : List Int) (x y : Nat) (k : Nat) : List Int := itN (fun _ g => bstep f g) (putF (zr 12 0) x y) k
theorem blI_zero {f : List Int} {x y : Nat} : blI f x y 0 = putF (zr 12 0) x y := itN_zero
theorem blI_succ {f : List Int} {x y k : Nat} : blI f x y (k + 1) = bstep f (blI f x y k) := itN_succ
theorem blI_V {f : List Int} (hf : VF f) {x y : Nat} (hx : x < 12) (hy : y < 12) {k : Nat} : VF (blI f x y k) := by
  cases k with
  | zero => rw [blI_zero]; exact VF.zero.put hx hy
  | succ k => rw [blI_succ]; exact bstep_V hf
theorem blI_conn {f : List Int} (hf : VF f) {x y : Nat} (hd : Dot f x y) {k u v : Nat} (h : Dot (blI f x y k) u v) : Conn f x y u v := by
  induction k generalizing u v with
  | zero =>
    rw [blI_zero, dot_put .zero hd.1 hd.2.1] at h
    rcases h with h | ⟨rfl, rfl⟩
    · exact absurd h dot_zero
    · exact .base hd
  | succ k ih =>
    rw [blI_succ, bstep_iff hf] at h
    obtain ⟨h | ⟨u', v', ha, h⟩, h2⟩ := h
    · exact ih h
    · exact .step (ih h) ha h2
theorem blI_mono {f : List Int} (hf : VF f) {x y : Nat} (hd : Dot f x y) {k u v : Nat} (h : Dot (blI f x y k) u v) : Dot (blI f x y (k + 1)) u v := by
  rw [blI_succ, bstep_iff hf]
  exact ⟨.inl h, (blI_conn hf hd h).dot⟩
theorem dotL_sub {f g : List Int} (h : ∀ u v, Dot f u v → Dot g u v) : (dotL f 144).Sublist (dotL g 144) := by
  unfold dotL
  have : List.filter (hasK f) (List.range 144) = List.filter (hasK f) (List.filter (hasK g) (List.range 144)) := by
    rw [List.filter_filter]
    apply List.filter_congr
    intro p hp
    have hp : p < 144 := by simpa using hp
    cases hk : hasK f p with
    | false => rfl
    | true =>
      have := (h (p % 12) (p / 12) ⟨by omega, by omega, hk⟩).2.2
      rw [show hasK g p = true from this]; rfl
  rw [this]
  exact List.filter_sublist
theorem dot_mem {f : List Int} {u v : Nat} (hu : u < 12) : Dot f u v ↔ v * 12 + u ∈ dotL f 144 := by
  unfold dotL
  rw [List.mem_filter, hasK_yx hu]
  simp only [List.mem_range]
  exact ⟨fun h => ⟨by have := h.2.1; omega, h.2.2⟩, fun h => ⟨hu, by omega, h.2⟩⟩
theorem dotL_lt {f g : List Int} (hf : VF f) (hg : VF g) (h : ∀ u v, Dot f u v → Dot g u v) (hne : f ≠ g) : (dotL f 144).length < (dotL g 144).length := by
  have hs := dotL_sub h
  have hle := hs.length_le
  refine Nat.lt_of_le_of_ne hle fun he => hne ?_
  have heq := hs.eq_of_length he
  refine dot_ext hf hg fun u v => ⟨h u v, fun hd => ?_⟩
  have hu := hd.1
  rw [dot_mem hu] at hd
  rw [dot_mem hu, heq]
  exact hd
/-- The blob of a dot. -/
def blobF (f : List Int) (x y : Nat) : List Int := blI f x y 144
theorem blI_count {f : List Int} (hf : VF f) {x y : Nat} (hd : Dot f x y) {k : Nat} (h : ∀ j, j < k → bstep f (blI f x y j) ≠ blI f x y j) : k + 1 ≤ (dotL (blI f x y k) 144).length := by
  induction k with
  | zero =>
    have : y * 12 + x ∈ dotL (blI f x y 0) 144 := by
      rw [← dot_mem hd.1, blI_zero, dot_put .zero hd.1 hd.2.1]
      exact .inr ⟨rfl, rfl⟩
    exact List.length_pos_of_mem this
  | succ k ih =>
    have := ih fun j hj => h j (by omega)
    have hne := h k (by omega)
    have hlt := dotL_lt (blI_V hf hd.1 hd.2.1 (k := k)) (blI_V hf hd.1 hd.2.1 (k := k + 1)) (fun u v => blI_mono hf hd) (by rw [blI_succ]; exact fun e => hne e.symm)
    omega
theorem blI_stable {f : List Int} {x y k : Nat} (h : bstep f (blI f x y k) = blI f x y k) {j : Nat} (hj : k ≤ j) : blI f x y j = blI f x y k := by
  induction hj with
  | refl => rfl
  | step _ ih => rw [blI_succ, ih, h]
theorem blobF_fix {f : List Int} (hf : VF f) {x y : Nat} (hd : Dot f x y) : bstep f (blobF f x y) = blobF f x y := by
  by_cases h : ∀ j, j < 144 → bstep f (blI f x y j) ≠ blI f x y j
  · have h1 := blI_count hf hd h
    have h2 := dotL_len (f := blI f x y 144) (k := 144)
    omega
  · have h : ∃ j, j < 144 ∧ bstep f (blI f x y j) = blI f x y j := Classical.byContradiction fun hn => h fun j hj he => hn ⟨j, hj, he⟩
    obtain ⟨j, hj, he⟩ := h
    have e := blI_stable he (show j ≤ 144 by omega)
    unfold blobF
    rw [e, he]
theorem blobF_at {f : List Int} {x y k : Nat} (h : bstep f (blI f x y k) = blI f x y k) (hk : k ≤ 144) : blI f x y k = blobF f x y := (blI_stable h hk).symm
theorem blobF_V {f : List Int} (hf : VF f) {x y : Nat} (hd : Dot f x y) : VF (blobF f x y) := blI_V hf hd.1 hd.2.1
theorem blobF_iff {f : List Int} (hf : VF f) {x y : Nat} (hd : Dot f x y) {u v : Nat} : Dot (blobF f x y) u v ↔ Conn f x y u v := by
  refine ⟨blI_conn hf hd, fun h => ?_⟩
  induction h with
  | base h =>
    have h0 : Dot (blI f x y 0) x y := by
      rw [blI_zero, dot_put .zero hd.1 hd.2.1]
      exact .inr ⟨rfl, rfl⟩
    have : ∀ k, Dot (blI f x y k) x y := fun k => by
      induction k with
      | zero => exact h0
      | succ k ih => exact blI_mono hf hd ih
    exact this 144
  | @step u v u' v' h1 ha hd' ih =>
    rw [← blobF_fix hf hd, bstep_iff hf]
    exact ⟨.inr ⟨u, v, ha, ih⟩, hd'⟩
theorem blobF_conn {f : List Int} (hf : VF f) {x y u v : Nat} (h : Conn f x y u v) : blobF f u v = blobF f x y :=
  dot_ext (blobF_V hf h.dot) (blobF_V hf h.dot0) fun a b => by
    rw [blobF_iff hf h.dot, blobF_iff hf h.dot0]
    exact ⟨fun g => h.trans g, fun g => h.symm.trans g⟩
/-- A set of dots beside no others. -/
def ClosedF (f U : List Int) : Prop := (∀ u v, Dot U u v → Dot f u v) ∧ ∀ u v u' v', Dot U u v → Adj u' v' u v → Dot f u' v' → Dot U u' v'
theorem blobF_closed {f : List Int} (hf : VF f) {x y : Nat} (hd : Dot f x y) : ClosedF f (blobF f x y) :=
  ⟨fun u v h => ((blobF_iff hf hd).1 h).dot, fun u v u' v' h ha h' => (blobF_iff hf hd).2 (.step ((blobF_iff hf hd).1 h) ha h')⟩
theorem less_conn {f U : List Int} (hf : VF f) (hU : VF U) (hc : ClosedF f U) {x y u v : Nat} (hd : Dot (mixF lessI f U) x y) : Conn (mixF lessI f U) x y u v ↔ Conn f x y u v := by
  constructor
  · intro h
    induction h with
    | base h => exact .base ((dot_less hf hU).1 h).1
    | step _ ha h' ih => exact .step ih ha ((dot_less hf hU).1 h').1
  · intro h
    induction h with
    | base h => exact .base hd
    | step h1 ha h' ih =>
      refine .step ih ha ((dot_less hf hU).2 ⟨h', fun hu => ?_⟩)
      exact ((dot_less hf hU).1 ih.dot).2 (hc.2 _ _ _ _ hu ha.symm h1.dot)
theorem blobF_less {f U : List Int} (hf : VF f) (hU : VF U) (hc : ClosedF f U) {x y : Nat} (hd : Dot (mixF lessI f U) x y) : blobF (mixF lessI f U) x y = blobF f x y := by
  have hd' := ((dot_less hf hU).1 hd).1
  have V := less_V hf hU
  exact dot_ext (blobF_V V hd) (blobF_V hf hd') fun u v => by rw [blobF_iff V hd, blobF_iff hf hd', less_conn hf hU hc hd]
/-- All blobs: the blobs found, what they have together, and what is left. -/
def bbS (f : List Int) (s : List (List Int) × List Int) : List (List Int) × List Int :=
  if (dotL (mixF lessI f s.2) 144).length = 0 then s else
    (s.1 ++ [blobF f (at0 (dotL (mixF lessI f s.2) 144) 0 % 12) (at0 (dotL (mixF lessI f s.2) 144) 0 / 12)], mixF orI s.2 (blobF f (at0 (dotL (mixF lessI f s.2) 144) 0 % 12) (at0 (dotL (mixF lessI f s.2) 144) 0 / 12)))
def bbK (f : List Int) (k : Nat) : List (List Int) × List Int := itN (fun _ s => bbS f s) ([], zr 12 0) k
theorem bbK_zero {f : List Int} : bbK f 0 = ([], zr 12 0) := itN_zero
theorem bbK_succ {f : List Int} {k : Nat} : bbK f (k + 1) = bbS f (bbK f k) := itN_succ
def lfF (f : List Int) (k : Nat) : List Int := mixF lessI f (bbK f k).2
def bbL (f : List Int) : List (List Int) := (bbK f 144).1
def unF (l : List (List Int)) (k : Nat) : List Int := itN (fun i u => mixF orI u (fr l i)) (zr 12 0) k
theorem unF_zero {l : List (List Int)} : unF l 0 = zr 12 0 := itN_zero
theorem unF_succ {l : List (List Int)} {k : Nat} : unF l (k + 1) = mixF orI (unF l k) (fr l k) := itN_succ
theorem unF_pre {l m : List (List Int)} {k : Nat} (hk : k ≤ l.length) : unF (l ++ m) k = unF l k := by
  induction k with
  | zero => rw [unF_zero, unF_zero]
  | succ k ih => rw [unF_succ, unF_succ, ih (by omega), fr_app, if_pos (by omega)]
structure BbI (f : List Int) (s : List (List Int) × List Int) : Prop where
  V : VF s.2
  cl : ClosedF f s.2
  un : unF s.1 s.1.length = s.2
  bl : ∀ i, i < s.1.length → ∃ x y, Dot f x y ∧ fr s.1 i = blobF f x y
  dis : ∀ i, i < s.1.length → ∀ u v, Dot (fr s.1 i) u v → ¬ Dot (unF s.1 i) u v
theorem bbS_I {f : List Int} (hf : VF f) {s : List (List Int) × List Int} (I : BbI f s) : BbI f (bbS f s) := by
  unfold bbS
  split
  · exact I
  · rename_i hne
    obtain ⟨V, cl, un, bl, dis⟩ := I
    have V2 := less_V hf V
    obtain ⟨p, hp⟩ : ∃ p, p = at0 (dotL (mixF lessI f s.2) 144) 0 := ⟨_, rfl⟩
    have hm : p ∈ dotL (mixF lessI f s.2) 144 := by rw [hp]; exact at0_mem (by omega)
    rw [← hp]
    have h144 : p < 144 := by simpa using (List.mem_filter.1 hm).1
    have hd : Dot (mixF lessI f s.2) (p % 12) (p / 12) := by
      rw [dot_mem (by omega), show p / 12 * 12 + p % 12 = p by omega]; exact hm
    obtain ⟨hdf, hdn⟩ := (dot_less hf V).1 hd
    have VB := blobF_V hf hdf
    have cB := blobF_closed hf hdf
    refine ⟨or_V V VB, ⟨fun u v h => ?_, fun u v u' v' h ha h' => ?_⟩, ?_, fun i hi => ?_, fun i hi u v h => ?_⟩
    · rcases (dot_or V VB).1 h with h | h
      · exact cl.1 u v h
      · exact cB.1 u v h
    · rcases (dot_or V VB).1 h with h | h
      · exact (dot_or V VB).2 (.inl (cl.2 u v u' v' h ha h'))
      · exact (dot_or V VB).2 (.inr (cB.2 u v u' v' h ha h'))
    · simp only [List.length_append, List.length_singleton]
      rw [unF_succ, unF_pre (Nat.le_refl _), un, fr_snoc (by omega), if_neg (by omega)]
    · have hi : i < s.1.length + 1 := by simpa using hi
      simp only [fr_snoc hi]
      by_cases hi2 : i < s.1.length
      · rw [if_pos hi2]; exact bl i hi2
      · rw [if_neg hi2]; exact ⟨_, _, hdf, rfl⟩
    · have hi : i < s.1.length + 1 := by simpa using hi
      simp only [fr_snoc hi] at h
      rw [unF_pre (by omega)]
      by_cases hi2 : i < s.1.length
      · rw [if_pos hi2] at h; exact dis i hi2 u v h
      · rw [if_neg hi2] at h
        have : i = s.1.length := by omega
        rw [this, un]
        intro hu
        have hc := (blobF_iff hf hdf).1 h
        have := (less_conn hf V cl hd).2 hc
        exact ((dot_less hf V).1 this.dot).2 hu
theorem bbK_I {f : List Int} (hf : VF f) {k : Nat} : BbI f (bbK f k) := by
  induction k with
  | zero =>
    rw [bbK_zero]
    exact ⟨.zero, ⟨fun u v h => absurd h dot_zero, fun u v u' v' h => absurd h dot_zero⟩, unF_zero, fun i hi => by simp at hi, fun i hi => by simp at hi⟩
  | succ k ih => rw [bbK_succ]; exact bbS_I hf ih
theorem call450 {pu : Bool} {H : Heap} {f : List Int} {x y : Nat} (hf : VF f) (hd : Dot f x y) : Call tab pu 450 [iv .u16 f, .int .i64 x, .int .i64 y] H = some (iv .u16 (blobF f x y), H) := by
  refine Call_wp t450 (.inr rfl) rfl ?_
  have hlf := hf.W.len
  have c0 := call346 (pu := true) (H := H) (l := zr 12 0) (x := x) (y := y) (by simp) hd.1 hd.2.1
  have V0 := blI_V hf hd.1 hd.2.1 (k := 0)
  rw [blI_zero] at V0
  have hl0 := V0.W.len
  have s0 := stc_zr (k := .u16) (n := 12) (l := putF (zr 12 0) x y) hl0
  simp [c450, k450, hlf, zs_cs, agg_cs, fill0, c0, hl0, s0]
  refine WK_loop (fun i e G => H = G ∧ e 3 = iv .u16 f ∧ e 6 = iv .u16 (zr 12 0) ∧ e 7 = iv .u16 (blI f x y i) ∧ ∀ j, j < i → bstep f (blI f x y j) ≠ blI f x y j) 144 ?_ (Nat.zero_le _) ⟨rfl, by simp, by simp, by simp [blI_zero], fun j hj => by omega⟩
  rintro i e _ _ hi ⟨rfl, h3, h6, h7, hne⟩
  have V := blI_V hf hd.1 hd.2.1 (k := i)
  have hl := V.W.len
  have c1 := call452 (pu := true) (H := H) V
  have c2 := call348 (pu := true) (H := H) (growF_V (f := blI f x y i)).W.len hlf
  have eb : mixF andI (growF (blI f x y i)) f = bstep f (blI f x y i) := rfl
  rw [eb] at c2
  have Vb := bstep_V hf (g := blI f x y i)
  have hlb := Vb.W.len
  have s1 := stc_zr (k := .u16) (n := 12) (l := bstep f (blI f x y i)) hlb
  have s2 := stc_zr (k := .u16) (n := 12) (l := blI f x y i) hl
  have q1 := eqV_iv (k := .u16) hlb hl
  by_cases he : bstep f (blI f x y i) = blI f x y i
  · rw [decide_eq_true he] at q1
    have e2 := blobF_at he hi
    rw [e2] at h7 s2 c1 c2 s1 q1 hl hlb
    simp [b450_1, h3, h6, h7, hl, c1, c2, hlb, hlf, s1, s2, q1, zs_cs, agg_cs]
  · rw [decide_eq_false he] at q1
    have s3 : stc (iv .u16 (blI f x y i)) 0 (cs .u16 (bstep f (blI f x y i))) = some (iv .u16 (bstep f (blI f x y i))) := stc_all (by rw [hl, hlb])
    have hcnt := blI_count hf hd (k := i + 1) fun j hj => by
      by_cases hj2 : j < i
      · exact hne j hj2
      · rw [show j = i by omega]; exact he
    have h144 := dotL_len (f := blI f x y (i + 1)) (k := 144)
    simp [b450_1, h3, h6, h7, hl, c1, c2, hlb, hlf, s1, q1, zs_cs, agg_cs, s3]
    refine ⟨by omega, by rw [blI_succ], fun j hj => ?_⟩
    by_cases hj2 : j < i
    · exact hne j hj2
    · rw [show j = i by omega]; exact he
theorem call252 {pu : Bool} {H : Heap} {f : List Int} {x y : Nat} (hf : VF f) (hx : x < 12) (hy : y < 12) :
    Call tab pu 252 [iv .u16 f, .int .i64 x, .int .i64 y] H = some (tup [iv .u16 (if hasF f x y = true then blobF f x y else zr 12 0), .int .i64 (if hasF f x y = true then 0 else 6)], H) := by
  refine Call_wp t252 (.inr rfl) rfl ?_
  have z12 := stc_zr (k := .u16) (n := 12) (l := zr 12 0) (by simp)
  cases hd : hasF f x y with
  | false => simp [c252, k252, hf.W.len, call448 hf hx hy, call395 hf.W hx hy, hd, zs_cs, agg_cs, fill0, z12]
  | true =>
    have D : Dot f x y := ⟨hx, hy, hd⟩
    have hl := (blobF_V hf D).W.len
    have s := stc_zr (k := .u16) (n := 12) (l := blobF f x y) hl
    simp [c252, k252, hf.W.len, call448 hf hx hy, call395 hf.W hx hy, hd, zs_cs, agg_cs, call450 hf D, hl, s]
/-- One blob more, or all found. -/
theorem bb_more {f : List Int} (hf : VF f) {k : Nat} (h : (dotL (lfF f k) 144).length ≠ 0) :
    ∃ p, p = at0 (dotL (lfF f k) 144) 0 ∧ Dot (lfF f k) (p % 12) (p / 12) ∧ Dot f (p % 12) (p / 12) ∧ VF (lfF f k) ∧ blobF (lfF f k) (p % 12) (p / 12) = blobF f (p % 12) (p / 12) ∧
      (bbK f (k + 1)).1 = (bbK f k).1 ++ [blobF f (p % 12) (p / 12)] ∧ lfF f (k + 1) = mixF lessI (lfF f k) (blobF f (p % 12) (p / 12)) ∧ (dotL (lfF f (k + 1)) 144).length < (dotL (lfF f k) 144).length := by
  have I := bbK_I hf (k := k)
  have V := less_V hf I.V
  have hm := at0_mem (l := dotL (lfF f k) 144) (i := 0) (by omega)
  obtain ⟨p, hp⟩ : ∃ p, p = at0 (dotL (lfF f k) 144) 0 := ⟨_, rfl⟩
  rw [← hp] at hm
  have h144 : p < 144 := by simpa using (List.mem_filter.1 hm).1
  have hd : Dot (lfF f k) (p % 12) (p / 12) := by
    rw [dot_mem (by omega), show p / 12 * 12 + p % 12 = p by omega]; exact hm
  have hdf := ((dot_less hf I.V).1 hd).1
  have VB := blobF_V hf hdf
  have e1 : bbK f (k + 1) = ((bbK f k).1 ++ [blobF f (p % 12) (p / 12)], mixF orI (bbK f k).2 (blobF f (p % 12) (p / 12))) := by
    rw [bbK_succ, bbS]
    rw [if_neg (by exact h)]
    show (_ ++ [blobF f (at0 (dotL (lfF f k) 144) 0 % 12) (at0 (dotL (lfF f k) 144) 0 / 12)], mixF orI _ (blobF f (at0 (dotL (lfF f k) 144) 0 % 12) (at0 (dotL (lfF f k) 144) 0 / 12))) = _
    rw [← hp]
  have e2 : lfF f (k + 1) = mixF lessI (lfF f k) (blobF f (p % 12) (p / 12)) := by
    unfold lfF
    rw [e1]
    refine dot_ext (less_V hf (or_V I.V VB)) (less_V V VB) fun u v => ?_
    rw [dot_less hf (or_V I.V VB), dot_or I.V VB, dot_less V VB, dot_less hf I.V]
    constructor
    · rintro ⟨a, b⟩; exact ⟨⟨a, fun c => b (.inl c)⟩, fun c => b (.inr c)⟩
    · rintro ⟨⟨a, b⟩, c⟩; exact ⟨a, fun d => d.elim b c⟩
  refine ⟨p, hp, hd, hdf, V, blobF_less hf I.V I.cl hd, by rw [e1], e2, ?_⟩
  rw [e2]
  refine dotL_lt (less_V V VB) V (fun u v h => ((dot_less V VB).1 h).1) fun he => ?_
  have : ¬ Dot (mixF lessI (lfF f k) (blobF f (p % 12) (p / 12))) (p % 12) (p / 12) := fun h => ((dot_less V VB).1 h).2 ((blobF_iff hf hdf).2 (.base hdf))
  rw [he] at this
  exact this hd
theorem bb_stop {f : List Int} {k : Nat} (h : (dotL (lfF f k) 144).length = 0) {j : Nat} (hj : k ≤ j) : bbK f j = bbK f k := by
  induction hj with
  | refl => rfl
  | step _ ih =>
    rw [bbK_succ, ih, bbS]
    rw [if_pos (by exact h)]
theorem bb_count {f : List Int} (hf : VF f) {k : Nat} (h : ∀ j, j < k → (dotL (lfF f j) 144).length ≠ 0) : (bbK f k).1.length = k ∧ (dotL (lfF f k) 144).length + k ≤ 144 := by
  induction k with
  | zero =>
    rw [bbK_zero]
    have := dotL_len (f := lfF f 0) (k := 144)
    exact ⟨rfl, by omega⟩
  | succ k ih =>
    obtain ⟨h1, h2⟩ := ih fun j hj => h j (by omega)
    obtain ⟨p, _, _, _, _, _, e1, _, e3⟩ := bb_more hf (h k (by omega))
    exact ⟨by rw [e1]; simp [h1], by omega⟩
theorem bbL_left {f : List Int} (hf : VF f) : (dotL (lfF f 144) 144).length = 0 := by
  by_cases h : ∀ j, j < 144 → (dotL (lfF f j) 144).length ≠ 0
  · have := (bb_count hf h).2; omega
  · have h : ∃ j, j < 144 ∧ (dotL (lfF f j) 144).length = 0 := Classical.byContradiction fun hn => h fun j hj he => hn ⟨j, hj, he⟩
    obtain ⟨j, hj, he⟩ := h
    unfold lfF at he ⊢
    rw [bb_stop he (by omega)]
    exact he
theorem bbL_at {f : List Int} {k : Nat} (h : (dotL (lfF f k) 144).length = 0) (hk : k ≤ 144) : (bbK f k).1 = bbL f := by unfold bbL; rw [bb_stop h hk]
theorem bbL_len {f : List Int} (hf : VF f) {k : Nat} (hk : k ≤ 144) (hne : ∀ j, j < k → (dotL (lfF f j) 144).length ≠ 0) (h : (dotL (lfF f k) 144).length = 0) : (bbL f).length = k := by
  rw [← bbL_at h hk]; exact (bb_count hf hne).1
theorem dotC_at {f : List Int} {j : Nat} (hj : j < (dotL f 144).length) : elem (dotC f 144) 2 j = mvC (dotM (at0 (dotL f 144) j)) := by
  unfold dotC
  rw [mvsC_elem (by simpa using hj), mv_map hj]
theorem dot_bound {f : List Int} {j : Nat} (hj : j < (dotL f 144).length) : at0 (dotL f 144) j < 144 := by
  have := (List.mem_filter.1 (show at0 (dotL f 144) j ∈ (List.range 144).filter (hasK f) from at0_mem hj)).1
  simpa using this
theorem dotC_len {f : List Int} : (dotC f 144).length = (dotL f 144).length * 2 := by rw [dotC, mvsC_length]; simp
theorem call245 {pu : Bool} {H : Heap} {f : List Int} (hf : VF f) : Call tab pu 245 [iv .u16 f] H = some (tup [slc H.length 0 0 (bbL f).length (bbL f).length, .int .i64 0], H ++ [⟨bkC (bbL f), 12, 0, false⟩]) := by
  refine Call_wp t245 (.inr rfl) rfl ?_
  have c0 := call234 (pu := true) (H := H) hf.W.len
  rw [hf.ok] at c0
  have hf0 : fill (rep 0 (cs .u16 (zr 12 0))) [] = some [] := rfl
  obtain ⟨G1, hG1⟩ : ∃ G1, G1 = H ++ [(⟨[], 12, 0, false⟩ : Blk)] := ⟨_, rfl⟩
  have z : Gr H G1 (slc H.length 0 0 0 0) 12 0 (bkC []) := by rw [hG1]; exact Gr.new .refl
  have e0 : lfF f 0 = f := by
    unfold lfF
    rw [bbK_zero]
    exact dot_ext (less_V hf .zero) hf fun u v => by rw [dot_less hf .zero]; exact ⟨fun h => h.1, fun h => ⟨h, dot_zero⟩⟩
  simp [c245, k245, hf.W.len, zs_cs, agg_cs, c0, hf0, ← hG1]
  refine WK_loop (fun i e G => e 1 = iv .u16 (lfF f i) ∧ (∀ j, j < i → (dotL (lfF f j) 144).length ≠ 0) ∧ ∃ g, e 4 = g ∧ Gr H G g 12 (bbK f i).1.length (bkC (bbK f i).1)) 144 ?_ (Nat.zero_le _)
    ⟨by simp [e0], fun j hj => by omega, _, by simp; rfl, by rw [bbK_zero]; exact z⟩
  rintro i e G _ hi ⟨h1, hne, g, h4, hg⟩
  have I := bbK_I hf (k := i)
  have V := less_V hf I.V
  have V' : VF (lfF f i) := V
  have hl := V'.W.len
  have c1 := call393 (pu := true) (H := G) V'.W V'.ok
  have hcnt := (bb_count hf hne).1
  by_cases h0 : (dotL (lfF f i) 144).length = 0
  · have hc0 : cntF (lfF f i) = 0 := by unfold cntF; omega
    have hn : ¬ (0 : Int) < cntF (lfF f i) := by omega
    have eL := bbL_at h0 hi
    rw [eL] at hg
    have hfin := hg.fin2 bkC_flat (c := 0)
    simp [b245_1, h1, h4, hl, c1, hn, hc0, hfin]
  · obtain ⟨p, hp, hd, hdf, _, eb, e1, e2, e3⟩ := bb_more hf h0
    have hc0 : (0 : Int) < cntF (lfF f i) := by unfold cntF; omega
    have c2 := call449 (pu := true) (H := G) V'.W
    obtain ⟨G2, hG2⟩ : ∃ G2, G2 = G ++ [(⟨dotC (lfF f i) 144, 2, 0, false⟩ : Blk)] := ⟨_, rfl⟩
    rw [← hG2] at c2
    have p2 : Pre G G2 := by rw [hG2]; exact Pre.one
    have hs : SlR G2 (slc G.length 0 0 (dotL (lfF f i) 144).length (dotL (lfF f i) 144).length) 2 (dotL (lfF f i) 144).length (dotC (lfF f i) 144) := by
      rw [hG2]; exact (own_new (H := G) (esz := 2) (n := (dotL (lfF f i) 144).length) (vs := dotC (lfF f i) 144) dotC_len).sl
    obtain ⟨q, o, ver, ha, hr⟩ := hs.get1 (i := 0) (by omega)
    rw [dotC_at (by omega), ← hp] at hr
    have ha' : idxAV 2 (slc G.length 0 0 (dotL (lfF f i) 144).length (dotL (lfF f i) 144).length) (.int .i64 0) = some (adr q o ver) := ha
    have w1 : IntKind.wrap .i64 ((p % 12 : Nat) : Int) = ((p % 12 : Nat) : Int) := wrap64 (by omega)
    have hp144 : p < 144 := by rw [hp]; exact dot_bound (by omega)
    have w2 : IntKind.wrap .i64 ((p / 12 : Nat) : Int) = ((p / 12 : Nat) : Int) := wrap64 (by omega)
    have c3 := call450 (pu := true) (H := G2) V' hd
    rw [eb] at c3
    have VB := blobF_V hf hdf
    have hlB := VB.W.len
    have sB := stc_zr (k := .u16) (n := 12) (l := blobF f (p % 12) (p / 12)) hlB
    have hg2 := Gr.app (L := [⟨dotC (lfF f i) 144, 2, 0, false⟩]) hg
    rw [← hG2] at hg2
    obtain ⟨g', G3, c4, hg3⟩ := hg2.push (c := cs .u16 (blobF f (p % 12) (p / 12))) (bytes := 24) (by simp [hlB]) (room24 (by omega)) (wb := false)
    rw [bkC_push, ← e1] at hg3
    have hlen : (bbK f (i + 1)).1.length = (bbK f i).1.length + 1 := by rw [e1]; simp
    rw [← hlen] at hg3
    have c5 := call350 (pu := true) (H := G3) hl hlB
    rw [← e2] at c5
    have I2 := bbK_I hf (k := i + 1)
    have V2 : VF (lfF f (i + 1)) := less_V hf I2.V
    have hl2 := V2.W.len
    have s5 : stc (iv .u16 (lfF f i)) 0 (cs .u16 (lfF f (i + 1))) = some (iv .u16 (lfF f (i + 1))) := stc_all (by rw [hl, hl2])
    have hm : (mvC (dotM p)).length = 2 := rfl
    have ld1 : ldc 1 false (agg (mvC (dotM p))) 0 = some (.int .i8 ((p % 12 : Nat) : Int)) := ldM1
    have ld2 : ldc 1 false (agg (mvC (dotM p))) 1 = some (.int .i8 ((p / 12 : Nat) : Int)) := ldM2
    have h144 := (bb_count hf hne).2
    simp [b245_1, h1, h4, hl, c1, hc0, c2, ha', hr, hm, stM, ld1, ld2, w1, w2, c3, zs_cs, agg_cs, hlB, sB, fillF hlB, c4, wbOf, c5, hl2, s5, -Int.natCast_emod, -Int.natCast_ediv]
    refine ⟨by omega, fun j hj => ?_, hg3⟩
    by_cases hj2 : j < i
    · simpa using hne j hj2
    · rw [show j = i by omega]; simpa using h0
theorem call548 {pu : Bool} {H : Heap} {q off ver x y : Nat} {f : List Int} (hf : VF f) (hr : rd H q off ver 12 = some (cs .u16 f)) (hd : Dot f x y) :
    Call tab pu 548 [adr q off ver, .int .i64 x, .int .i64 y] H = some (iv .u16 (blobF f x y), H) := by
  refine Call_wp t548 (.inr rfl) rfl ?_
  have hlf := hf.W.len
  obtain ⟨G0, hG0⟩ : ∃ G0, G0 = H ++ [(⟨cs .u16 (zr 12 0), 1, 0, false⟩ : Blk)] := ⟨_, rfl⟩
  have p0 : Pre H G0 := by rw [hG0]; exact Pre.one
  have b0 : G0[H.length]? = some ⟨cs .u16 (zr 12 0), 1, 0, false⟩ := by rw [hG0]; exact get_last
  have w0 : wr H.length false G0 H.length 0 0 (cs .u16 (zr 12 0)) = some G0 := by
    rw [hG0]
    exact wr_last (b := ⟨cs .u16 (zr 12 0), 1, 0, false⟩) rfl rfl (Nat.le_refl _) (by simp)
  have c0 := call305 (x := x) (y := y) b0 (by simp) hd.1 hd.2.1
  obtain ⟨G1, hG1⟩ : ∃ G1, G1 = G0.set H.length ⟨cs .u16 (putF (zr 12 0) x y), 1, 0, false⟩ := ⟨_, rfl⟩
  rw [← hG1] at c0
  have p1 : Pre H G1 := by rw [hG1]; exact p0.set (Nat.le_refl _)
  have el : ∀ v, elder H.length false G0 (v, G1) = some (v, G1) := fun v => elder_same (by rw [p1.take, p0.take])
  have b1 : G1[H.length]? = some ⟨cs .u16 (blI f x y 0), 1, 0, false⟩ := by rw [hG1, blI_zero]; exact get_set b0
  simp [c548, k548, zs_cs, agg_cs, fill0, ← hG0, w0, c0, el, wbOf]
  refine WK_loop (fun i e G => e 0 = adr q off ver ∧ e 6 = iv .u16 (zr 12 0) ∧ e 7 = adr H.length 0 0 ∧ Pre H G ∧ G[H.length]? = some ⟨cs .u16 (blI f x y i), 1, 0, false⟩ ∧ ∀ j, j < i → bstep f (blI f x y j) ≠ blI f x y j) 144 ?_ (Nat.zero_le _)
    ⟨by simp, by simp, by simp, p1, b1, fun j hj => by omega⟩
  rintro i e G _ hi ⟨h0, h6, h7, pG, bG, hne⟩
  have V := blI_V hf hd.1 hd.2.1 (k := i)
  have hl := V.W.len
  have rG : rd G H.length 0 0 12 = some (cs .u16 (blI f x y i)) := by rw [rd_at bG rfl (by simp [hl])]; simp [take_all, hl]
  have c1 := call453 (pu := true) V rG
  have Vg := growF_V (f := blI f x y i)
  have hlg := Vg.W.len
  have s1 := stc_zr (k := .u16) (n := 12) (l := growF (blI f x y i)) hlg
  have rf := pG.rd hr
  simp [b548_2, h7, c1, zs_cs, agg_cs, hlg, s1]
  refine WP_forH 9 12 12 rfl (by omega) (fun k e => e 0 = adr q off ver ∧ e 6 = iv .u16 (zr 12 0) ∧ e 7 = adr H.length 0 0 ∧ e 8 = iv .u16 (mixU andI (growF (blI f x y i)) f k)) ?_ ?_ (by simp) ⟨by simp [h0], by simp [h6], by simp [h7], by simp [mixU_zero hlg]⟩
  · rintro k e hk hkk e9' h9 ⟨h0, h6, h7, h8⟩
    have hlU := mixU_length (op := andI) (a := growF (blI f x y i)) (b := f) (i := k)
    have hn := mixU_nth (op := andI) (a := growF (blI f x y i)) (b := f) hk
    have e9 := stc_at (k := .u16) (l := mixU andI (growF (blI f x y i)) f k) (by omega) (mixU_set (op := andI) (a := growF (blI f x y i)) (b := f) hk)
    simp (disch := omega) [b548_1, h9, hkk, h0, h6, h7, h8, hk, hlU, rd_one rf hk, andI_eq, hn, e9, e9']
  · rintro e h9 ⟨h0, h6, h7, h8⟩
    rw [mixU_all] at h8
    have eb : mixF andI (growF (blI f x y i)) f = bstep f (blI f x y i) := rfl
    rw [eb] at h8
    have Vb := bstep_V hf (g := blI f x y i)
    have hlb := Vb.W.len
    have q1 := eqV_iv (k := .u16) hlb hl
    by_cases he : bstep f (blI f x y i) = blI f x y i
    · rw [decide_eq_true he] at q1
      have e2 := blobF_at he hi
      rw [e2] at rG q1 h8 he hl
      rw [he] at h8 q1
      have s2 := stc_zr (k := .u16) (n := 12) (l := blobF f x y) hl
      simp [b548_1, h9, h0, h6, h7, h8, hl, rG, q1, agg_cs, s2, pG.take]
    · rw [decide_eq_false he] at q1
      have hw : wr H.length false G H.length 0 0 (cs .u16 (bstep f (blI f x y i))) = some (G.set H.length ⟨cs .u16 (bstep f (blI f x y i)), 1, 0, false⟩) := by
        rw [wr_at bG rfl rfl (by simp [may]) (by simp [hl, hlb])]
        congr 2
        simp [splice, hl, hlb]
      have hcnt := blI_count hf hd (k := i + 1) fun j hj => by
        by_cases hj2 : j < i
        · exact hne j hj2
        · rw [show j = i by omega]; exact he
      have h144 := dotL_len (f := blI f x y (i + 1)) (k := 144)
      simp [b548_1, h9, h0, h6, h7, h8, hlb, rG, q1, agg_cs, hw, wbOf]
      refine ⟨by omega, pG.set (Nat.le_refl _), by rw [blI_succ]; exact get_set bG, fun j hj => ?_⟩
      by_cases hj2 : j < i
      · exact hne j hj2
      · rw [show j = i by omega]; exact he
theorem lfF_zero {f : List Int} (hf : VF f) : lfF f 0 = f := by
  unfold lfF
  rw [bbK_zero]
  exact dot_ext (less_V hf .zero) hf fun u v => by rw [dot_less hf .zero]; exact ⟨fun h => h.1, fun h => ⟨h, dot_zero⟩⟩
theorem rd12 {K : Heap} {q : Nat} {u : List Int} (hb : K[q]? = some ⟨cs .u16 u, 1, 0, false⟩) (hu : u.length = 12) : rd K q 0 0 12 = some (cs .u16 u) := by
  rw [rd_at hb rfl (by simp [hu])]; simp [take_all, hu]
theorem wr12 {K : Heap} {n0 q : Nat} {wb : Bool} {u v : List Int} (hb : K[q]? = some ⟨cs .u16 u, 1, 0, false⟩) (hq : n0 ≤ q) (hu : u.length = 12) (hv : v.length = 12) : wr n0 wb K q 0 0 (cs .u16 v) = some (K.set q ⟨cs .u16 v, 1, 0, false⟩) := by
  rw [wr_at hb rfl rfl (by simp [may, hq]) (by simp [hu, hv])]
  congr 2
  simp [splice, hu, hv]
theorem call451 {pu : Bool} {H : Heap} {q off ver : Nat} {f : List Int} (hf : VF f) (hr : rd H q off ver 12 = some (cs .u16 f)) : Call tab pu 451 [adr q off ver] H = some (slc H.length 0 0 (bbL f).length (bbL f).length, H ++ [⟨bkC (bbL f), 12, 0, false⟩]) := by
  refine Call_wp t451 (.inr rfl) rfl ?_
  have hlf := hf.W.len
  have hf0 : fill (rep 0 (cs .u16 (zr 12 0))) [] = some [] := rfl
  obtain ⟨G0, hG0⟩ : ∃ G0, G0 = H ++ [(⟨[], 12, 0, false⟩ : Blk)] := ⟨_, rfl⟩
  have p0 : Pre H G0 := by rw [hG0]; exact Pre.one
  have l0 : G0.length = H.length + 1 := by rw [hG0]; simp
  have rf0 := p0.rd hr
  obtain ⟨G1, hG1⟩ : ∃ G1, G1 = G0 ++ [(⟨cs .u16 (zr 12 0), 1, 0, false⟩ : Blk)] := ⟨_, rfl⟩
  have b1 : G1[H.length + 1]? = some ⟨cs .u16 (zr 12 0), 1, 0, false⟩ := by rw [hG1, ← l0]; exact get_last
  obtain ⟨G2, hG2⟩ : ∃ G2, G2 = G1.set (H.length + 1) ⟨cs .u16 f, 1, 0, false⟩ := ⟨_, rfl⟩
  have w1 := wr12 (n0 := H.length) (wb := false) b1 (by omega) (by simp) hlf
  rw [← hG2] at w1
  have p1 : Pre G0 G1 := by rw [hG1]; exact Pre.one
  have p2 : Pre H G2 := by rw [hG2]; exact (p0.trans p1).set (by omega)
  have b2 : G2[H.length + 1]? = some ⟨cs .u16 (lfF f 0), 1, 0, false⟩ := by rw [hG2, lfF_zero hf]; exact get_set b1
  have z : GrB H G2 H.length (slc H.length 0 0 0 0) 12 0 (bkC []) := GrB.mk' (by rw [hG2, List.getElem?_set_ne (by omega), p1.get (by omega), hG0]; exact get_last) (Nat.le_refl _) p2
  have rf1 := p1.rd rf0
  simp [c451, k451, zs_cs, agg_cs, hf0, ← hG0, ← hG1, l0, rf0, rf1, hlf, w1, wbOf]
  refine WK_loop (fun i e G => e 0 = adr q off ver ∧ e 4 = adr (H.length + 1) 0 0 ∧ (∀ j, j < i → (dotL (lfF f j) 144).length ≠ 0) ∧ G[H.length + 1]? = some ⟨cs .u16 (lfF f i), 1, 0, false⟩ ∧ ∃ g, e 3 = g ∧ GrB H G H.length g 12 (bbK f i).1.length (bkC (bbK f i).1)) 144 ?_ (Nat.zero_le _)
    ⟨by simp, by simp, fun j hj => by omega, b2, _, by simp; rfl, by rw [bbK_zero]; exact z⟩
  rintro i e G _ hi ⟨h0, h4, hne, bL, g, h3, hg⟩
  have I := bbK_I hf (k := i)
  have V' : VF (lfF f i) := less_V hf I.V
  have hl := V'.W.len
  have rL := rd12 bL hl
  have c1 := call440 (pu := true) V'.W rL
  obtain ⟨G1, hG1⟩ : ∃ G1, G1 = G ++ [(⟨dotC (lfF f i) 144, 2, 0, false⟩ : Blk)] := ⟨_, rfl⟩
  rw [← hG1] at c1
  have p1 : Pre G G1 := by rw [hG1]; exact Pre.one
  have l1 : G1.length = G.length + 1 := by rw [hG1]; simp
  have hbl : H.length + 1 < G.length := (List.getElem?_eq_some_iff.1 bL).1
  have hcnt := (bb_count hf hne)
  by_cases hz : (dotL (lfF f i) 144).length = 0
  · have eL := bbL_at hz hi
    have hg1 := hg.onto p1
    rw [eL] at hg1
    have hfin := hg1.gr.fin bkC_flat
    have hz' : (((dotL (lfF f i) 144).length : Int) == 0) = true := by rw [beq_iff_eq]; omega
    simp [b451_1, h0, h4, h3, c1, hz', hfin]
  · obtain ⟨p, hp, hd, hdf, _, eb, e1, e2, e3⟩ := bb_more hf hz
    have hz' : (((dotL (lfF f i) 144).length : Int) == 0) = false := by rw [beq_eq_false_iff_ne]; omega
    have hs : SlR G1 (slc G.length 0 0 (dotL (lfF f i) 144).length (dotL (lfF f i) 144).length) 2 (dotL (lfF f i) 144).length (dotC (lfF f i) 144) := by
      rw [hG1]; exact (own_new (H := G) (esz := 2) (n := (dotL (lfF f i) 144).length) (vs := dotC (lfF f i) 144) dotC_len).sl
    obtain ⟨G2, hG2⟩ : ∃ G2, G2 = G1 ++ [(⟨cs .u16 (zr 12 0), 1, 0, false⟩ : Blk)] := ⟨_, rfl⟩
    have p2 : Pre G1 G2 := by rw [hG2]; exact Pre.one
    obtain ⟨q', o, ver', ha, hrd⟩ := hs.get1 (i := 0) (by omega)
    rw [dotC_at (by omega), ← hp] at hrd
    have ha' : idxAV 2 (slc G.length 0 0 (dotL (lfF f i) 144).length (dotL (lfF f i) 144).length) (.int .i64 0) = some (adr q' o ver') := ha
    have r1 := rd_part hrd (o := 0) (m := 1) (by omega)
    have r2 := rd_part hrd (o := 1) (m := 1) (by omega)
    have r1 : rd G1 q' o ver' 1 = some [.int .i8 ((p % 12 : Nat) : Int)] := r1
    have r2 : rd G1 q' (o + 1) ver' 1 = some [.int .i8 ((p / 12 : Nat) : Int)] := r2
    have w1 : IntKind.wrap .i64 ((p % 12 : Nat) : Int) = ((p % 12 : Nat) : Int) := wrap64 (by omega)
    have hp144 : p < 144 := by rw [hp]; exact dot_bound (by omega)
    have w2 : IntKind.wrap .i64 ((p / 12 : Nat) : Int) = ((p / 12 : Nat) : Int) := wrap64 (by omega)
    have c3 := call548 (pu := true) (H := G2) hf ((hg.pr.trans (p1.trans p2)).rd hr) hdf
    have VB := blobF_V hf hdf
    have hlB := VB.W.len
    have b6 : G2[G.length + 1]? = some ⟨cs .u16 (zr 12 0), 1, 0, false⟩ := by rw [hG2, ← l1]; exact get_last
    have hgle := hg.pr.len
    have w6 := wr12 (n0 := H.length) (wb := false) (v := blobF f (p % 12) (p / 12)) b6 (by omega) (by simp) hlB
    obtain ⟨G3, hG3⟩ : ∃ G3, G3 = G2.set (G.length + 1) ⟨cs .u16 (blobF f (p % 12) (p / 12)), 1, 0, false⟩ := ⟨_, rfl⟩
    rw [← hG3] at w6
    have k3 : ∀ j, j < G.length → G3[j]? = G[j]? := fun j hj => by rw [hG3, List.getElem?_set_ne (by omega), p2.get (by omega), p1.get hj]
    have bL3 : G3[H.length + 1]? = some ⟨cs .u16 (lfF f i), 1, 0, false⟩ := by rw [k3 _ hbl]; exact bL
    have b63 : G3[G.length + 1]? = some ⟨cs .u16 (blobF f (p % 12) (p / 12)), 1, 0, false⟩ := by rw [hG3]; exact get_set b6
    have c5 := call349 (pu := true) hl hlB (rd12 bL3 hl) (rd12 b63 hlB)
    rw [← e2] at c5
    have I2 := bbK_I hf (k := i + 1)
    have V2 : VF (lfF f (i + 1)) := less_V hf I2.V
    have hl2 := V2.W.len
    have w4 := wr12 (n0 := H.length) (wb := false) (v := lfF f (i + 1)) bL3 (by omega) hl hl2
    obtain ⟨G4, hG4⟩ : ∃ G4, G4 = G3.set (H.length + 1) ⟨cs .u16 (lfF f (i + 1)), 1, 0, false⟩ := ⟨_, rfl⟩
    rw [← hG4] at w4
    have b64 : G4[G.length + 1]? = some ⟨cs .u16 (blobF f (p % 12) (p / 12)), 1, 0, false⟩ := by rw [hG4, List.getElem?_set_ne (by omega)]; exact b63
    have bL4 : G4[H.length + 1]? = some ⟨cs .u16 (lfF f (i + 1)), 1, 0, false⟩ := by rw [hG4]; exact get_set bL3
    have P4 : Pre H G4 := by rw [hG4, hG3]; exact ((hg.pr.trans (p1.trans p2)).set (by omega)).set (by omega)
    have hg4 : GrB H G4 H.length g 12 (bbK f i).1.length (bkC (bbK f i).1) := hg.kept (by rw [hG4, List.getElem?_set_ne (by omega), k3 _ (by omega)]) P4
    obtain ⟨g', G5, c6, hg5, kp⟩ := hg4.push (c := cs .u16 (blobF f (p % 12) (p / 12))) (bytes := 24) (by simp [hlB]) (room24 (by omega)) (wb := false)
    rw [bkC_push, ← e1] at hg5
    have hlen : (bbK f (i + 1)).1.length = (bbK f i).1.length + 1 := by rw [e1]; simp
    rw [← hlen] at hg5
    have l4 : G4.length = G.length + 2 := by rw [hG4, hG3, hG2]; simp [l1]
    have bL5 : G5[H.length + 1]? = some ⟨cs .u16 (lfF f (i + 1)), 1, 0, false⟩ := by rw [kp _ (by omega) (by omega)]; exact bL4
    simp [b451_1, h0, h4, h3, c1, hz', zs_cs, ← hG2, l1, ha', r1, r2, w1, w2, c3, hlB, w6, c5, hl2, w4, rd12 b64 hlB, agg_cs, fillF hlB, c6, wbOf, -Int.natCast_emod, -Int.natCast_ediv]
    refine ⟨by omega, fun j hj => ?_, bL5, hg5⟩
    by_cases hj2 : j < i
    · simpa using hne j hj2
    · rw [show j = i by omega]; simpa using hz
theorem call246 {pu : Bool} {H : Heap} {f : List Int} (hf : VF f) : Call tab pu 246 [iv .u16 f] H = some (tup [slc H.length 0 0 (bbL f).length (bbL f).length, .int .i64 0], H ++ [⟨bkC (bbL f), 12, 0, false⟩]) := by
  refine Call_wp t246 (.inr rfl) rfl ?_
  obtain ⟨G, hG⟩ : ∃ G, G = H ++ [(⟨cs .u16 f, 1, 0, false⟩ : Blk)] := ⟨_, rfl⟩
  have hr : rd G H.length 0 0 12 = some (cs .u16 f) := by rw [hG]; exact box12 hf.W.len
  have pG : Pre H G := by rw [hG]; exact Pre.one
  have lG : G.length = H.length + 1 := by rw [hG]; simp
  have c1 := call359 (pu := true) hf.W.len hr
  rw [hf.ok] at c1
  have c2 := call451 (pu := true) hf hr
  obtain ⟨G2, hG2⟩ : ∃ G2, G2 = G ++ [(⟨bkC (bbL f), 12, 0, false⟩ : Blk)] := ⟨_, rfl⟩
  rw [← hG2] at c2
  have hV : ∀ g ∈ bbL f, VF g := fun g hg => by
    obtain ⟨j, hj, rfl⟩ := List.getElem_of_mem hg
    obtain ⟨x, y, h1, h2⟩ := (bbK_I hf (k := 144)).bl j hj
    have e : fr (bbL f) j = (bbL f)[j] := Option.some.inj ((at0_get hj).symm.trans (List.getElem?_eq_getElem hj))
    rw [← e]
    show VF (fr (bbK f 144).1 j)
    rw [h2]; exact blobF_V hf h1
  have g : Gr H G2 (slc G.length 0 0 (bbL f).length (bbL f).length) 12 (bbL f).length (bkC (bbL f)) := ⟨G.length, 0, rfl, by rw [hG2]; exact get_last, by omega, vl_size hV, pG.trans (by rw [hG2]; exact Pre.one)⟩
  have hfin := g.fin2 (c := 0) bkC_flat
  simp [c246, k246, hf.W.len, ← hG, c1, c2, hfin]
def filI (f : List Int) (a b : Int) : Bool := !okP a b || hasI f a b
def fulP (f : List Int) (u v : Nat) : Bool := filI f ((u : Int) - 1) v && (filI f ((u : Int) + 1) v && (filI f u ((v : Int) - 1) && filI f u ((v : Int) + 1)))
def shrP (f : List Int) (u v : Nat) : Bool := hasF f u v && fulP f u v
def shrF (f : List Int) : List Int := dotsF (shrP f)
theorem shrF_V {f : List Int} : VF (shrF f) := ⟨dotsF_W, dotsF_ok⟩
theorem call454 {pu : Bool} {H : Heap} {b : Nat} {f : List Int} {x y : Int} (hw : FrW f) (hr : rd H b 0 0 12 = some (cs .u16 f)) : Call tab pu 454 [.int .i64 x, .int .i64 y, adr b 0 0] H = some (.bool (filI f x y), H) := by
  refine Call_wp t454 (.inr rfl) rfl ?_
  have c1 := has395 (pu := true) (H := H) (a := x) (b := y) hw
  cases ho : okP x y with
  | false => simp [c454, k454, placeI, ho, skip, filI]
  | true => simp [c454, k454, placeI, ho, hr, agg_cs, c1, filI]
theorem call455 {H : Heap} {b c : Nat} {f : List Int} (hw : FrW f) (hr : rd H b 0 0 12 = some (cs .u16 f)) (hc : rd H c 0 0 1 = some [.func (.func 454) #[] #[adr b 0 0]]) {x y : Nat} (hx : x < 12) (hy : y < 12) :
    callV (Call tab) H (.func (.func 455) #[] #[adr b 0 0, adr c 0 0]) [.int .i64 x, .int .i64 y] = some (.bool (shrP f x y), H) := by
  have e1 : (#[adr b 0 0, adr c 0 0] : Array Value) = [adr b 0 0, adr c 0 0].toArray := rfl
  rw [e1, callV_func]
  refine Call_wp t455 (.inr rfl) rfl ?_
  have c1 := call395 (pu := true) (H := H) hw hx hy
  have w1 : IntKind.wrap .i64 ((x : Int) + 1) = (x : Int) + 1 := wrap64 (by omega)
  have w2 : IntKind.wrap .i64 ((x : Int) - 1) = (x : Int) - 1 := wrap64 (by omega)
  have w3 : IntKind.wrap .i64 ((y : Int) + 1) = (y : Int) + 1 := wrap64 (by omega)
  have w4 : IntKind.wrap .i64 ((y : Int) - 1) = (y : Int) - 1 := wrap64 (by omega)
  have e2 : (#[adr b 0 0] : Array Value) = [adr b 0 0].toArray := rfl
  have cf : ∀ x y : Int, callV (Call tab) H (.func (.func 454) #[] #[adr b 0 0]) [.int .i64 x, .int .i64 y] = some (.bool (filI f x y), H) := fun x y => by
    rw [e2, callV_func]; exact call454 hw hr
  cases h0 : hasF f x y with
  | false => simp [c455, k455, hr, agg_cs, c1, h0, skip, shrP]
  | true =>
    cases h1 : filI f ((x : Int) + 1) y with
    | false => simp [c455, k455, hr, agg_cs, c1, h0, hc, w1, cf, h1, skip, shrP, fulP]
    | true =>
      cases h2 : filI f ((x : Int) - 1) y with
      | false => simp [c455, k455, hr, agg_cs, c1, h0, hc, w1, w2, cf, h1, h2, skip, shrP, fulP]
      | true =>
        cases h3 : filI f x ((y : Int) + 1) with
        | false => simp [c455, k455, hr, agg_cs, c1, h0, hc, w1, w2, w3, cf, h1, h2, h3, skip, shrP, fulP]
        | true =>
          cases h4 : filI f x ((y : Int) - 1) with
          | false => simp [c455, k455, hr, agg_cs, c1, h0, hc, w1, w2, w3, w4, cf, h1, h2, h3, h4, skip, shrP, fulP]
          | true => simp [c455, k455, hr, agg_cs, c1, h0, hc, w1, w2, w3, w4, cf, h1, h2, h3, h4, shrP, fulP]
end Fb
