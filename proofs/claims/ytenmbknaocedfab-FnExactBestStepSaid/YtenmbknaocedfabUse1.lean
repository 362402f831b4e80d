/- What each function computes. -/
import Derived.Test.YtenmbknaocedfabUse0
set_option linter.unusedVariables false
set_option linter.unusedSimpArgs false
namespace Fb
open Go
theorem shU_skip {f : List Int} {dx dy : Int} {k : Nat} (hk : k < 12) (h0 : mvR f dx dy k = 0) : shU f dx dy k = shU f dx dy (k + 1) :=
  tabN_ext fun i _ => by
    by_cases h : i < k
    · rw [if_pos h, if_pos (by omega)]
    · by_cases h2 : i = k
      · subst h2; rw [if_neg h, if_pos (by omega), h0]
      · rw [if_neg h, if_neg (by omega)]
theorem shF_length {f : List Int} {dx dy : Int} : (shF f dx dy).length = 12 := dotsF_length
theorem call358 {pu : Bool} {H : Heap} {f : List Int} {dx dy : Int} (hw : FrW f) (hk : okF f = true) (hx : -1000 ≤ dx ∧ dx ≤ 1000) (hy : -1000 ≤ dy ∧ dy ≤ 1000) : Call tab pu 358 [iv .u16 f, .int .i64 dx, .int .i64 dy] H = some (iv .u16 (shF f dx dy), H) := by
  refine Call_wp t358 (.inr rfl) rfl ?_
  have hl := hw.len
  have hz := stc_zr (k := .u16) (n := 12) (l := zr 12 0) (by simp)
  have hz2 := stc_zr (k := .u16) (n := 12) (l := shF f dx dy) shF_length
  cases hb : in1 dx (-12) 12 with
  | false =>
    have hf : shF f dx dy = zr 12 0 := shF_far (by simpa [in1] using hb)
    simp [c358, k358, zs_cs, agg_cs, fill, hz, in295, hb, hf]
  | true =>
    have hb' : -12 ≤ dx ∧ dx ≤ 12 := by simpa [in1] using hb
    simp [c358, k358, zs_cs, agg_cs, fill, hz, in295, hb]
    refine WP_forH 15 12 12 rfl (by omega) (fun i e => e 1 = .int .i64 dx ∧ e 2 = .int .i64 dy ∧ e 3 = iv .u16 f ∧ e 6 = iv .u16 (zr 12 0) ∧ e 7 = iv .u16 (shU f dx dy i)) ?_ ?_ (by simp) (by simp [shU_zero])
    · rintro y e hy12 hyy e4 h15 ⟨h1, h2, h3, h6, h7⟩
      have u1 : IntKind.wrap .i64 ((y : Int) - dy) = (y : Int) - dy := wrap64 (by omega)
      cases hs : in1 ((y : Int) - dy) 0 11 with
      | false =>
        have h0 := mvR_off (f := f) (dx := dx) (dy := dy) hy12 (by simp only [in1, decide_eq_false_iff_not] at hs; omega)
        have hsk := shU_skip hy12 h0
        simp [b358_1, h15, h1, h2, h3, h6, h7, hyy, u1, in295, hs, e4, hsk]
      | true =>
        have hs' : 0 ≤ (y : Int) - dy ∧ (y : Int) - dy < 12 := by simp only [in1, decide_eq_true_eq] at hs; omega
        obtain ⟨m, hm⟩ : ∃ m : Nat, (y : Int) - dy = m := ⟨((y : Int) - dy).toNat, by omega⟩
        have hm12 : m < 12 := by omega
        obtain ⟨n, hn, hn4⟩ := okF_row hk hw hm12
        have hn' : nth f ((y : Int) - dy).toNat = n := by rw [hm]; exact hn
        rw [hm] at hs u1
        have hlu := shU_length (f := f) (dx := dx) (dy := dy) (k := y)
        by_cases hd : 0 ≤ dx
        · obtain ⟨d, rfl⟩ := Int.eq_ofNat_of_zero_le hd
          have hd12 : d ≤ 12 := by omega
          have hv := mvR_shl (f := f) (d := d) (dy := dy) hy12 hs' hn'
          have hst := shU_set hy12 hv
          have q1 := shl_nat (n := n) hd12
          have q2 := and_4095 (n := n * 2 ^ d % 65536) (by omega)
          rw [Nat.mod_mod_of_dvd _ (by decide)] at q2
          have e9 := stc_at (k := .u16) (l := shU f d dy y) (by omega) hst
          simp (disch := omega) [b358_1, h15, h1, h2, h3, h6, h7, hyy, u1, hm, in295, hs, hm12, hl, hn, q1, q2, hy12, hlu, e9, e4, -Int.natCast_emod, -Int.natCast_mul, -Int.natCast_pow]
        · obtain ⟨d, rfl⟩ : ∃ d : Nat, dx = -(d : Int) := ⟨(-dx).toNat, by omega⟩
          have hd12 : d ≤ 12 := by omega
          have hv := mvR_shr (f := f) (d := d) (dy := dy) hy12 hs' hn' hn4
          have hst := shU_set hy12 hv
          have q1 := shr_nat (n := n) hd12
          have e9 := stc_at (k := .u16) (l := shU f (-(d : Int)) dy y) (by omega) hst
          have u2 : IntKind.wrap .i64 (d : Int) = (d : Int) := wrap64 (by omega)
          have hd0 : ¬ d = 0 := by omega
          simp (disch := omega) [b358_1, h15, h1, h2, h3, h6, h7, hyy, u1, hm, in295, hs, hm12, hl, hn, hd0, q1, u2, hy12, hlu, e9, e4, -Int.natCast_ediv, -Int.natCast_pow]
    · rintro e h15 ⟨h1, h2, h3, h6, h7⟩
      rw [shU_all] at h7
      simp [b358_1, h15, h6, h7, hz2, shF_length, agg_cs]
theorem zr_ok : FrW (zr 12 0) ∧ okF (zr 12 0) = true := by rw [← dotsF_none]; exact ⟨dotsF_W, dotsF_ok⟩
theorem xor_nat {a b : Nat} (ha : a < 65536) (hb : b < 65536) : xorI (a : Int) (b : Int) = ((a ^^^ b : Nat) : Int) := by
  have e0 : IntKind.bits .u16 = 16 := rfl
  unfold xorI bitsOf
  simp only []
  have hl : a ^^^ b < 2 ^ 16 := Nat.xor_lt_two_pow ha hb
  have e1 : (BitVec.ofInt (IntKind.bits .u16) (a : Int) ^^^ BitVec.ofInt (IntKind.bits .u16) (b : Int)).toNat = a ^^^ b := by
    rw [BitVec.toNat_xor, e0, BitVec.ofInt_natCast, BitVec.ofInt_natCast, BitVec.toNat_ofNat, BitVec.toNat_ofNat, Nat.mod_eq_of_lt (by omega), Nat.mod_eq_of_lt (by omega)]
  rw [e1, wrapu16 (by omega)]
theorem xor_zero {a b : Int} (ha : u16' a) (hb : u16' b) : (xorI a b != 0) = (a != b) := by
  obtain ⟨m, rfl⟩ := Int.eq_ofNat_of_zero_le ha.1
  obtain ⟨n, rfl⟩ := Int.eq_ofNat_of_zero_le hb.1
  have h1 := ha.2
  have h2 := hb.2
  have e := xor_nat (a := m) (b := n) (by omega) (by omega)
  show (xorI (m : Int) (n : Int) != 0) = ((m : Int) != (n : Int))
  rw [e, Bool.eq_iff_iff]
  simp only [bne_iff_ne, ne_eq]
  have : m ^^^ n = 0 ↔ m = n := by
    constructor
    · intro h
      apply Nat.eq_of_testBit_eq
      intro i
      have h2 : (m ^^^ n).testBit i = false := by rw [h]; exact Nat.zero_testBit i
      rw [Nat.testBit_xor] at h2
      simpa using h2
    · rintro rfl
      exact Nat.xor_self m
  omega
def chgL (f g : List Int) (k : Nat) : List (Int × Int) := itN (fun y v => if (nth f y != nth g y) = true then v ++ [((y : Int), xorI (nth f y) (nth g y))] else v) [] k
theorem chgL_zero {f g : List Int} : chgL f g 0 = [] := itN_zero
theorem chgL_succ {f g : List Int} {k : Nat} : chgL f g (k + 1) = if (nth f k != nth g k) = true then chgL f g k ++ [((k : Int), xorI (nth f k) (nth g k))] else chgL f g k := itN_succ
theorem chgL_len {f g : List Int} {k : Nat} : (chgL f g k).length ≤ k := by
  induction k with
  | zero => simp [chgL_zero]
  | succ k ih =>
    rw [chgL_succ]
    split
    · simp; omega
    · omega
theorem chsC_push {l : List (Int × Int)} {m : Int × Int} : chsC l ++ chC m = chsC (l ++ [m]) := by rw [chsC, chsC, rowsC_app]; simp [rowsC]
theorem roomC4 {i : Nat} (h : i ≤ 1000000) : (i + 1) * 4 ≤ roomMax := by have : roomMax = 140737488355328 := rfl; omega
theorem call525 {pu : Bool} {H : Heap} {p o v q o' v' : Nat} {f g : List Int} (hf : FrW f) (hg : FrW g) (h1 : rd H p o v 12 = some (cs .u16 f)) (h2 : rd H q o' v' 12 = some (cs .u16 g)) :
    Call tab pu 525 [adr p o v, adr q o' v'] H = some (slc H.length 0 0 (chgL f g 12).length (chgL f g 12).length, H ++ [⟨chsC (chgL f g 12), 2, 0, false⟩]) := by
  refine Call_wp t525 (.inr rfl) rfl ?_
  simp [c525, k525, fill, rep]
  refine WP_count 6 12 12 rfl (fun i e G => e 0 = adr p o v ∧ e 1 = adr q o' v' ∧ ∃ x, e 5 = x ∧ Gr H G x 2 (chgL f g i).length (chsC (chgL f g i))) (by omega) ?_ ?_ (by simp) (by simp [chgL_zero, chsC, rowsC]; exact Gr.new .refl)
  · rintro i e G _ hi hii e4 h6 ⟨h0, h1e, x, h5, hx⟩
    have r1 := rd_one (hx.pre.rd h1) hi
    have r2 := rd_one (hx.pre.rd h2) hi
    have hl := chgL_len (f := f) (g := g) (k := i)
    have hs := chgL_succ (f := f) (g := g) (k := i)
    have w1 : IntKind.wrap .i8 (i : Int) = i := wrap8 (by omega)
    cases hd : nth f i != nth g i with
    | false =>
      rw [hd, if_neg (by decide)] at hs
      simp [b525_1, h6, h0, h1e, h5, hii, hi, r1, r2, hd, e4, hs]
      exact hx
    | true =>
      rw [hd, if_pos rfl] at hs
      obtain ⟨x', G', hpush, hx'⟩ := hx.push (c := chC ((i : Int), xorI (nth f i) (nth g i))) (bytes := 4) rfl (roomC4 (by omega)) (wb := false)
      rw [chsC_push, ← hs] at hx'
      have hgl : (chgL f g (i + 1)).length = (chgL f g i).length + 1 := by rw [hs]; simp
      rw [← hgl] at hx'
      have hfa : fill [.int .i8 0, .int .u16 0] [(0, 1, .int .i8 (i : Int)), (1, 1, .int .u16 (xorI (nth f i) (nth g i)))] = some (chC ((i : Int), xorI (nth f i) (nth g i))) := rfl
      have hf1 := fill_one (z := [.int .i8 0, .int .u16 0]) (v := agg (chC ((i : Int), xorI (nth f i) (nth g i)))) (esz := 2) rfl rfl
      simp [b525_1, h6, h0, h1e, h5, hii, hi, r1, r2, hd, w1, xorI_eq, hfa, hf1, hpush, wbOf, e4]
      exact hx'
  · rintro e G _ h6 ⟨h0, h1e, x, h5, hx⟩
    have hfin := hx.fin chsC_flat
    simp [b525_1, h6, h5, hfin]
theorem call528 {pu : Bool} {H : Heap} {f g : List Int} (hf : f.length = 12) (hg : g.length = 12) : Call tab pu 528 [iv .u16 f, iv .u16 g] H = some (.int .i64 (chgL f g 12).length, H) := by
  refine Call_wp t528 (.inr rfl) rfl ?_
  simp [c528, k528, hf]
  refine WP_forH 9 12 12 rfl (by omega) (fun i e => e 3 = iv .u16 g ∧ e 8 = iv .u16 f ∧ e 5 = .int .i64 (chgL f g i).length) ?_ ?_ (by simp) (by simp [chgL_zero])
  · rintro i e hi hii e4 h9 ⟨h3, h8, h5⟩
    have hl := chgL_len (f := f) (g := g) (k := i)
    have hs := chgL_succ (f := f) (g := g) (k := i)
    cases hd : nth f i != nth g i with
    | false =>
      rw [hd, if_neg (by decide)] at hs
      simp [b528_1, h9, h3, h8, h5, hii, hi, hf, hg, hd, e4, hs]
    | true =>
      rw [hd, if_pos rfl] at hs
      have e5 : IntKind.wrap .i64 (((chgL f g i).length : Int) + 1) = ((chgL f g i).length : Int) + 1 := wrap64 (by omega)
      simp [b528_1, h9, h3, h8, h5, hii, hi, hf, hg, hd, e5, e4, hs]
  · rintro e h9 ⟨h3, h8, h5⟩
    simp [b528_1, h9, h5]
/-- A list that has grown, or is none yet. -/
def GrN (H G : Heap) (x : Value) (esz n : Nat) (vs : List Value) : Prop := Gr H G x esz n vs ∨ (x = .slice none 0 0 ∧ n = 0 ∧ vs = [] ∧ Pre H G)
theorem GrN.pre {H G : Heap} {x : Value} {esz n : Nat} {vs : List Value} (g : GrN H G x esz n vs) : Pre H G := by
  rcases g with g | ⟨_, _, _, p⟩
  · exact g.pre
  · exact p
theorem GrN.sl {H G : Heap} {x : Value} {esz n : Nat} {vs : List Value} (g : GrN H G x esz n vs) : SlR G x esz n vs := by
  rcases g with g | ⟨rfl, rfl, rfl, _⟩
  · exact g.sl
  · exact ⟨by simp, .inl ⟨rfl, rfl⟩⟩
theorem GrN.push {H G : Heap} {x : Value} {esz n bytes : Nat} {vs c : List Value} (g : GrN H G x esz n vs) (hc : c.length = esz) (hb : (n + 1) * bytes ≤ roomMax) {wb : Bool} :
    ∃ x' G', ((srcOf esz (G ++ [⟨c, esz, 0, false⟩]) (slc G.length 0 0 1 1)).bind fun q => appendTo H.length wb esz bytes (G ++ [⟨c, esz, 0, false⟩]) x q.1 q.2) = some (x', G') ∧ GrN H G' x' esz (n + 1) (vs ++ c) := by
  rcases g with g | ⟨rfl, rfl, rfl, p⟩
  · obtain ⟨x', G', h1, h2⟩ := g.push hc hb (wb := wb)
    exact ⟨x', G', h1, .inl h2⟩
  · have e1 : srcOf esz (G ++ [⟨c, esz, 0, false⟩]) (slc G.length 0 0 1 1) = some (1, c) := by
      show (rd (G ++ [⟨c, esz, 0, false⟩]) G.length 0 0 (1 * esz)).map (fun cs => (1, cs)) = _
      rw [Nat.one_mul, rd_last rfl (by simpa using hc)]; rfl
    refine ⟨slc (G ++ [(⟨c, esz, 0, false⟩ : Blk)]).length 0 0 1 1, G ++ [(⟨c, esz, 0, false⟩ : Blk)] ++ [⟨c, esz, 0, false⟩], ?_, .inl ⟨_, 0, rfl, get_last, ?_, by simp [hc], (p.app).app⟩⟩
    · rw [e1, Option.bind_some]
      unfold appendTo
      simp only []
      rw [if_neg (by decide), if_pos (by simpa using hb)]
    · have := p.len
      simp; omega
/-- A step's rows, of its own. -/
theorem call527 {pu : Bool} {H : Heap} {f g : List Int} {a b c d : Int} {y0 : Value} (hf : FrW f) (hg : FrW g) :
    ∃ r, Call tab pu 527 [agg [.int .i8 a, .int .i8 b, .int .i8 c, .int .i8 d, y0], iv .u16 f, iv .u16 g] H = some r ∧ ∃ y G, r = (agg [.int .i8 a, .int .i8 b, .int .i8 c, .int .i8 d, y], G) ∧ GrN H G y 2 (chgL f g 12).length (chsC (chgL f g 12)) := by
  refine Call_ex t527 (.inr rfl) rfl ?_
  have hm : (mixF xorI f g).length = 12 := mixF_length
  simp [c527, k527, stc5e, ldc5, stc5, call367 hf.len hg.len, hf.len, hg.len]
  refine WP_count 13 12 12 rfl (fun i e G => e 12 = iv .u16 (mixF xorI f g) ∧ e 6 = agg [.int .i8 0, .int .i8 0, .int .i8 0, .int .i8 0, .slice none 0 0] ∧ ∃ y, e 3 = agg [.int .i8 a, .int .i8 b, .int .i8 c, .int .i8 d, y] ∧ GrN H G y 2 (chgL f g i).length (chsC (chgL f g i))) (by omega) ?_ ?_ (by simp) ⟨by simp, by simp, .slice none 0 0, by simp, .inr ⟨rfl, by simp [chgL_zero], by simp [chgL_zero, chsC, rowsC], .refl⟩⟩
  · rintro i e G _ hi hii e4 h13 ⟨h12, h6, y, h3, hy⟩
    have hn : nth (mixF xorI f g) i = xorI (nth f i) (nth g i) := nth_tabN hi
    have hl := chgL_len (f := f) (g := g) (k := i)
    have hs := chgL_succ (f := f) (g := g) (k := i)
    have w1 : IntKind.wrap .i8 (i : Int) = i := wrap8 (by omega)
    have hxz := xor_zero (hf.nth hi) (hg.nth hi)
    cases hd : nth f i != nth g i with
    | false =>
      rw [hd] at hxz
      rw [hd, if_neg (by decide)] at hs
      simp [b527_1, h13, h12, h6, h3, hii, hi, hm, hn, hxz, e4, hs]
      exact ⟨y, rfl, hy⟩
    | true =>
      rw [hd] at hxz
      rw [hd, if_pos rfl] at hs
      obtain ⟨x', G', hpush, hx'⟩ := hy.push (c := chC ((i : Int), xorI (nth f i) (nth g i))) (bytes := 4) rfl (roomC4 (by omega)) (wb := false)
      rw [chsC_push, ← hs] at hx'
      have hgl : (chgL f g (i + 1)).length = (chgL f g i).length + 1 := by rw [hs]; simp
      rw [← hgl] at hx'
      have hcx : cellsOf x' = [x'] := by
        rcases hx' with ⟨_, _, rfl, _⟩ | ⟨rfl, _⟩ <;> rfl
      have hfa : fill [.int .i8 0, .int .u16 0] [(0, 1, .int .i8 (i : Int)), (1, 1, .int .u16 (xorI (nth f i) (nth g i)))] = some (chC ((i : Int), xorI (nth f i) (nth g i))) := rfl
      have hf1 := fill_one (z := [.int .i8 0, .int .u16 0]) (v := agg (chC ((i : Int), xorI (nth f i) (nth g i)))) (esz := 2) rfl rfl
      simp [b527_1, h13, h12, h6, h3, hii, hi, hm, hn, hxz, w1, ldc5e, stc5e, hcx, hfa, hf1, hpush, wbOf, e4]
      exact ⟨_, rfl, hx'⟩
  · rintro e G _ h13 ⟨h12, h6, y, h3, hy⟩
    rcases hy with hy | ⟨rfl, e1, e2, p⟩
    · have ho : old0 H.length y = false := by
        obtain ⟨b, ver, rfl, _, h, _⟩ := hy
        rw [old0_slc]; simp; omega
      have hfin := finish_keep (n0 := H.length) (G := G) (l := [.int .i8 a, .int .i8 b, .int .i8 c, .int .i8 d, y]) (by simp [ho])
      simp [b527_1, h13, h6, h3, ldc5, stc5, hfin]
      exact ⟨_, _, ⟨rfl, rfl⟩, _, _, ⟨rfl, rfl⟩, .inl hy⟩
    · have hfin : finish H.length G [agg [.int .i8 a, .int .i8 b, .int .i8 c, .int .i8 d, .slice none 0 0]] = (agg [.int .i8 a, .int .i8 b, .int .i8 c, .int .i8 d, .slice none 0 0], G.take H.length) := fin_agg rfl
      rw [p.take] at hfin
      simp [b527_1, h13, h6, h3, ldc5, stc5, hfin]
      exact ⟨_, _, ⟨rfl, rfl⟩, _, _, ⟨rfl, rfl⟩, .inr ⟨rfl, e1, e2, .refl⟩⟩
theorem call526 {pu : Bool} {H : Heap} {q off ver : Nat} {f : List Int} {dx dy : Int} (hw : FrW f) (hk : okF f = true) (hr : rd H q off ver 12 = some (cs .u16 f)) (hb' : -12 ≤ dx ∧ dx ≤ 12) (hy : -12 ≤ dy ∧ dy ≤ 12) :
    Call tab pu 526 [adr q off ver, .int .i64 dx, .int .i64 dy] H = some (iv .u16 (shF f dx dy), H) := by
  refine Call_wp t526 (.inr rfl) rfl ?_
  have hl := hw.len
  have hz := stc_zr (k := .u16) (n := 12) (l := zr 12 0) (by simp)
  have hz2 := stc_zr (k := .u16) (n := 12) (l := shF f dx dy) shF_length
  simp [c526, k526, zs_cs, agg_cs, fill, hz]
  refine WP_forH 8 12 12 rfl (by omega) (fun i e => e 0 = adr q off ver ∧ e 1 = .int .i64 dx ∧ e 2 = .int .i64 dy ∧ e 6 = iv .u16 (zr 12 0) ∧ e 7 = iv .u16 (shU f dx dy i)) ?_ ?_ (by simp) (by simp [shU_zero])
  · rintro y e hy12 hyy e4 h15 ⟨h0, h1, h2, h6, h7⟩
    have u1 : IntKind.wrap .i64 ((y : Int) - dy) = (y : Int) - dy := wrap64 (by omega)
    cases hs : in1 ((y : Int) - dy) 0 11 with
    | false =>
      have h0' := mvR_off (f := f) (dx := dx) (dy := dy) hy12 (by simp only [in1, decide_eq_false_iff_not] at hs; omega)
      have hsk := shU_skip hy12 h0'
      simp [b526_1, h15, h0, h1, h2, h6, h7, hyy, u1, in304, hs, e4, hsk]
    | true =>
      have hs' : 0 ≤ (y : Int) - dy ∧ (y : Int) - dy < 12 := by simp only [in1, decide_eq_true_eq] at hs; omega
      obtain ⟨m, hm⟩ : ∃ m : Nat, (y : Int) - dy = m := ⟨((y : Int) - dy).toNat, by omega⟩
      have hm12 : m < 12 := by omega
      obtain ⟨n, hn, hn4⟩ := okF_row hk hw hm12
      have hn' : nth f ((y : Int) - dy).toNat = n := by rw [hm]; exact hn
      rw [hm] at hs u1
      have hlu := shU_length (f := f) (dx := dx) (dy := dy) (k := y)
      have hr1 := rd_one hr hm12
      rw [hn] at hr1
      by_cases hd : 0 ≤ dx
      · obtain ⟨d, rfl⟩ := Int.eq_ofNat_of_zero_le hd
        have hd12 : d ≤ 12 := by omega
        have hv := mvR_shl (f := f) (d := d) (dy := dy) hy12 hs' hn'
        have hst := shU_set hy12 hv
        have q1 := shl_nat (n := n) hd12
        have q2 := and_4095 (n := n * 2 ^ d % 65536) (by omega)
        rw [Nat.mod_mod_of_dvd _ (by decide)] at q2
        have u3 : IntKind.wrap .u64 (d : Int) = (d : Int) := by
          show (d : Int) % 18446744073709551616 = d
          omega
        have e9 := stc_at (k := .u16) (l := shU f d dy y) (by omega) hst
        simp (disch := omega) [b526_1, h15, h0, h1, h2, h6, h7, hyy, u1, hm, in304, hs, hm12, hr1, q1, q2, u3, hy12, hlu, e9, e4, -Int.natCast_emod, -Int.natCast_mul, -Int.natCast_pow]
      · obtain ⟨d, rfl⟩ : ∃ d : Nat, dx = -(d : Int) := ⟨(-dx).toNat, by omega⟩
        have hd12 : d ≤ 12 := by omega
        have hv := mvR_shr (f := f) (d := d) (dy := dy) hy12 hs' hn' hn4
        have hst := shU_set hy12 hv
        have q1 := shr_nat (n := n) hd12
        have e9 := stc_at (k := .u16) (l := shU f (-(d : Int)) dy y) (by omega) hst
        have u2 : IntKind.wrap .i64 (d : Int) = (d : Int) := wrap64 (by omega)
        have u3 : IntKind.wrap .u64 (d : Int) = (d : Int) := by
          show (d : Int) % 18446744073709551616 = d
          omega
        have hd0 : ¬ d = 0 := by omega
        simp (disch := omega) [b526_1, h15, h0, h1, h2, h6, h7, hyy, u1, hm, in304, hs, hm12, hr1, hd0, q1, u2, u3, hy12, hlu, e9, e4, -Int.natCast_ediv, -Int.natCast_pow]
  · rintro e h15 ⟨h0, h1, h2, h6, h7⟩
    rw [shU_all] at h7
    simp [b526_1, h15, h6, h7, hz2, shF_length, agg_cs]
/-- The better of a step and a slide. -/
def stepB (f g : List Int) (base : Int) (s : Sted) (dx dy : Int) : Sted :=
  if (dx == 0 && dy == 0) = true then s else if 4 + 3 * ((chgL (shF f dx dy) g 12).length : Int) < stCost s then ⟨2, base, dx, dy, chgL (shF f dx dy) g 12⟩ else s
def inB (f g : List Int) (base dx : Int) (s : Sted) (k : Nat) : Sted := itN (fun j s => stepB f g base s dx ((j : Int) - 12)) s k
def outB (f g : List Int) (base : Int) (k : Nat) : Sted := itN (fun i s => inB f g base ((i : Int) - 12) s 25) ⟨1, base, 0, 0, chgL f g 12⟩ k
theorem inB_zero {f g : List Int} {base dx : Int} {s : Sted} : inB f g base dx s 0 = s := itN_zero
theorem inB_succ {f g : List Int} {base dx : Int} {s : Sted} {k : Nat} : inB f g base dx s (k + 1) = stepB f g base (inB f g base dx s k) dx ((k : Int) - 12) := itN_succ
theorem outB_zero {f g : List Int} {base : Int} : outB f g base 0 = ⟨1, base, 0, 0, chgL f g 12⟩ := itN_zero
theorem outB_succ {f g : List Int} {base : Int} {k : Nat} : outB f g base (k + 1) = inB f g base ((k : Int) - 12) (outB f g base k) 25 := itN_succ
def okS (s : Sted) : Prop := 0 ≤ s.a ∧ s.a ≤ 2 ∧ s.rows.length ≤ 12
theorem stepB_ok {f g : List Int} {base dx dy : Int} {s : Sted} (h : okS s) : okS (stepB f g base s dx dy) := by
  unfold stepB
  split
  · exact h
  · split
    · exact ⟨by simp only []; omega, by simp only []; omega, chgL_len⟩
    · exact h
theorem inB_ok {f g : List Int} {base dx : Int} {s : Sted} (h : okS s) {k : Nat} : okS (inB f g base dx s k) := by
  induction k with
  | zero => rw [inB_zero]; exact h
  | succ k ih => rw [inB_succ]; exact stepB_ok ih
theorem outB_ok {f g : List Int} {base : Int} {k : Nat} : okS (outB f g base k) := by
  induction k with
  | zero => rw [outB_zero]; exact ⟨by simp only []; omega, by simp only []; omega, chgL_len⟩
  | succ k ih => rw [outB_succ]; exact inB_ok ih
theorem inB_stop {f g : List Int} {base dx : Int} {s : Sted} (h : stCost s ≤ 4) {k : Nat} : inB f g base dx s k = s := by
  induction k with
  | zero => exact inB_zero
  | succ k ih =>
    rw [inB_succ, ih]
    unfold stepB
    split
    · rfl
    · rw [if_neg (by omega)]
theorem outB_stop {f g : List Int} {base : Int} {i k : Nat} (h : stCost (outB f g base i) ≤ 4) (hk : i ≤ k) : outB f g base k = outB f g base i := by
  induction k with
  | zero => obtain rfl : i = 0 := by omega
            rfl
  | succ k ih =>
    by_cases h1 : i = k + 1
    · rw [h1]
    · rw [outB_succ, ih (by omega), inB_stop h]
/-- A step in a block of its own. -/
structure StO (H G : Heap) (P : Nat) (s : Sted) (y : Value) : Prop where
  pre : Pre H G
  ge : H.length ≤ P
  blk : G[P]? = some ⟨stC s y, 1, 0, false⟩
  row : ∃ b, y = slc b 0 0 s.rows.length s.rows.length ∧ H.length ≤ b ∧ b ≠ P ∧ G[b]? = some ⟨chsC s.rows, 2, 0, false⟩
theorem StO.rw {H G : Heap} {P : Nat} {s : Sted} {y : Value} (h : StO H G P s y) : Rw G y s := by
  obtain ⟨b, rfl, _, _, hg⟩ := h.row
  exact ⟨chsC_length, .inr ⟨b, 0, 0, _, rfl, Nat.le_refl _, by rw [rd_at hg rfl (by simp only []; rw [chsC_length]; omega)]; simp only [List.drop_zero]; rw [List.take_of_length_le (by rw [chsC_length]; exact Nat.le_refl _)], _, hg, rfl, rfl⟩⟩
theorem StO.rd {H G : Heap} {P : Nat} {s : Sted} {y : Value} (h : StO H G P s y) : rd G P 0 0 5 = some (stC s y) := by
  rw [rd_at h.blk rfl (by simp [stC])]; rfl
theorem StO.app {H G G' : Heap} {P : Nat} {s : Sted} {y : Value} (p : Pre G G') (h : StO H G P s y) : StO H G' P s y := by
  refine ⟨h.pre.trans p, h.ge, by rw [p.get (List.getElem?_eq_some_iff.1 h.blk).1]; exact h.blk, ?_⟩
  obtain ⟨b, e, h1, h2, h3⟩ := h.row
  exact ⟨b, e, h1, h2, by rw [p.get (List.getElem?_eq_some_iff.1 h3).1]; exact h3⟩
theorem inner388 {H G : Heap} {f g : List Int} {q off ver q' off' ver' P : Nat} {base dx : Int} {s : Sted} {y : Value} (hw : FrW f) (hk : okF f = true) (hwg : FrW g) (hr : rd H q off ver 12 = some (cs .u16 f)) (hr' : rd H q' off' ver' 12 = some (cs .u16 g))
    (hb : 0 ≤ base ∧ base ≤ 39) (hdx : -12 ≤ dx ∧ dx ≤ 12) (hs : okS s) {fs : List Fr} {Q : Ex → Env → Heap → Prop} {e : Env}
    (h0 : e 0 = adr q off ver) (h1 : e 1 = adr q' off' ver') (h2 : e 2 = .int .i64 base) (h7 : e 7 = adr P 0 0) (h8 : e 8 = .int .i64 dx) (h9 : e 9 = .int .i64 (-12)) (hS : StO H G P s y)
    (hq : ∀ e' G' y', e' 0 = adr q off ver → e' 1 = adr q' off' ver' → e' 2 = .int .i64 base → e' 7 = adr P 0 0 → e' 8 = .int .i64 dx → StO H G' P (inB f g base dx s 25) y' → KK tab H.length false (.exit 2) fs e' G' Q) : WK tab H.length false (.loop b388_1) fs e G Q := by
  refine WK_loop (fun j e G => e 0 = adr q off ver ∧ e 1 = adr q' off' ver' ∧ e 2 = .int .i64 base ∧ e 7 = adr P 0 0 ∧ e 8 = .int .i64 dx ∧ e 9 = .int .i64 ((j : Int) - 12) ∧ ∃ y, StO H G P (inB f g base dx s j) y) 25 ?_ (Nat.zero_le _) ⟨h0, h1, h2, h7, h8, by rw [h9]; rfl, y, by rw [inB_zero]; exact hS⟩
  rintro j e G _ hj ⟨h0, h1, h2, h7, h8, h9, y, hS⟩
  by_cases hj25 : j = 25
  · subst hj25
    simp [b388_1, h9]
    exact hq _ _ y (by simp [h0]) (by simp [h1]) (by simp [h2]) (by simp [h7]) (by simp [h8]) hS
  have hle : (j : Int) - 12 ≤ 12 := by omega
  have e9 : IntKind.wrap .i64 ((j : Int) - 12 + 1) = ((j + 1 : Nat) : Int) - 12 := by rw [wrap64 (by omega)]; omega
  have hsucc := inB_succ (f := f) (g := g) (base := base) (dx := dx) (s := s) (k := j)
  have hok := inB_ok (f := f) (g := g) (base := base) (dx := dx) (k := j) hs
  generalize inB f g base dx s j = t at *
  cases hz : (dx == 0 && (j : Int) - 12 == 0) with
  | true =>
    rw [stepB, if_pos hz] at hsucc
    rw [Bool.and_eq_true] at hz
    have z1 := eq_of_beq hz.1
    have z2 := eq_of_beq hz.2
    obtain rfl : j = 12 := by omega
    subst z1
    have h9' : e 9 = .int .i64 0 := by rw [h9]; rfl
    simp [b388_1, h0, h1, h2, h7, h8, h9']
    exact ⟨y, by rw [show 12 + 1 = 13 from rfl] at hsucc; rw [hsucc]; exact hS⟩
  | false =>
    rw [stepB, if_neg (by rw [hz]; decide)] at hsucc
    obtain ⟨F, hF⟩ : ∃ F, F = shF f dx ((j : Int) - 12) := ⟨_, rfl⟩
    have hFW : FrW F := by rw [hF]; exact dotsF_W
    have h526 := call526 (pu := true) (dx := dx) (dy := (j : Int) - 12) hw hk (hS.pre.rd hr) hdx (by omega)
    rw [← hF] at h526 hsucc
    obtain ⟨L, hL⟩ : ∃ L, L = chgL F g 12 := ⟨_, rfl⟩
    have hL12 : L.length ≤ 12 := by rw [hL]; exact chgL_len
    rw [← hL] at hsucc
    obtain ⟨G1, hG1⟩ : ∃ G1, G1 = G ++ [(⟨cs .u16 F, 1, 0, false⟩ : Blk)] := ⟨_, rfl⟩
    have hwr : wr H.length false (G ++ [⟨cs .u16 (zr 12 0), 1, 0, false⟩]) G.length 0 0 (cs .u16 F) = some G1 := by
      rw [wr_at get_last rfl rfl (by simp [may]; exact hS.pre.len) (by simp [hFW.len]), hG1]
      simp [splice, hFW.len]
    have p1 : Pre G G1 := by rw [hG1]; exact Pre.one
    obtain ⟨G2, hG2⟩ : ∃ G2, G2 = G1 ++ [(⟨chsC L, 2, 0, false⟩ : Blk)] := ⟨_, rfl⟩
    have hrF : rd G1 G.length 0 0 12 = some (cs .u16 F) := by rw [hG1]; exact rd_last rfl (by simp [hFW.len])
    have h525 := call525 (pu := true) hFW hwg hrF ((hS.pre.trans p1).rd hr')
    rw [← hL, ← hG2] at h525
    have p2 : Pre G G2 := p1.trans (by rw [hG2]; exact Pre.one)
    have S2 := hS.app p2
    have h310 := cost310 (pu := true) S2.rd S2.rw ⟨hok.1, hok.2.1⟩ (by have := hok.2.2; omega)
    have w3 : IntKind.wrap .i64 (3 * (L.length : Int)) = 3 * (L.length : Int) := wrap64 (by omega)
    have w4 : IntKind.wrap .i64 (4 + 3 * (L.length : Int)) = 4 + 3 * (L.length : Int) := wrap64 (by omega)
    have c1 : IntKind.wrap .i8 base = base := wrap8 (by omega)
    have c2 : IntKind.wrap .i8 dx = dx := wrap8 (by omega)
    have c3 : IntKind.wrap .i8 ((j : Int) - 12) = (j : Int) - 12 := wrap8 (by omega)
    have hlt : G.length < G1.length := by rw [hG1]; simp
    by_cases hc : 4 + 3 * (L.length : Int) < stCost t
    · rw [if_pos hc] at hsucc
      obtain ⟨y', hy'⟩ : ∃ y', y' = slc G1.length 0 0 L.length L.length := ⟨_, rfl⟩
      obtain ⟨G3, hG3⟩ : ∃ G3, G3 = G2.set P ⟨stC ⟨2, base, dx, (j : Int) - 12, L⟩ y', 1, 0, false⟩ := ⟨_, rfl⟩
      have hset : wr H.length false G2 P 0 0 [.int .i8 2, .int .i8 base, .int .i8 dx, .int .i8 ((j : Int) - 12), y'] = some G3 := by
        rw [wr_at S2.blk rfl rfl (by simp [may, S2.ge]) (by simp [stC]), hG3]
        rfl
      have hfa : fill [.int .i8 0, .int .i8 0, .int .i8 0, .int .i8 0, .slice none 0 0] [(0, 1, .int .i8 2), (1, 1, .int .i8 base), (2, 1, .int .i8 dx), (3, 1, .int .i8 ((j : Int) - 12)), (4, 1, y')] = some [.int .i8 2, .int .i8 base, .int .i8 dx, .int .i8 ((j : Int) - 12), y'] := by rw [hy']; rfl
      have hP1 : P < G.length := (List.getElem?_eq_some_iff.1 hS.blk).1
      have S3 : StO H G3 P ⟨2, base, dx, (j : Int) - 12, L⟩ y' := by
        rw [hG3]
        refine ⟨S2.pre.set S2.ge, S2.ge, get_set S2.blk, G1.length, hy', ?_, by omega, ?_⟩
        · have := hS.pre.len
          omega
        · rw [List.getElem?_set_ne (by omega), hG2]
          exact get_last
      have hln : lenV y' = some (.int .i64 L.length) := by rw [hy']; rfl
      rw [← hy'] at h525
      cases hx0 : dx == 0 with
      | true =>
        have hj0 : ((j : Int) - 12 == 0) = false := by rw [hx0] at hz; simpa using hz
        simp [b388_1, h0, h1, h2, h7, h8, h9, hle, hx0, hj0, h526, zs_cs, hwr, wbOf, hFW.len, h525, hln, w3, w4, h310, hc, c1, c2, c3, hfa, hset, e9]
        exact ⟨by omega, y', by rw [hsucc]; exact S3⟩
      | false =>
        simp [b388_1, h0, h1, h2, h7, h8, h9, hle, hx0, skip, h526, zs_cs, hwr, wbOf, hFW.len, h525, hln, w3, w4, h310, hc, c1, c2, c3, hfa, hset, e9]
        exact ⟨by omega, y', by rw [hsucc]; exact S3⟩
    · rw [if_neg hc] at hsucc
      cases hx0 : dx == 0 with
      | true =>
        have hj0 : ((j : Int) - 12 == 0) = false := by rw [hx0] at hz; simpa using hz
        simp [b388_1, h0, h1, h2, h7, h8, h9, hle, hx0, hj0, h526, zs_cs, hwr, wbOf, hFW.len, h525, w3, w4, h310, hc, e9]
        exact ⟨by omega, y, by rw [hsucc]; exact S2⟩
      | false =>
        simp [b388_1, h0, h1, h2, h7, h8, h9, hle, hx0, skip, h526, zs_cs, hwr, wbOf, hFW.len, h525, w3, w4, h310, hc, e9]
        exact ⟨by omega, y, by rw [hsucc]; exact S2⟩
/-- What a search for a step hands back. -/
def RsS (H : Heap) (r : Value × Heap) (s : Sted) : Prop := ∃ y G, r = (agg (stC s y), G) ∧ Pre H G ∧ GrN H G y 2 s.rows.length (chsC s.rows)
theorem call388 {pu : Bool} {H : Heap} {f g : List Int} {q off ver q' off' ver' : Nat} {base : Int} (hw : FrW f) (hk : okF f = true) (hwg : FrW g) (hr : rd H q off ver 12 = some (cs .u16 f)) (hr' : rd H q' off' ver' 12 = some (cs .u16 g)) (hb : 0 ≤ base ∧ base ≤ 39) :
    ∃ r, Call tab pu 388 [adr q off ver, adr q' off' ver', .int .i64 base] H = some r ∧ RsS H r (outB f g base 25) := by
  refine Call_ex t388 (.inr rfl) rfl ?_
  obtain ⟨L, hL⟩ : ∃ L, L = chgL f g 12 := ⟨_, rfl⟩
  have hL12 : L.length ≤ 12 := by rw [hL]; exact chgL_len
  have h525 := call525 (pu := true) hw hwg hr hr'
  rw [← hL] at h525
  obtain ⟨G1, hG1⟩ : ∃ G1, G1 = H ++ [(⟨chsC L, 2, 0, false⟩ : Blk)] := ⟨_, rfl⟩
  obtain ⟨y, hy⟩ : ∃ y, y = slc H.length 0 0 L.length L.length := ⟨_, rfl⟩
  rw [← hy, ← hG1] at h525
  have c1 : IntKind.wrap .i8 base = base := wrap8 (by omega)
  have hfa : fill [.int .i8 0, .int .i8 0, .int .i8 0, .int .i8 0, .slice none 0 0] [(0, 1, .int .i8 1), (1, 1, .int .i8 base), (4, 1, y)] = some [.int .i8 1, .int .i8 base, .int .i8 0, .int .i8 0, y] := by rw [hy]; rfl
  obtain ⟨G2, hG2⟩ : ∃ G2, G2 = G1 ++ [(⟨stC ⟨1, base, 0, 0, L⟩ y, 1, 0, false⟩ : Blk)] := ⟨_, rfl⟩
  have p1 : Pre H G1 := by rw [hG1]; exact Pre.one
  have hwr : wr H.length false (G1 ++ [⟨[.int .i8 0, .int .i8 0, .int .i8 0, .int .i8 0, .slice none 0 0], 1, 0, false⟩]) G1.length 0 0 [.int .i8 1, .int .i8 base, .int .i8 0, .int .i8 0, y] = some G2 := by
    rw [wr_at get_last rfl rfl (by simp [may]; exact p1.len) (by simp), hG2]
    simp [splice, stC]
  have hlt : H.length < G1.length := by rw [hG1]; simp
  have S0 : StO H G2 G1.length ⟨1, base, 0, 0, L⟩ y := by
    refine ⟨p1.trans (by rw [hG2]; exact Pre.one), p1.len, by rw [hG2]; exact get_last, H.length, hy, Nat.le_refl _, by omega, ?_⟩
    rw [hG2, List.getElem?_append_left hlt, hG1]; exact get_last
  rw [hL] at S0
  simp [c388, k388, h525, c1, hfa, hwr, wbOf]
  refine WK_loop (fun i e G => e 0 = adr q off ver ∧ e 1 = adr q' off' ver' ∧ e 2 = .int .i64 base ∧ e 7 = adr G1.length 0 0 ∧ e 8 = .int .i64 ((i : Int) - 12) ∧ ∃ y, StO H G G1.length (outB f g base i) y) 25 ?_ (Nat.zero_le _) ⟨by simp, by simp, by simp, by simp, by simp, y, by rw [outB_zero]; exact S0⟩
  rintro i e G hfr hi ⟨h0, h1, h2, h7, h8, y, hS⟩
  have h6 := hfr 6 (by decide)
  simp at h6
  have hok := outB_ok (f := f) (g := g) (base := base) (k := i)
  have h310 := cost310 (pu := true) hS.rd hS.rw ⟨hok.1, hok.2.1⟩ (by have := hok.2.2; omega)
  have hend : outB f g base i = outB f g base 25 → GrN H G y 2 (outB f g base 25).rows.length (chsC (outB f g base 25).rows) ∧ old0 H.length y = false := fun he => by
    obtain ⟨b, e1, e2, _, e4⟩ := hS.row
    rw [← he]
    refine ⟨.inl ⟨b, 0, e1, e4, e2, chsC_length, hS.pre⟩, ?_⟩
    rw [e1, old0_slc]; simp; omega
  have hexit : outB f g base i = outB f g base 25 → ∃ a b, finish H.length G [agg (stC (outB f g base i) y)] = (a, b) ∧ RsS H (a, b) (outB f g base 25) := fun he => by
    obtain ⟨e1, e2⟩ := hend he
    rw [he]
    rw [finish_keep (n0 := H.length) (G := G) (l := stC (outB f g base 25) y) (by simp [stC, e2])]
    exact ⟨_, _, rfl, y, G, rfl, hS.pre, e1⟩
  by_cases hi25 : i = 25
  · subst hi25
    obtain ⟨a, b, e1, e2⟩ := hexit rfl
    have hrd := hS.rd
    simp only [stC] at hrd e1
    simp [b388_2, h7, h8, skip, h6, hrd, stc5, ldc5, e1]
    exact ⟨_, _, ⟨rfl, rfl⟩, e2⟩
  · have hi24 : (i : Int) - 12 ≤ 12 := by omega
    have e9 : IntKind.wrap .i64 ((i : Int) - 12 + 1) = ((i + 1 : Nat) : Int) - 12 := by rw [wrap64 (by omega)]; omega
    by_cases hst : stCost (outB f g base i) ≤ 4
    · obtain ⟨a, b, e1, e2⟩ := hexit (outB_stop hst hi).symm
      have hrd := hS.rd
      simp only [stC] at hrd e1
      have hst' : ¬ 4 < stCost (outB f g base i) := by omega
      simp [b388_2, h7, h8, hi24, h310, hst', h6, hrd, stc5, ldc5, e1]
      exact ⟨_, _, ⟨rfl, rfl⟩, e2⟩
    · have hst' : 4 < stCost (outB f g base i) := by omega
      simp [b388_2, h7, h8, hi24, h310, hst']
      refine inner388 (s := outB f g base i) (dx := (i : Int) - 12) (P := G1.length) hw hk hwg hr hr' hb ⟨by omega, by omega⟩ hok (by simp [h0]) (by simp [h1]) (by simp [h2]) (by simp [h7]) (by simp [h8]) (by simp) hS fun e' G' y' q0 q1 q2 q7 q8 hS' => ?_
      rw [← outB_succ] at hS'
      simp [q0, q1, q2, q7, q8, e9]
      exact ⟨by omega, y', hS'⟩
theorem GrN.app {H G G' : Heap} {x : Value} {esz n : Nat} {vs : List Value} (g : GrN H G x esz n vs) (p : Pre G G') : GrN H G' x esz n vs := by
  rcases g with g | ⟨e1, e2, e3, q⟩
  · obtain ⟨L, rfl⟩ := p
    exact .inl g.app
  · exact .inr ⟨e1, e2, e3, q.trans p⟩
theorem GrN.low {H G G' : Heap} {x : Value} {esz n : Nat} {vs : List Value} (g : GrN G G' x esz n vs) (p : Pre H G) : GrN H G' x esz n vs := by
  rcases g with ⟨b, ver, e1, e2, e3, e4, q⟩ | ⟨e1, e2, e3, q⟩
  · exact .inl ⟨b, ver, e1, e2, Nat.le_trans p.len e3, e4, p.trans q⟩
  · exact .inr ⟨e1, e2, e3, p.trans q⟩
theorem inner389 {H G : Heap} {f g : List Int} {base dx : Int} {s : Sted} {y : Value} (hw : FrW f) (hk : okF f = true) (hwg : FrW g)
    (hb : 0 ≤ base ∧ base ≤ 39) (hdx : -12 ≤ dx ∧ dx ≤ 12) (hs : okS s) {fs : List Fr} {Q : Ex → Env → Heap → Prop} {e : Env}
    (h3 : e 3 = iv .u16 f) (h4 : e 4 = iv .u16 g) (h2 : e 2 = .int .i64 base) (h7 : e 7 = agg (stC s y)) (h8 : e 8 = .int .i64 dx) (h9 : e 9 = .int .i64 (-12)) (hS : GrN H G y 2 s.rows.length (chsC s.rows))
    (hq : ∀ e' G' y', e' 3 = iv .u16 f → e' 4 = iv .u16 g → e' 2 = .int .i64 base → e' 8 = .int .i64 dx → e' 7 = agg (stC (inB f g base dx s 25) y') → GrN H G' y' 2 (inB f g base dx s 25).rows.length (chsC (inB f g base dx s 25).rows) → KK tab H.length false (.exit 2) fs e' G' Q) : WK tab H.length false (.loop b389_1) fs e G Q := by
  refine WK_loop (fun j e G => e 3 = iv .u16 f ∧ e 4 = iv .u16 g ∧ e 2 = .int .i64 base ∧ e 8 = .int .i64 dx ∧ e 9 = .int .i64 ((j : Int) - 12) ∧ ∃ y, e 7 = agg (stC (inB f g base dx s j) y) ∧ GrN H G y 2 (inB f g base dx s j).rows.length (chsC (inB f g base dx s j).rows)) 25 ?_ (Nat.zero_le _) ⟨h3, h4, h2, h8, by rw [h9]; rfl, y, by rw [inB_zero]; exact h7, by rw [inB_zero]; exact hS⟩
  rintro j e G _ hj ⟨h3, h4, h2, h8, h9, y, h7, hS⟩
  by_cases hj25 : j = 25
  · subst hj25
    simp [b389_1, h9]
    exact hq _ _ y (by simp [h3]) (by simp [h4]) (by simp [h2]) (by simp [h8]) (by simp [h7]) hS
  have hle : (j : Int) - 12 ≤ 12 := by omega
  have e9 : IntKind.wrap .i64 ((j : Int) - 12 + 1) = ((j + 1 : Nat) : Int) - 12 := by rw [wrap64 (by omega)]; omega
  have hsucc := inB_succ (f := f) (g := g) (base := base) (dx := dx) (s := s) (k := j)
  have hok := inB_ok (f := f) (g := g) (base := base) (dx := dx) (k := j) hs
  generalize inB f g base dx s j = t at *
  cases hz : (dx == 0 && (j : Int) - 12 == 0) with
  | true =>
    rw [stepB, if_pos hz] at hsucc
    rw [Bool.and_eq_true] at hz
    have z1 := eq_of_beq hz.1
    have z2 := eq_of_beq hz.2
    obtain rfl : j = 12 := by omega
    subst z1
    have h9' : e 9 = .int .i64 0 := by rw [h9]; rfl
    rw [show 12 + 1 = 13 from rfl] at hsucc
    simp [b389_1, h3, h4, h2, h7, h8, h9']
    rw [hsucc]
    exact ⟨y, rfl, hS⟩
  | false =>
    rw [stepB, if_neg (by rw [hz]; decide)] at hsucc
    obtain ⟨F, hF⟩ : ∃ F, F = shF f dx ((j : Int) - 12) := ⟨_, rfl⟩
    have hFW : FrW F := by rw [hF]; exact dotsF_W
    have h358 := call358 (pu := true) (H := G) (dx := dx) (dy := (j : Int) - 12) hw hk (by omega) (by omega)
    rw [← hF] at h358 hsucc
    have h528 := call528 (pu := true) (H := G) hFW.len hwg.len
    obtain ⟨L, hL⟩ : ∃ L, L = chgL F g 12 := ⟨_, rfl⟩
    have hL12 : L.length ≤ 12 := by rw [hL]; exact chgL_len
    have h312 := cost312 (pu := true) (H := G) (s := t) hS.sl ⟨hok.1, hok.2.1⟩ (by have := hok.2.2; omega)
    obtain ⟨_, h527, y', G', rfl, hY⟩ := call527 (pu := true) (H := G) (a := 2) (b := base) (c := dx) (d := (j : Int) - 12) (y0 := .slice none 0 0) hFW hwg
    rw [← hL] at hsucc h528 hY
    have w3 : IntKind.wrap .i64 (3 * (L.length : Int)) = 3 * (L.length : Int) := wrap64 (by omega)
    have w4 : IntKind.wrap .i64 (3 * (L.length : Int) + 4) = 4 + 3 * (L.length : Int) := by rw [wrap64 (by omega)]; omega
    have c1 : IntKind.wrap .i8 base = base := wrap8 (by omega)
    have c2 : IntKind.wrap .i8 dx = dx := wrap8 (by omega)
    have c3 : IntKind.wrap .i8 ((j : Int) - 12) = (j : Int) - 12 := wrap8 (by omega)
    have hz12 := stc_zr (k := .u16) (n := 12) (l := F) hFW.len
    have hfa : fill [.int .i8 0, .int .i8 0, .int .i8 0, .int .i8 0, .slice none 0 0] [(0, 1, .int .i8 2), (1, 1, .int .i8 base), (2, 1, .int .i8 dx), (3, 1, .int .i8 ((j : Int) - 12))] = some [.int .i8 2, .int .i8 base, .int .i8 dx, .int .i8 ((j : Int) - 12), .slice none 0 0] := rfl
    simp only [stC] at h7 h312
    by_cases hc : 4 + 3 * (L.length : Int) < stCost t
    · rw [if_pos hc] at hsucc
      have hY' := hY.low hS.pre
      cases hx0 : dx == 0 with
      | true =>
        have hj0 : ((j : Int) - 12 == 0) = false := by rw [hx0] at hz; simpa using hz
        simp [b389_1, h3, h4, h2, h7, h8, h9, hle, hx0, hj0, hw.len, hwg.len, h358, zs_cs, agg_cs, hz12, hFW.len, h528, w3, w4, ldc5, h312, hc, c1, c2, c3, hfa, h527, stc5, e9]
        rw [hsucc]
        exact ⟨by omega, y', rfl, hY'⟩
      | false =>
        simp [b389_1, h3, h4, h2, h7, h8, h9, hle, hx0, skip, hw.len, hwg.len, h358, zs_cs, agg_cs, hz12, hFW.len, h528, w3, w4, ldc5, h312, hc, c1, c2, c3, hfa, h527, stc5, e9]
        rw [hsucc]
        exact ⟨by omega, y', rfl, hY'⟩
    · rw [if_neg hc] at hsucc
      cases hx0 : dx == 0 with
      | true =>
        have hj0 : ((j : Int) - 12 == 0) = false := by rw [hx0] at hz; simpa using hz
        simp [b389_1, h3, h4, h2, h7, h8, h9, hle, hx0, hj0, hw.len, hwg.len, h358, zs_cs, agg_cs, hz12, hFW.len, h528, w3, w4, ldc5, h312, hc, e9]
        rw [hsucc]
        exact ⟨by omega, y, rfl, hS⟩
      | false =>
        simp [b389_1, h3, h4, h2, h7, h8, h9, hle, hx0, skip, hw.len, hwg.len, h358, zs_cs, agg_cs, hz12, hFW.len, h528, w3, w4, ldc5, h312, hc, e9]
        rw [hsucc]
        exact ⟨by omega, y, rfl, hS⟩
theorem fin_step {H G : Heap} {s : Sted} {y : Value} {n : Nat} {vs : List Value} (hy : GrN H G y 2 n vs) : ∃ G', finish H.length G [agg (stC s y)] = (agg (stC s y), G') ∧ GrN H G' y 2 n vs := by
  rcases hy with hy | ⟨rfl, e1, e2, p⟩
  · have ho : old0 H.length y = false := by
      obtain ⟨b, ver, rfl, _, h, _⟩ := hy
      rw [old0_slc]; simp; omega
    exact ⟨G, finish_keep (n0 := H.length) (G := G) (l := stC s y) (by simp [stC, ho]), .inl hy⟩
  · have hfin : finish H.length G [agg (stC s (.slice none 0 0))] = (agg (stC s (.slice none 0 0)), G.take H.length) := fin_agg rfl
    rw [p.take] at hfin
    exact ⟨H, hfin, .inr ⟨rfl, e1, e2, .refl⟩⟩
theorem call389 {pu : Bool} {H : Heap} {f g : List Int} {base : Int} (hw : FrW f) (hk : okF f = true) (hwg : FrW g) (hb : 0 ≤ base ∧ base ≤ 39) :
    ∃ r, Call tab pu 389 [iv .u16 f, iv .u16 g, .int .i64 base] H = some r ∧ RsS H r (outB f g base 25) := by
  refine Call_ex t389 (.inr rfl) rfl ?_
  obtain ⟨_, h527, y', G', rfl, hY⟩ := call527 (pu := true) (H := H) (a := 1) (b := base) (c := 0) (d := 0) (y0 := .slice none 0 0) hw hwg
  have c1 : IntKind.wrap .i8 base = base := wrap8 (by omega)
  have hfa : fill [.int .i8 0, .int .i8 0, .int .i8 0, .int .i8 0, .slice none 0 0] [(0, 1, .int .i8 1), (1, 1, .int .i8 base)] = some [.int .i8 1, .int .i8 base, .int .i8 0, .int .i8 0, .slice none 0 0] := rfl
  simp [c389, k389, hw.len, hwg.len, c1, hfa, h527, stc5]
  refine WK_loop (fun i e G => e 3 = iv .u16 f ∧ e 4 = iv .u16 g ∧ e 2 = .int .i64 base ∧ e 8 = .int .i64 ((i : Int) - 12) ∧ ∃ y, e 7 = agg (stC (outB f g base i) y) ∧ GrN H G y 2 (outB f g base i).rows.length (chsC (outB f g base i).rows)) 25 ?_ (Nat.zero_le _) ⟨by simp, by simp, by simp, by simp, y', by simp [outB_zero, stC], by rw [outB_zero]; exact hY⟩
  rintro i e G hfr hi ⟨h3, h4, h2, h8, y, h7, hS⟩
  have h6 := hfr 6 (by decide)
  simp at h6
  have hok := outB_ok (f := f) (g := g) (base := base) (k := i)
  by_cases hi25 : i = 25
  · subst hi25
    obtain ⟨G2, e1, e2⟩ := fin_step (s := outB f g base 25) hS
    simp only [stC] at h7 e1
    simp [b389_2, h7, h8, h6, stc5, ldc5, e1]
    exact ⟨_, _, ⟨rfl, rfl⟩, y, G2, rfl, e2.pre, e2⟩
  · have hi24 : (i : Int) - 12 ≤ 12 := by omega
    have e9 : IntKind.wrap .i64 ((i : Int) - 12 + 1) = ((i + 1 : Nat) : Int) - 12 := by rw [wrap64 (by omega)]; omega
    simp [b389_2, h7, h8, hi24]
    refine inner389 (s := outB f g base i) (dx := (i : Int) - 12) hw hk hwg hb ⟨by omega, by omega⟩ hok (by simp [h3]) (by simp [h4]) (by simp [h2]) (by simp [h7]) (by simp [h8]) (by simp) hS fun e' G' y' q3 q4 q2 q8 q7 hS' => ?_
    rw [← outB_succ] at hS' q7
    simp [q3, q4, q2, q8, q7, e9]
    exact ⟨by omega, y', rfl, hS'⟩
def stZ : Sted := ⟨0, 0, 0, 0, []⟩
theorem fin_step2 {H G : Heap} {s : Sted} {y : Value} {n : Nat} {vs : List Value} {c : Int} (hy : GrN H G y 2 n vs) : ∃ G', finish H.length G [agg (stC s y), .int .i64 c] = (tup [agg (stC s y), .int .i64 c], G') ∧ GrN H G' y 2 n vs := by
  rcases hy with hy | ⟨rfl, e1, e2, p⟩
  · have ho : old0 H.length y = false := by
      obtain ⟨b, ver, rfl, _, h, _⟩ := hy
      rw [old0_slc]; simp; omega
    have h1 : old1 H.length (agg (stC s y)) = false := by
      show (stC s y).toArray.toList.all (old0 H.length) = false
      simp [stC, ho]
    have : pack H.length G [agg (stC s y), .int .i64 c] [] [] = none := by
      rw [pack, if_neg (by rw [h1]; decide)]; rfl
    exact ⟨G, by unfold finish; rw [this]; rfl, .inl hy⟩
  · have hfin : finish H.length G [agg (stC s (.slice none 0 0)), .int .i64 c] = (tup [agg (stC s (.slice none 0 0)), .int .i64 c], G.take H.length) := finish_vs (by
      have h1 : old1 H.length (agg (stC s (.slice none 0 0))) = true := by
        show (stC s (.slice none 0 0)).toArray.toList.all (old0 H.length) = true
        simp [stC]; rfl
      simp [h1])
    rw [p.take] at hfin
    exact ⟨H, hfin, .inr ⟨rfl, e1, e2, .refl⟩⟩
/-- What StepBetween hands back. -/
def RsB (H : Heap) (r : Value × Heap) (s : Sted) (c : Int) : Prop := ∃ y G, r = (tup [agg (stC s y), .int .i64 c], G) ∧ GrN H G y 2 s.rows.length (chsC s.rows)
theorem stZ_fin {H G : Heap} {c : Int} (p : Pre H G) : ∃ G', finish H.length G [agg [.int .i8 0, .int .i8 0, .int .i8 0, .int .i8 0, .slice none 0 0], .int .i64 c] = (tup [agg [.int .i8 0, .int .i8 0, .int .i8 0, .int .i8 0, .slice none 0 0], .int .i64 c], G') ∧ GrN H G' (.slice none 0 0) 2 stZ.rows.length (chsC stZ.rows) :=
  fin_step2 (s := stZ) (y := .slice none 0 0) (.inr ⟨rfl, rfl, rfl, p⟩)
theorem mk391 : MkF 391 2 2 ms2 := by
  intro G r β n0 n vs c ho hn hc0 hc1
  cases β with
  | none =>
    obtain ⟨hl, rfl, rfl⟩ := ho
    refine ⟨G, Call_wp t391 (.inl rfl) rfl ?_, .refl, by simp [mkL], rfl, rfl⟩
    simp [c391, k391]
    refine WP_forH 5 0 0 rfl (by omega) (fun i e => e 0 = .slice none 0 0 ∧ e 1 = .int .i64 c) ?_ ?_ (by simp) (by simp)
    · intro i e hi; omega
    · rintro e h5 ⟨h0, h1⟩
      simp [b391_1, h5, h0, h1]
  | some b =>
    obtain ⟨hl, hb, ver, cap, rest, rfl, hcap, hg⟩ := ho
    have hD : n * 2 ≤ (vs ++ rest).length := by simp [hl]
    refine ⟨G.set b ⟨mkL (ms2 c) (n * 2) ++ rest, 2, ver, false⟩, Call_wp t391 (.inl rfl) rfl ?_, .set, mkL_length, hb, ver, cap, rest, rfl, hcap, get_set hg⟩
    simp [c391, k391]
    refine WP_count 5 n n rfl (fun i e G' => e 0 = slc b 0 ver n cap ∧ e 1 = .int .i64 (c + (i * 2 : Nat)) ∧ G' = G.set b ⟨mkC (ms2 c) (vs ++ rest) (i * 2), 2, ver, false⟩) (by omega) ?_ ?_ (by simp) ⟨by simp, by simp, by rw [Nat.zero_mul, mkC_zero]; exact (set_self hg).symm⟩
    · rintro i e _ _ hi hii e4 h5 ⟨h0, h1, rfl⟩
      have q0 := mk_wr (n0 := G.length) (ver := ver) (esz := 2) (k := i * 2) (ms := ms2 c) (D := vs ++ rest) ⟨_, hg⟩ (by omega) ms2_flat
      have q1 := mk_wr (n0 := G.length) (ver := ver) (esz := 2) (k := i * 2 + 1) (ms := ms2 c) (D := vs ++ rest) ⟨_, hg⟩ (by omega) ms2_flat
      rw [ms2_a (by omega)] at q0
      rw [ms2_b (by omega)] at q1
      have w1 : IntKind.wrap .i64 (c + (i * 2 : Nat) + 1) = c + (i * 2 + 1 : Nat) := by rw [wrap64 (by omega)]; omega
      have w2 : IntKind.wrap .i64 (c + (i * 2 + 1 : Nat) + 1) = c + ((i + 1) * 2 : Nat) := by rw [wrap64 (by omega)]; omega
      have e6 : (i + 1) * 2 = i * 2 + 1 + 1 := by omega
      simp (disch := decide) [b391_1, h5, h0, h1, hii, at_nat hi, q0, q1, wbOf, w1, w2, e4, e6, -Int.natCast_add, -Int.natCast_mul]
    · rintro e _ _ h5 ⟨h0, h1, rfl⟩
      simp [b391_1, h5, h0, h1, mkC_all hl]
theorem held392 : HdF 392 2 2 ms2 := by
  intro pu G r β n0 n c ho hn hc0 hc1
  have hs := ho.sl
  refine Call_wp t392 (.inr rfl) rfl ?_
  simp [c392, k392]
  refine WP_forH 5 n n rfl (by omega) (fun i e => e 0 = r ∧ e 1 = .int .i64 (c + (i * 2 : Nat))) ?_ ?_ (by simp) (by simp)
  · rintro i e hi hii e4 h5 ⟨h0, h1⟩
    obtain ⟨q, off, ver, ha, hr⟩ := hs.get1 hi
    have hd : ∀ o, o < 2 → rd G q (off + o) ver 1 = some [ms2 c (i * 2 + o)] := fun o ho => by
      rw [rd_part hr (by omega)]
      unfold elem
      rw [List.drop_take, List.take_take, List.drop_drop, Nat.min_eq_left (by omega), mkL_cell (by omega)]
    have d0 := hd 0 (by omega)
    have d1 := hd 1 (by omega)
    rw [ms2_a (by omega)] at d0
    rw [ms2_b (by omega)] at d1
    rw [Nat.add_zero, Nat.add_zero] at d0
    have w1 : IntKind.wrap .i64 (c + (i * 2 : Nat) + 1) = c + (i * 2 + 1 : Nat) := by rw [wrap64 (by omega)]; omega
    have w2 : IntKind.wrap .i64 (c + (i * 2 + 1 : Nat) + 1) = c + ((i + 1) * 2 : Nat) := by rw [wrap64 (by omega)]; omega
    simp (disch := decide) [b392_1, h5, h0, h1, hs.lenV, hii, ha, d0, d1, w1, w2, e4, -Int.natCast_add, -Int.natCast_mul]
  · rintro e h5 ⟨h0, h1⟩
    simp [b392_1, h5, h0, hs.lenV, h1]
theorem GrN.ownB {H G : Heap} {x : Value} {esz n : Nat} {vs : List Value} (g : GrN H G x esz n vs) : ∃ β, Own G x β H.length esz n vs := by
  rcases g with ⟨b, ver, rfl, h1, h2, h3, _⟩ | ⟨rfl, rfl, rfl, _⟩
  · exact ⟨some b, h3, h2, ver, n, [], rfl, Nat.le_refl _, by rw [List.append_nil]; exact h1⟩
  · exact ⟨none, by simp, rfl, rfl⟩
theorem mark167 {G G' : Heap} {s : Sted} {y : Value} {n : Nat} (h : Call tab false 391 [y, .int .i64 101] G = some (.int .i64 n, G')) (hl : G'.length = G.length) : Call tab false 167 [agg (stC s y), .int .i64 101] G = some (.int .i64 n, G') := by
  refine Call_wp t167 (.inl rfl) rfl ?_
  have ht : G'.take G.length = G' := List.take_of_length_le (by omega)
  simp [c167, k167, stC, ldc5e, h, wbOf, ht]
theorem held168 {pu : Bool} {G : Heap} {s : Sted} {y : Value} {n : Nat} (h : Call tab true 392 [y, .int .i64 101] G = some (.int .i64 n, G)) : Call tab pu 168 [agg (stC s y), .int .i64 101] G = some (.int .i64 n, G) := by
  refine Call_wp t168 (.inr rfl) rfl ?_
  have hn : ¬ ((n : Int) < 0) := by omega
  simp [c168, k168, stC, ldc5e, h, hn]
/-- The better of a step and the cheapest step from a page. -/
def pickB (b : List (List Int)) (k : Nat) (p : Nat → Bool) (j : Nat) (s : Sted) : Sted :=
  if p j = true then if stCost (outB (fr b j) (fr b k) j 25) < stCost s then outB (fr b j) (fr b k) j 25 else s else s
def bestS (b : List (List Int)) (k : Nat) (p : Nat → Bool) (i : Nat) : Sted := itN (fun j s => pickB b k p j s) ⟨0, 0, 0, 0, chgL (zr 12 0) (fr b k) 12⟩ i
theorem bestS_zero {b : List (List Int)} {k : Nat} {p : Nat → Bool} : bestS b k p 0 = ⟨0, 0, 0, 0, chgL (zr 12 0) (fr b k) 12⟩ := itN_zero
theorem bestS_succ {b : List (List Int)} {k : Nat} {p : Nat → Bool} {i : Nat} : bestS b k p (i + 1) = pickB b k p i (bestS b k p i) := itN_succ
theorem pickB_ok {b : List (List Int)} {k : Nat} {p : Nat → Bool} {j : Nat} {s : Sted} (h : okS s) : okS (pickB b k p j s) := by
  unfold pickB
  split
  · split
    · exact outB_ok
    · exact h
  · exact h
theorem bestS_ok {b : List (List Int)} {k : Nat} {p : Nat → Bool} {i : Nat} : okS (bestS b k p i) := by
  induction i with
  | zero => rw [bestS_zero]; exact ⟨by simp only []; omega, by simp only []; omega, chgL_len⟩
  | succ i ih => rw [bestS_succ]; exact pickB_ok ih
theorem okFs_get {b : List (List Int)} (h : okFs b = true) {i : Nat} (hi : i < b.length) : okF (fr b i) = true := List.all_eq_true.1 (show b.all okF = true from h) _ (at0_mem hi)
/-- The impl's search over the pages, with a function that tells which may be used. -/
theorem call406 {pu : Bool} {H : Heap} {x F : Value} {b : List (List Int)} {k : Nat} {p : Nat → Bool} (h : Bk H x b) (hw : BkW b) (hok : okFs b = true) (hn : b.length ≤ 40) (hk : k < b.length)
    (hF : ∀ (G : Heap) (j : Nat), Pre H G → j < k → callV (Call tab) G F [.int .i64 (j : Int)] = some (.bool (p j), G)) :
    ∃ r, Call tab pu 406 [x, .int .i64 (k : Int), F] H = some r ∧ RsS H r (bestS b k p k) := by
  refine Call_ex t406 (.inr rfl) rfl ?_
  obtain ⟨q, off, ver, ha, hr⟩ := Bk.get h hw hk
  have hgW := hw.fr hk
  have hgl := hgW.len
  obtain ⟨_, h527, y', G', rfl, hY⟩ := call527 (pu := true) (H := H) (a := 0) (b := 0) (c := 0) (d := 0) (y0 := .slice none 0 0) zr_ok.1 hgW
  have hfa : fill [.int .i8 0, .int .i8 0, .int .i8 0, .int .i8 0, .slice none 0 0] [(0, 1, .int .i8 0)] = some [.int .i8 0, .int .i8 0, .int .i8 0, .int .i8 0, .slice none 0 0] := rfl
  simp [c406, k406, zs_cs, agg_cs, fill, ha, hr, h527, stc5, splice]
  refine WP_count 18 k k rfl (fun i e G => e 0 = x ∧ e 1 = .int .i64 k ∧ e 2 = F ∧ e 17 = .int .i64 k ∧ e 6 = agg [.int .i8 0, .int .i8 0, .int .i8 0, .int .i8 0, .slice none 0 0] ∧ ∃ y, e 7 = agg (stC (bestS b k p i) y) ∧ GrN H G y 2 (bestS b k p i).rows.length (chsC (bestS b k p i).rows)) (by omega) ?_ ?_ (by simp) ⟨by simp, by simp, by simp, by simp, by simp, y', by simp [bestS_zero, stC], by rw [bestS_zero]; exact hY⟩
  · rintro i e G _ hi hii e4 h18 ⟨h0, h1, h2, h17, h6, y, h7, hS⟩
    have hFi := hF G i hS.pre hi
    have hsucc := bestS_succ (b := b) (k := k) (p := p) (i := i)
    have hok2 := bestS_ok (b := b) (k := k) (p := p) (i := i)
    generalize bestS b k p i = t at *
    obtain ⟨q2, off2, ver2, ha2, hr2⟩ := Bk.get (SlR.pre hS.pre h) hw (i := i) (by omega)
    obtain ⟨q3, off3, ver3, ha3, hr3⟩ := Bk.get (SlR.pre hS.pre h) hw hk
    have hfW := hw.fr (i := i) (by omega)
    cases hp : p i with
    | false =>
      rw [hp] at hFi
      rw [pickB, hp, if_neg (by decide)] at hsucc
      simp [b406_1, h18, h0, h1, h2, h17, h6, h7, hii, hFi, e4]
      rw [hsucc]
      exact ⟨y, rfl, hS⟩
    | true =>
      rw [hp] at hFi
      rw [pickB, hp, if_pos rfl] at hsucc
      obtain ⟨_, h389, y2, G2, rfl, hP2, hY2⟩ := call389 (pu := true) (H := G) (base := (i : Int)) hfW (okFs_get hok (i := i) (by omega)) hgW ⟨by omega, by omega⟩
      have hY2' := hY2.low hS.pre
      have hS2 := hS.app hP2
      have hoo := outB_ok (f := fr b i) (g := fr b k) (base := (i : Int)) (k := 25)
      generalize outB (fr b i) (fr b k) (i : Int) 25 = u at *
      have c1 := cost312 (pu := true) (H := G2) (s := u) hY2.sl ⟨hoo.1, hoo.2.1⟩ (by have := hoo.2.2; omega)
      have c2 := cost312 (pu := true) (H := G2) (s := t) hS2.sl ⟨hok2.1, hok2.2.1⟩ (by have := hok2.2.2; omega)
      simp only [stC] at h7 h389 c1 c2
      by_cases hc : stCost u < stCost t
      · rw [if_pos hc] at hsucc
        simp [b406_1, h18, h0, h1, h2, h17, h6, h7, hii, hFi, ha2, hr2, ha3, hr3, agg_cs, h389, stc5, ldc5, c1, c2, hc, e4]
        rw [hsucc]
        exact ⟨y2, rfl, hY2'⟩
      · rw [if_neg hc] at hsucc
        simp [b406_1, h18, h0, h1, h2, h17, h6, h7, hii, hFi, ha2, hr2, ha3, hr3, agg_cs, h389, stc5, ldc5, c1, c2, hc, e4]
        rw [hsucc]
        exact ⟨y, rfl, hS2⟩
  · rintro e G _ h18 ⟨h0, h1, h2, h17, h6, y, h7, hS⟩
    obtain ⟨G2, e1, e2⟩ := fin_step (s := bestS b k p k) hS
    simp only [stC] at h7 e1
    simp [b406_1, h18, h17, h7, h6, stc5, ldc5, e1]
    exact ⟨_, _, ⟨rfl, rfl⟩, y, G2, rfl, e2.pre, e2⟩
structure StP (H G : Heap) (P : Nat) (s : Sted) (y : Value) : Prop where
  ge : H.length ≤ P
  blk : G[P]? = some ⟨stC s y, 1, 0, false⟩
  row : GrN H G y 2 s.rows.length (chsC s.rows)
theorem StP.rd {H G : Heap} {P : Nat} {s : Sted} {y : Value} (h : StP H G P s y) : rd G P 0 0 5 = some (stC s y) := by
  rw [rd_at h.blk rfl (by simp [stC])]; rfl
theorem StP.app {H G G' : Heap} {P : Nat} {s : Sted} {y : Value} (p : Pre G G') (h : StP H G P s y) : StP H G' P s y :=
  ⟨h.ge, by rw [p.get (List.getElem?_eq_some_iff.1 h.blk).1]; exact h.blk, h.row.app p⟩
theorem GrN.set {H G : Heap} {y : Value} {n P : Nat} {vs : List Value} {k k' : Blk} (g : GrN H G y 2 n vs) (ge : H.length ≤ P) (hP : G[P]? = some k) (hk : k.esz = 1) : GrN H (G.set P k') y 2 n vs := by
  rcases g with ⟨b, ver, e1, e2, e3, e4, q⟩ | ⟨e1, e2, e3, q⟩
  · have hne : P ≠ b := by
      rintro rfl
      rw [hP] at e2
      cases e2
      cases hk
    exact .inl ⟨b, ver, e1, by rw [List.getElem?_set_ne hne]; exact e2, e3, e4, q.set ge⟩
  · exact .inr ⟨e1, e2, e3, q.set ge⟩
theorem call404 {pu : Bool} {H : Heap} {x z : Value} {b : List (List Int)} {k : Nat} {ds : List Int} {lim : Int} (h : Bk H x b) (hw : BkW b) (hok : okFs b = true) (hn : b.length ≤ 40) (hk : k < b.length) (hz : SlR H z 1 ds.length (cs .i64 ds)) (hd : k ≤ ds.length) :
    ∃ r, Call tab pu 404 [x, .int .i64 (k : Int), z, .int .i64 lim] H = some r ∧ RsS H r (bestS b k (fun j => !decide (lim ≤ nth ds j)) k) := by
  refine Call_ex t404 (.inr rfl) rfl ?_
  obtain ⟨q, off, ver, ha, hr⟩ := Bk.get h hw hk
  have hgW := hw.fr hk
  have hgl := hgW.len
  obtain ⟨L, hL⟩ : ∃ L, L = chgL (zr 12 0) (fr b k) 12 := ⟨_, rfl⟩
  obtain ⟨G1, hG1⟩ : ∃ G1, G1 = H ++ [(⟨cs .u16 (zr 12 0), 1, 0, false⟩ : Blk)] := ⟨_, rfl⟩
  have p1 : Pre H G1 := by rw [hG1]; exact Pre.one
  have hwr1 : wr H.length false (H ++ [⟨cs .u16 (zr 12 0), 1, 0, false⟩]) H.length 0 0 (cs .u16 (zr 12 0)) = some G1 := by
    rw [wr_at get_last rfl rfl (by simp [may]) (by simp), hG1]
    simp [splice]
  have r1 : rd G1 H.length 0 0 12 = some (cs .u16 (zr 12 0)) := by rw [hG1]; exact rd_last rfl (by simp)
  have h525 := call525 (pu := true) zr_ok.1 hgW r1 (p1.rd hr)
  rw [← hL] at h525
  obtain ⟨G2, hG2⟩ : ∃ G2, G2 = G1 ++ [(⟨chsC L, 2, 0, false⟩ : Blk)] := ⟨_, rfl⟩
  obtain ⟨y, hy⟩ : ∃ y, y = slc G1.length 0 0 L.length L.length := ⟨_, rfl⟩
  rw [← hy, ← hG2] at h525
  have p2 : Pre H G2 := p1.trans (by rw [hG2]; exact Pre.one)
  have hfa : fill [.int .i8 0, .int .i8 0, .int .i8 0, .int .i8 0, .slice none 0 0] [(0, 1, .int .i8 0), (4, 1, y)] = some [.int .i8 0, .int .i8 0, .int .i8 0, .int .i8 0, y] := by rw [hy]; rfl
  obtain ⟨G3, hG3⟩ : ∃ G3, G3 = G2 ++ [(⟨stC ⟨0, 0, 0, 0, L⟩ y, 1, 0, false⟩ : Blk)] := ⟨_, rfl⟩
  have hwr2 : wr H.length false (G2 ++ [⟨[.int .i8 0, .int .i8 0, .int .i8 0, .int .i8 0, .slice none 0 0], 1, 0, false⟩]) G2.length 0 0 [.int .i8 0, .int .i8 0, .int .i8 0, .int .i8 0, y] = some G3 := by
    rw [wr_at get_last rfl rfl (by simp [may]; exact p2.len) (by simp), hG3]
    simp [splice, stC]
  have p3 : Pre H G3 := p2.trans (by rw [hG3]; exact Pre.one)
  have S0 : StP H G3 G2.length ⟨0, 0, 0, 0, L⟩ y := by
    refine ⟨p2.len, by rw [hG3]; exact get_last, .inl ⟨G1.length, 0, hy, ?_, p1.len, chsC_length, p3⟩⟩
    rw [hG3, List.getElem?_append_left (by rw [hG2]; simp), hG2]; exact get_last
  rw [hL] at S0
  simp [c404, k404, zs_cs, agg_cs, fill, hwr1, wbOf, ha, h525, hfa, hwr2]
  refine WP_count 11 k k rfl (fun i e G => e 0 = x ∧ e 1 = .int .i64 k ∧ e 2 = z ∧ e 3 = .int .i64 lim ∧ e 8 = agg [.int .i8 0, .int .i8 0, .int .i8 0, .int .i8 0, .slice none 0 0] ∧ e 10 = adr G2.length 0 0 ∧ ∃ y, StP H G G2.length (bestS b k (fun j => !decide (lim ≤ nth ds j)) i) y) (by omega) ?_ ?_ (by simp) ⟨by simp, by simp, by simp, by simp, by simp, by simp, y, by rw [bestS_zero]; exact S0⟩
  · rintro i e G _ hi hii e4 h11 ⟨h0, h1, h2, h3, h8, h10, y, hS⟩
    have hsucc := bestS_succ (b := b) (k := k) (p := fun j => !decide (lim ≤ nth ds j)) (i := i)
    have hok2 := bestS_ok (b := b) (k := k) (p := fun j => !decide (lim ≤ nth ds j)) (i := i)
    generalize bestS b k (fun j => !decide (lim ≤ nth ds j)) i = t at *
    have hPG := hS.row.pre
    obtain ⟨qz, oz, vz, haz, hrz⟩ := (SlR.pre hPG hz).get1 (i := i) (by omega)
    rw [elem_i (by omega)] at hrz
    cases hp : decide (lim ≤ nth ds i) with
    | true =>
      rw [pickB] at hsucc
      simp only [hp, Bool.not_true] at hsucc
      rw [if_neg (by decide)] at hsucc
      have hp' : lim ≤ nth ds i := by simpa using hp
      simp [b404_1, h11, h0, h1, h2, h3, h8, h10, hii, haz, hrz, hp', e4]
      exact ⟨y, by rw [hsucc]; exact hS⟩
    | false =>
      rw [pickB] at hsucc
      simp only [hp, Bool.not_false, if_true] at hsucc
      have hp' : ¬ lim ≤ nth ds i := by simpa using hp
      obtain ⟨Ga, hGa⟩ : ∃ Ga, Ga = G ++ [(⟨[.int .i8 0, .int .i8 0, .int .i8 0, .int .i8 0, .slice none 0 0], 1, 0, false⟩ : Blk)] := ⟨_, rfl⟩
      have pa : Pre G Ga := by rw [hGa]; exact Pre.one
      have pHa := hPG.trans pa
      obtain ⟨q2, off2, ver2, ha2, hr2⟩ := Bk.get h hw (i := i) (by omega)
      have hfW := hw.fr (i := i) (by omega)
      obtain ⟨_, h388, y2, Gb, rfl, hPb, hY2⟩ := call388 (pu := true) (H := Ga) (base := (i : Int)) hfW (okFs_get hok (i := i) (by omega)) hgW (pHa.rd hr2) (pHa.rd hr) ⟨by omega, by omega⟩
      have hoo := outB_ok (f := fr b i) (g := fr b k) (base := (i : Int)) (k := 25)
      generalize outB (fr b i) (fr b k) (i : Int) 25 = u at *
      have hlt : G.length < Ga.length := by rw [hGa]; simp
      have hQb : Gb[G.length]? = some ⟨[.int .i8 0, .int .i8 0, .int .i8 0, .int .i8 0, .slice none 0 0], 1, 0, false⟩ := by
        rw [hPb.get hlt, hGa]; exact get_last
      obtain ⟨Gc, hGc⟩ : ∃ Gc, Gc = Gb.set G.length ⟨stC u y2, 1, 0, false⟩ := ⟨_, rfl⟩
      have hgeQ : H.length ≤ G.length := hPG.len
      have hwr3 : wr H.length false Gb G.length 0 0 [.int .i8 u.a, .int .i8 u.b, .int .i8 u.c, .int .i8 u.d, y2] = some Gc := by
        rw [wr_at hQb rfl rfl (by simp [may]; exact hgeQ) (by simp), hGc]; rfl
      have Su : StP H Gc G.length u y2 := ⟨hgeQ, by rw [hGc]; exact get_set hQb, by rw [hGc]; exact (hY2.low pHa).set hgeQ hQb rfl⟩
      have hPlt : G2.length < G.length := (List.getElem?_eq_some_iff.1 hS.blk).1
      have hSb := hS.app (pa.trans hPb)
      have St : StP H Gc G2.length t y := ⟨hS.ge, by rw [hGc, List.getElem?_set_ne (by omega)]; exact hSb.blk, by rw [hGc]; exact hSb.row.set hgeQ hQb rfl⟩
      have c1 := cost310 (pu := true) Su.rd Su.row.sl ⟨hoo.1, hoo.2.1⟩ (by have := hoo.2.2; omega)
      have c2 := cost310 (pu := true) St.rd St.row.sl ⟨hok2.1, hok2.2.1⟩ (by have := hok2.2.2; omega)
      have rQ := Su.rd
      simp only [stC] at h388 rQ
      have haG : idxAV 12 x (.int .i64 (k : Int)) = some (adr q off ver) := ha
      by_cases hc : stCost u < stCost t
      · rw [if_pos hc] at hsucc
        obtain ⟨Gd, hGd⟩ : ∃ Gd, Gd = Gc.set G2.length ⟨stC u y2, 1, 0, false⟩ := ⟨_, rfl⟩
        have hwr4 : wr H.length false Gc G2.length 0 0 [.int .i8 u.a, .int .i8 u.b, .int .i8 u.c, .int .i8 u.d, y2] = some Gd := by
          rw [wr_at St.blk rfl rfl (by simp [may]; exact hS.ge) (by simp [stC]), hGd]; rfl
        have Sd : StP H Gd G2.length u y2 := ⟨hS.ge, by rw [hGd]; exact get_set St.blk, by rw [hGd]; exact Su.row.set hS.ge St.blk rfl⟩
        simp [b404_1, h11, h0, h1, h2, h3, h8, h10, hii, haz, hrz, hp', ha2, haG, ← hGa, h388, hwr3, wbOf, c1, c2, hc, rQ, hwr4, e4]
        exact ⟨y2, by rw [hsucc]; exact Sd⟩
      · rw [if_neg hc] at hsucc
        simp [b404_1, h11, h0, h1, h2, h3, h8, h10, hii, haz, hrz, hp', ha2, haG, ← hGa, h388, hwr3, wbOf, c1, c2, hc, e4]
        exact ⟨y, by rw [hsucc]; exact St⟩
  · rintro e G _ h11 ⟨h0, h1, h2, h3, h8, h10, y, hS⟩
    obtain ⟨G5, e1, e2⟩ := fin_step (s := bestS b k (fun j => !decide (lim ≤ nth ds j)) k) hS.row
    have hrd := hS.rd
    simp only [stC] at hrd e1
    simp [b404_1, h11, h1, h8, h10, hrd, stc5, ldc5, e1]
    exact ⟨_, _, ⟨rfl, rfl⟩, y, G5, rfl, e2.pre, e2⟩
def bsC (b : List (List Int)) (p : Int) : Int := if okB b = true then if 0 ≤ p ∧ p < b.length then 0 else 2 else 1
def bsS (b : List (List Int)) (p : Int) : Sted := if bsC b p = 0 then bestS b p.toNat (fun _ => true) p.toNat else stZ
theorem bsC_zero {b : List (List Int)} {p : Int} (h : bsC b p = 0) : okB b = true ∧ 0 ≤ p ∧ p < b.length := by
  unfold bsC at h
  split at h
  · rename_i h1
    split at h
    · rename_i h2; exact ⟨h1, h2⟩
    · omega
  · omega
theorem bestS_congr {b : List (List Int)} {k : Nat} {p q : Nat → Bool} {i : Nat} (h : ∀ j, j < i → p j = q j) : bestS b k p i = bestS b k q i := by
  induction i with
  | zero => rw [bestS_zero, bestS_zero]
  | succ i ih => rw [bestS_succ, bestS_succ, ih fun j hj => h j (by omega), pickB, pickB, h i (by omega)]
theorem call403 {pu : Bool} {H : Heap} {x : Value} {b : List (List Int)} {p : Int} (h : Bk H x b) (hw : BkW b) (hn : b.length ≤ 1000000) : Call tab pu 403 [x, .int .i64 p] H = some (.int .i64 (bsC b p), H) := by
  refine Call_wp t403 (.inr rfl) rfl ?_
  have hc := call318 (pu := true) h hw (by omega)
  have e1 : IntKind.wrap .i64 ((b.length : Int) - 1) = (b.length : Int) - 1 := wrap64 (by omega)
  cases hk : okB b with
  | false => simp [c403, k403, hc, hk, bsC]
  | true =>
    cases hp : in1 p 0 ((b.length : Int) - 1) with
    | false =>
      have : ¬ (0 ≤ p ∧ p < b.length) := by simp [in1] at hp; omega
      simp [c403, k403, hc, hk, SlR.lenV h, e1, in304, hp, bsC, this]
    | true =>
      have : 0 ≤ p ∧ p < b.length := by simp [in1] at hp; omega
      simp [c403, k403, hc, hk, SlR.lenV h, e1, in304, hp, bsC, this]
theorem call405 {pu : Bool} {H : Heap} {x : Value} {b : List (List Int)} {p : Int} (h : Bk H x b) (hw : BkW b) (hn : b.length ≤ 1000000) : Call tab pu 405 [x, .int .i64 p] H = some (.int .i64 (bsC b p), H) := by
  refine Call_wp t405 (.inr rfl) rfl ?_
  have hc := call316 (pu := true) h hw (by omega)
  have h365 := call365 (pu := true) (H := H) (p := p) (SlR.lenV h) hn
  cases hk : okB b with
  | false => simp [c405, k405, hc, hk, bsC]
  | true =>
    by_cases hp : 0 ≤ p ∧ p < b.length
    · rw [decide_eq_true hp] at h365
      simp [c405, k405, hc, hk, h365, bsC, hp]
    · rw [decide_eq_false hp] at h365
      simp [c405, k405, hc, hk, h365, bsC, hp]
theorem call187 {pu : Bool} {H : Heap} {x : Value} {b : List (List Int)} {p : Int} (h : Bk H x b) (hw : BkW b) (hn : b.length ≤ 1000000) : ∃ r, Call tab pu 187 [x, .int .i64 p] H = some r ∧ RsB H r (bsS b p) (bsC b p) := by
  refine Call_ex t187 (.inr rfl) rfl ?_
  have hc := call405 (pu := true) (p := p) h hw hn
  by_cases h0 : bsC b p = 0
  · obtain ⟨hk, hp0, hpl⟩ := bsC_zero h0
    obtain ⟨m, rfl⟩ := Int.eq_ofNat_of_zero_le hp0
    have hb : bsS b m = bestS b m (fun _ => true) m := by rw [bsS, if_pos h0]; rfl
    have hok : okFs b = true := by simp only [okB, Bool.and_eq_true] at hk; exact hk.1
    obtain ⟨_, h406, y, G, rfl, hP, hY⟩ := call406 (pu := true) (H := H) (F := .func (.func 407) #[] #[]) (p := fun _ => true) h hw hok (okB_len hk) (k := m) (by omega) fun G j _ _ => by
      have : Call tab true 407 [.int .i64 (j : Int)] G = some (.bool true, G) := by
        refine Call_wp t407 (.inr rfl) rfl ?_
        simp [c407, k407]
      simp [this]
    obtain ⟨G2, e1, e2⟩ := fin_step2 (s := bestS b m (fun _ => true) m) (c := 0) hY
    simp only [stC] at h406 e1
    simp [c187, k187, hc, h0, h406, stc5, ldc5, e1]
    exact ⟨_, _, ⟨rfl, rfl⟩, y, G2, by simp [hb, stC], by rw [hb]; exact e2⟩
  · have h1 : (bsC b p != 0) = true := by simpa using h0
    have hb : bsS b p = stZ := by rw [bsS, if_neg h0]
    obtain ⟨G2, e1, e2⟩ := stZ_fin (H := H) (c := bsC b p) .refl
    simp [c187, k187, hc, h1, fill, stc5, ldc5, e1]
    exact ⟨_, _, ⟨rfl, rfl⟩, .slice none 0 0, G2, by simp [hb, stZ, stC], by rw [hb]; exact e2⟩
theorem rep_zr {n : Nat} : rep n [Value.int .i64 0] = cs .i64 (zr n 0) := by
  induction n with
  | zero => rfl
  | succ n ih => rw [rep, ih]; rfl
theorem call186 {pu : Bool} {H : Heap} {x : Value} {b : List (List Int)} {p : Int} (h : Bk H x b) (hw : BkW b) (hn : b.length ≤ 1000000) : ∃ r, Call tab pu 186 [x, .int .i64 p] H = some r ∧ RsB H r (bsS b p) (bsC b p) := by
  refine Call_ex t186 (.inr rfl) rfl ?_
  have hc := call403 (pu := true) (p := p) h hw hn
  by_cases h0 : bsC b p = 0
  · obtain ⟨hk, hp0, hpl⟩ := bsC_zero h0
    obtain ⟨m, rfl⟩ := Int.eq_ofNat_of_zero_le hp0
    have hb : bsS b m = bestS b m (fun _ => true) m := by rw [bsS, if_pos h0]; rfl
    have hok : okFs b = true := by simp only [okB, Bool.and_eq_true] at hk; exact hk.1
    have hmk : (0 ≤ (b.length : Int) ∧ (b.length : Int) ≤ (b.length : Int) ∧ (b.length : Int) * 8 ≤ (roomMax : Int)) := by
      have h2 : roomMax = 140737488355328 := rfl
      omega
    have hrep := rep_zr (n := b.length)
    obtain ⟨G, hG⟩ : ∃ G, G = H ++ [(⟨cs .i64 (zr b.length 0), 1, 0, false⟩ : Blk)] := ⟨_, rfl⟩
    have hPG : Pre H G := by rw [hG]; exact Pre.one
    have hzs : SlR G (slc H.length 0 0 b.length b.length) 1 (zr b.length 0).length (cs .i64 (zr b.length 0)) := by
      rw [hG, show (zr b.length 0).length = b.length by simp]
      exact (own_new (H := H) (esz := 1) (n := b.length) (by simp)).sl
    obtain ⟨_, h404, y, G', rfl, hP, hY⟩ := call404 (pu := true) (H := G) (lim := 1) (SlR.pre hPG h) hw hok (okB_len hk) (k := m) (by omega) hzs (by simp; omega)
    have hcg : bestS b m (fun j => !decide ((1 : Int) ≤ nth (zr b.length 0) j)) m = bestS b m (fun _ => true) m := bestS_congr fun j _ => by rw [nth_zr]; rfl
    rw [hcg] at h404 hY
    obtain ⟨G2, e1, e2⟩ := fin_step2 (s := bestS b m (fun _ => true) m) (c := 0) (hY.low hPG)
    simp only [stC] at h404 e1
    simp [c186, k186, hc, h0, SlR.lenV h, ev1_mkS, mksV_int, hmk, hrep, ← hG, h404, stc5, ldc5, e1]
    exact ⟨_, _, ⟨rfl, rfl⟩, y, G2, by simp [hb, stC], by rw [hb]; exact e2⟩
  · have h1 : (bsC b p != 0) = true := by simpa using h0
    have hb : bsS b p = stZ := by rw [bsS, if_neg h0]
    obtain ⟨G2, e1, e2⟩ := stZ_fin (H := H) (c := bsC b p) .refl
    simp [c186, k186, hc, h1, fill, stc5, ldc5, e1]
    exact ⟨_, _, ⟨rfl, rfl⟩, .slice none 0 0, G2, by simp [hb, stZ, stC], by rw [hb]; exact e2⟩
theorem bsS_len {b : List (List Int)} {p : Int} : (bsS b p).rows.length ≤ 12 := by
  unfold bsS
  split
  · exact bestS_ok.2.2
  · simp [stZ]
theorem call33 {H : Heap} {x : Value} {b : List (List Int)} {p : Int} (hs : Bk H x b) (hw : BkW b) (hnb : b.length ≤ 9223372036854775807) : ∃ H', Call tab false 33 [x, .int .i64 p] H = some (.bool true, H') := by
  refine ⟨H, Call_wp t33 (.inl rfl) rfl ?_⟩
  have hsz := sz_call s103 (pu := true) hs (left := 1000000) (by omega) (by omega) hnb
  by_cases hbig : b.length ≤ 1000000
  rotate_left
  · have hsz' : 1000000 - (b.length : Int) < 0 := by omega
    rw [if_pos hsz'] at hsz
    simp [c33, k33, hsz]
  have hsz' : ¬ (1000000 - (b.length : Int) < 0) := by omega
  rw [if_neg hsz'] at hsz
  have hbl := bkC_length hw
  have hlen := bsS_len (b := b) (p := p)
  have h186 := fun G y h => call186 (pu := true) (H := G) (x := y) (p := p) h hw hbig
  have h187 := fun G y h => call187 (pu := true) (H := G) (x := y) (p := p) h hw hbig
  generalize bsS b p = s at *
  generalize bsC b p = c at *
  obtain ⟨x1, G1, q1, k1, o1, p1⟩ := cp_own (pu := true) hbl rfl (call105 hs hw hbig)
  obtain ⟨_, w1, ys, G1', rfl, Y1⟩ := h186 G1 x1 o1.sl
  have P1 := p1.trans Y1.pre
  obtain ⟨x2, G2, q2, k2, o2, p2⟩ := cp_own (pu := true) hbl rfl (call105 (SlR.pre P1 hs) hw hbig)
  obtain ⟨_, w2, yi, G2', rfl, Y2⟩ := h187 G2 x2 o2.sl
  obtain ⟨βs, os⟩ := Y1.ownB
  obtain ⟨βi, oi⟩ := Y2.ownB
  have P2 := (P1.trans p2).trans Y2.pre
  have os2 := (os.pre p2).pre Y2.pre
  have e1 := call166 (pu := true) (s := s) oi.sl os2.sl (by omega)
  obtain ⟨x3, G3, q3, k3, o3, p3⟩ := cp_own (pu := true) hbl rfl (call105 (SlR.pre P2 hs) hw hbig)
  have P3 := P2.trans p3
  have i1 := call107 (pu := true) ((k2.pre Y2.pre).pre p3) k3 hw hbig
  have os3 := os2.pre p3
  have oi3 := oi.pre p3
  obtain ⟨G4, m1, s4, o24⟩ := mark122 G3 x2 _ _ b.length _ 101 ((o2.pre Y2.pre).pre p3) hbig (by omega) (by omega)
  have hG1 : H.length ≤ G1'.length := P1.len
  have P4 : Pre H G4 := s4.pre P3 fun b hb => by cases hb; exact hG1
  have hb2 : G1'.length < G2.length := o2.lt.2
  have os4 := os3.same s4 fun b hb he => by
    subst hb
    have := os.lt
    cases he; omega
  have oi4 := oi3.same s4 fun b hb he => by
    subst hb
    have := oi.lt
    cases he; omega
  have e3 := call166 (pu := true) (s := s) oi4.sl os4.sl (by omega)
  have m2 : (Call tab false 122 [x2, .int .i64 101] G3).bind (elder H.length false G3) = some (.int .i64 (101 + (b.length * 12 : Nat)), G4) := by rw [m1]; exact elder_pre P3 P4
  obtain ⟨G5, n1, s5, oi5⟩ := mk391 G4 yi βi _ _ _ 101 oi4 (by omega) (by omega) (by omega)
  have hG2 : H.length ≤ G2.length := (P1.trans p2).len
  have P5 : Pre H G5 := s5.pre P4 fun b hb => Nat.le_trans hG2 (oi.below b hb)
  have os5 := os4.same s5 fun b hb he => by
    subst hb
    have h1 := os.lt
    have h2 := oi.below b he
    have h3 := p2.len
    omega
  have d1 := held392 true G5 yi βi _ _ 101 oi5 (by omega) (by omega) (by omega)
  have M : (101 : Int) + ((s.rows.length * 2 : Nat) : Int) = ((101 + s.rows.length * 2 : Nat) : Int) := by omega
  rw [M] at n1 d1
  have n2 := mark167 (s := s) n1 s5.len
  have n3 : (Call tab false 167 [agg (stC s yi), .int .i64 101] G4).bind (elder H.length false G4) = some (.int .i64 ((101 + s.rows.length * 2 : Nat) : Int), G5) := by rw [n2]; exact elder_pre P4 P5
  have d2 := held168 (pu := true) (s := s) d1
  obtain ⟨x4, G6, q4, r4, p6⟩ := cp_true (pu := true) hbl rfl (call105 (SlR.pre P5 hs) hw hbig)
  obtain ⟨_, w3, y3, G7, rfl, Y3⟩ := h187 G6 x4 r4
  have P7 := (P5.trans p6).trans Y3.pre
  have e4 := call166 (pu := true) (s := s) Y3.sl ((os5.pre p6).pre Y3.pre).sl (by omega)
  have d3 := held392 true G7 yi βi _ _ 101 ((oi5.pre p6).pre Y3.pre) (by omega) (by omega) (by omega)
  rw [M] at d3
  have d4 := held168 (pu := true) (s := s) d3
  have hneg : ¬ (((101 + s.rows.length * 2 : Nat) : Int) < 0) := by omega
  have hneg2 : ¬ ((101 : Int) + ((b.length * 12 : Nat) : Int) < 0) := by omega
  simp only [stC] at w1 w2 w3 e1 e3 e4 n3 d2 d4
  simp [c33, k33, hsz, hsz', wbOf, q1, w1, q2, w2, stc5, ldc5, e1, q3, i1, m2, e3, n3, d2, q4, w3, e4, d4, hneg, hneg2, skip, P7.take, -Int.natCast_add, -Int.natCast_mul]
end Fb
