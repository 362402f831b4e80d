/- What each function computes. -/
import Derived.Test.YtkkncjfgnielgabUse0
set_option linter.unusedVariables false
set_option linter.unusedSimpArgs false
namespace Fb
open Go
theorem call144 {b : List (List Int)} {f : List Int} {p : Int} (hw : BkW b) (hf : FrW f) (hn : b.length ≤ 1000000) : RsX 144 [iv .u16 f, .int .i64 p] 12 b.length (bkC b) 12 (resB b f p).length (bkC (resB b f p)) (resC b f p) := by
  intro H x h
  have hc := call316 (pu := true) h hw (by omega)
  by_cases hk : okB b = true ∧ okF f = true
  · obtain ⟨hk1, hk2⟩ := hk
    have hpg := call365 (pu := true) (H := H) (p := p) (SlR.lenV h) hn
    by_cases hp : 0 ≤ p ∧ p < b.length
    · obtain ⟨i, rfl⟩ := Int.eq_ofNat_of_zero_le hp.1
      have hi : i < b.length := by omega
      have hr : resB b f (i : Int) = b.set i (resF b f i) := by rw [resB, if_pos ⟨hk1, hk2, hp⟩]; rfl
      have hcode : resC b f (i : Int) = 0 := by rw [resC, if_pos ⟨hk1, hk2⟩, if_pos hp]
      refine ⟨slc H.length 0 0 (resB b f i).length (resB b f i).length, H ++ [⟨bkC (resB b f i), 12, 0, false⟩], some H.length, Call_wp t144 (.inr rfl) rfl ?_, Pre.one, own_new (resB_cells hw)⟩
      have hcl := call366 (pu := true) h hw hn (by omega)
      obtain ⟨G, hG⟩ : ∃ G, G = H ++ [(⟨bkC b, 12, 0, false⟩ : Blk)] := ⟨_, rfl⟩
      have hP : Pre H G := by rw [hG]; exact Pre.one
      rw [← hG] at hcl
      have hg : Gr H G (slc H.length 0 0 b.length b.length) 12 b.length (bkC b) := ⟨_, _, rfl, by rw [hG]; exact get_last, Nat.le_refl _, bkC_length hw, hP⟩
      have hpar := call340 (pu := true) (h.pre hP) hw hn
      obtain ⟨q, off, ver, ha, hrd⟩ := Bk.get h hw hi
      have hrd := hP.rd hrd
      have hfi := hw.fr hi
      have hx1 := call367 (pu := true) (H := G) (a := parF b) (b := fr b i) parF_length hfi.len
      have hx2 := call367 (pu := true) (H := G) (a := mixF xorI (parF b) (fr b i)) (b := f) mixF_length hf.len
      have hres : mixF xorI (mixF xorI (parF b) (fr b i)) f = resF b f i := rfl
      rw [hres] at hx2
      obtain ⟨bb, vv, g1, g2, g3, g4, g5⟩ := hg.place hi
      obtain ⟨hwr, hg'⟩ := g5 0 (cs .u16 (resF b f i)) false (by simp [resF_length])
      rw [Nat.add_zero] at hwr hg'
      have hbw := bkC_write (fun g hg => (hw g hg).len) hi (k := 0) (vs := resF b f i) (by rw [resF_length]; omega)
      rw [Nat.add_zero, wrt_all (by rw [resF_length]; exact hfi.len)] at hbw
      rw [hbw] at hwr hg'
      have hfin := hg'.fin2 bkC_flat (c := 0)
      generalize hX : slc H.length 0 0 b.length b.length = X at *
      simp [c144, k144, hf.len, hc, hk1, call234 hf.len, hk2, hpg, hi, hcl, hpar, ha, hrd, agg_cs, hx1, hx2, g1, resF_length, hwr, wbOf, hfin, hr, hcode, skip]
      rw [← hX]
    · have hr : resB b f p = [] := by rw [resB, if_neg fun h => hp h.2.2]
      have hcode : resC b f p = 2 := by rw [resC, if_pos ⟨hk1, hk2⟩, if_neg hp]
      have hp' : (decide (0 ≤ p) && decide (p < b.length)) = false := by simpa using hp
      refine ⟨.slice none 0 0, H, none, Call_wp t144 (.inr rfl) rfl ?_, .refl, by rw [hr]; rfl, rfl, by rw [hr]; rfl⟩
      simp [c144, k144, hf.len, hc, hk1, call234 hf.len, hk2, hpg, hp', finish_nil2, hcode, skip]
  · have hr : resB b f p = [] := by rw [resB, if_neg fun h => hk ⟨h.1, h.2.1⟩]
    have hcode : resC b f p = 1 := by rw [resC, if_neg hk]
    refine ⟨.slice none 0 0, H, none, Call_wp t144 (.inr rfl) rfl ?_, .refl, by rw [hr]; rfl, rfl, by rw [hr]; rfl⟩
    cases hk1 : okB b with
    | false => simp [c144, k144, hc, hk1, finish_nil2, hcode, skip]
    | true =>
      have hk2 : okF f = false := by
        cases h2 : okF f with
        | false => rfl
        | true => exact absurd ⟨hk1, h2⟩ hk
      simp [c144, k144, hf.len, hc, hk1, call234 hf.len, hk2, finish_nil2, hcode, skip]
theorem wrt_set {l : List Int} {k : Nat} {v : Int} {m : List Int} (h : k < l.length) (hm : l.set k v = m) : wrt l k [v] = m := by rw [wrt_one h, hm]
theorem set_at0 {b : List (List Int)} {i : Nat} (hi : i < b.length) : b.set i (fr b i) = b := by
  apply List.ext_getElem?
  intro j
  by_cases h : i = j
  · subst h; rw [List.getElem?_set_self hi]; exact (at0_get hi).symm
  · rw [List.getElem?_set_ne h]
theorem call143 {b : List (List Int)} {f : List Int} {p : Int} (hw : BkW b) (hf : FrW f) (hn : b.length ≤ 1000000) : RsX 143 [iv .u16 f, .int .i64 p] 12 b.length (bkC b) 12 (resB b f p).length (bkC (resB b f p)) (resC b f p) := by
  intro H x h
  obtain ⟨G, hG⟩ : ∃ G, G = H ++ [(⟨cs .u16 f, 1, 0, false⟩ : Blk)] := ⟨_, rfl⟩
  have hP : Pre H G := by rw [hG]; exact Pre.one
  have hrf : rd G H.length 0 0 12 = some (cs .u16 f) := by rw [hG]; exact rd_last rfl (by simp [hf.len])
  have h' := h.pre hP
  have hc := call318 (pu := true) h' hw (by omega)
  have hc2 := call359 (pu := true) hf.len hrf
  have hlen := SlR.lenV h
  have e1 : IntKind.wrap .i64 ((b.length : Int) - 1) = (b.length : Int) - 1 := wrap64 (by omega)
  have e2 : decide (p ≤ (b.length : Int) - 1) = decide (p < b.length) := by apply decide_eq_decide.2; omega
  refine ⟨slc H.length 0 0 (resB b f p).length (resB b f p).length, H ++ [⟨bkC (resB b f p), 12, 0, false⟩], some H.length, Call_wp t143 (.inr rfl) rfl ?_, Pre.one, own_new (resB_cells hw)⟩
  have hnew := fun c => (Gr.new (H := H) (G := G) (esz := 12) hP).fin2 (c := c) (by intro v hv; simp at hv)
  by_cases hk : okB b = true ∧ okF f = true
  · obtain ⟨hk1, hk2⟩ := hk
    by_cases hp : 0 ≤ p ∧ p < b.length
    · obtain ⟨i, rfl⟩ := Int.eq_ofNat_of_zero_le hp.1
      have hi : i < b.length := by omega
      have hr : resB b f (i : Int) = b.set i (resF b f i) := by rw [resB, if_pos ⟨hk1, hk2, hp⟩]; rfl
      have hcode : resC b f (i : Int) = 0 := by rw [resC, if_pos ⟨hk1, hk2⟩, if_pos hp]
      have hg0 : GrB H (G ++ [⟨[], 12, 0, false⟩]) G.length (slc G.length 0 0 0 0) 12 0 [] := ⟨0, rfl, get_last, hP.len, rfl, hP.app⟩
      obtain ⟨x', G', hap, hg, hlG, hoth⟩ := hg0.append (h'.app (L := [⟨[], 12, 0, false⟩])) (roomA (m := 24) hn (by omega)) (wb := false)
      rw [Nat.zero_add, List.nil_append] at hg
      have hPG : Pre G G' := pre_of_get (by rw [hlG]; simp) fun k hk => by rw [hoth k (by omega), List.getElem?_append_left hk]
      have hpar := call339 (pu := true) (h'.pre hPG) hw hn
      have hz := stc_zr (k := .u16) (parF_length (b := b))
      have hfi := hw.fr hi
      have hp0 : (0 : Int) ≤ (i : Int) := by omega
      have hib : (i : Int) < b.length := by omega
      simp [c143, k143, hf.len, ← hG, hc, hk1, hc2, hk2, hlen, e1, call304, e2, hp0, hib, fill, rep, hap, wbOf, hpar, zs_cs, agg_cs, parF_length, hz, skip]
      refine WP_count 10 12 12 rfl (fun k e G2 => e 2 = .int .i64 i ∧ e 4 = adr H.length 0 0 ∧ e 8 = x' ∧ e 9 = iv .u16 (parF b) ∧ Pre G G2 ∧ GrB H G2 G.length x' 12 b.length (bkC (b.set i (tabN 12 fun j => if j < k then nth (resF b f i) j else nth (fr b i) j)))) (by omega) ?_ ?_ (by simp) ⟨by simp, by simp, by simp, by simp, hPG, by
        have : (tabN 12 fun j => if j < 0 then nth (resF b f i) j else nth (fr b i) j) = fr b i := (tabN_of hfi.len fun j _ => by simp).symm
        rw [this, set_at0 hi]
        exact hg⟩
      · rintro k e G2 _ hk hkk e5 h10 ⟨h2, h4, h8, h9, hP2, hgk⟩
        obtain ⟨ver, g1, g2, g3⟩ := hgk.place hi
        have hUl : (tabN 12 fun j => if j < k then nth (resF b f i) j else nth (fr b i) j).length = 12 := tabN_length
        have hw2 := set_len12 (fun g hg => (hw g hg).len) (i := i) hUl
        have hel : elem (bkC (b.set i (tabN 12 fun j => if j < k then nth (resF b f i) j else nth (fr b i) j))) 12 i = cs .u16 (tabN 12 fun j => if j < k then nth (resF b f i) j else nth (fr b i) j) := by
          have := rows_elem (f := frC) (esz := 12) (l := b.set i (tabN 12 fun j => if j < k then nth (resF b f i) j else nth (fr b i) j)) (fun g hg => by simp [frC, hw2 g hg]) (i := i) (by simpa using hi)
          rw [show rowsC frC _ = bkC _ from rfl] at this
          rw [this]
          show frC (fr _ i) = _
          rw [fr_set hi, if_pos rfl]; rfl
        have r1 := g2 k 1 (by omega)
        rw [hel, cs_one (by rw [hUl]; exact hk), nth_tabN hk, if_neg (by omega)] at r1
        have r2 := rd_one (hP2.rd hrf) hk
        rw [Nat.zero_add] at r2
        have hb1 := (hw.fr hi).nth hk
        have hb2 : u16' (nth (parF b) k) := (foldX_W (b := b) (k := b.length)).nth hk
        have hpl := parF_length (b := b)
        have hb3 := hf.nth hk
        have hv : xorI (nth (fr b i) k) (xorI (nth (parF b) k) (nth f k)) = nth (resF b f i) k := by
          rw [xorI_mix hb1 hb2 hb3, resF, mixF, nth_tabN hk, mixF, nth_tabN hk]
        obtain ⟨hwr, hgk'⟩ := g3 k [.int .u16 (nth (resF b f i) k)] false (by simp only [List.length_singleton]; omega)
        have hsp : splice (bkC (b.set i (tabN 12 fun j => if j < k then nth (resF b f i) j else nth (fr b i) j))) (i * 12 + k) [.int .u16 (nth (resF b f i) k)] = bkC (b.set i (tabN 12 fun j => if j < k + 1 then nth (resF b f i) j else nth (fr b i) j)) := by
          have := bkC_write hw2 (i := i) (by simpa using hi) (k := k) (vs := [nth (resF b f i) k]) (by simp only [List.length_singleton]; omega)
          rw [show cs .u16 [nth (resF b f i) k] = [.int .u16 (nth (resF b f i) k)] from rfl] at this
          rw [this, List.set_set, fr_set hi, if_pos rfl]
          congr 2
          refine wrt_set (by rw [hUl]; exact hk) (tabN_set hk (by rw [if_pos (by omega)]) fun j _ hj => ?_)
          by_cases h1 : j < k
          · rw [if_pos h1, if_pos (by omega)]
          · rw [if_neg h1, if_neg (by omega)]
        rw [hsp] at hwr hgk'
        simp (disch := omega) [b143_1, h10, h2, h4, h8, h9, hkk, hk, g1, r1, r2, parF_length, xorI_eq, hv, hwr, wbOf, e5]
        exact ⟨hP2.set (Nat.le_refl _), hgk'⟩
      · rintro e G2 _ h10 ⟨h2, h4, h8, h9, hP2, hgk⟩
        have : (tabN 12 fun j => if j < 12 then nth (resF b f i) j else nth (fr b i) j) = resF b f i := (tabN_of resF_length fun j hj => by rw [if_pos hj]).symm
        rw [this] at hgk
        have hfin := hgk.gr.fin2 bkC_flat (c := 0)
        simp [b143_1, h10, h8, hfin, hr, hcode]
    · have hr : resB b f p = [] := by rw [resB, if_neg fun h => hp h.2.2]
      have hcode : resC b f p = 2 := by rw [resC, if_pos ⟨hk1, hk2⟩, if_neg hp]
      have hp' : (decide (0 ≤ p) && decide (p < b.length)) = false := by simpa using hp
      simp [c143, k143, hf.len, ← hG, hc, hk1, hc2, hk2, hlen, e1, call304, e2, hp', fill, rep, hnew, hr, hcode, bkC, rowsC, skip]
  · have hr : resB b f p = [] := by rw [resB, if_neg fun h => hk ⟨h.1, h.2.1⟩]
    have hcode : resC b f p = 1 := by rw [resC, if_neg hk]
    cases hk1 : okB b with
    | false => simp [c143, k143, hf.len, ← hG, hc, hk1, fill, rep, hnew, hr, hcode, bkC, rowsC, skip]
    | true =>
      have hk2 : okF f = false := by
        cases h2 : okF f with
        | false => rfl
        | true => exact absurd ⟨hk1, h2⟩ hk
      simp [c143, k143, hf.len, ← hG, hc, hk1, hc2, hk2, fill, rep, hnew, hr, hcode, bkC, rowsC, skip]
theorem call21 {H : Heap} {x : Value} {b : List (List Int)} {f : List Int} {p : Int} (hs : Bk H x b) (hw : BkW b) (hf : FrW f) (hn : b.length ≤ 9223372036854775807) : ∃ H', Call tab false 21 [x, iv .u16 f, .int .i64 p] H = some (.bool true, H') := by
  refine ⟨H, Call_wp t21 (.inl rfl) rfl ?_⟩
  have hsz := sz_call s103 (pu := true) hs (left := 1000000) (by omega) (by omega) hn
  by_cases hbig : b.length ≤ 1000000
  · have hsz' : ¬ (1000000 - (b.length : Int) < 0) := by omega
    rw [if_neg hsz'] at hsz
    obtain ⟨x1, G1, rs, G1', x2, G2, ri, G2', x3, G3, G4, G5, x4, G6, r4, G7, q1, w1, q2, w2, e1, q3, e2, w3, e3, w4, w5, q4, w6, e4, w7, P, _⟩ :=
      lbx_steps (extra := [iv .u16 f, .int .i64 p]) hs hbig (bkC_length hw) rfl (fun G h => call105 h hw hbig) (fun G y z h1 h2 => call107 (pu := true) h1 h2 hw hbig) (call143 hw hf hbig) (call144 hw hf hbig) (eqBk (resB_W hw) (resB_len hbig)) mark122 mark122 held123 (resB_len hbig)
    have hA : ¬ ((101 : Int) + (b.length * 12 : Nat) < 0) := by omega
    have hB : ¬ ((101 : Int) + ((resB b f p).length * 12 : Nat) < 0) := by omega
    generalize ((101 : Int) + (b.length * 12 : Nat)) = A at *
    generalize ((101 : Int) + ((resB b f p).length * 12 : Nat)) = B at *
    simp [c21, k21, hsz, hsz', hf.len, call134 hf.len, q1, q2, q3, q4, w1, w2, w3, w4, w5, w6, w7, e1, e2, e3, e4, hA, hB, skip, wbOf, P.take]
  · have hsz' : 1000000 - (b.length : Int) < 0 := by omega
    rw [if_pos hsz'] at hsz
    simp [c21, k21, hsz]
end Fb
