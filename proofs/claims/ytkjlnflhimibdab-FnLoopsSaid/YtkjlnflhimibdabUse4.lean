/- What each function computes. -/
import Derived.Test.YtkjlnflhimibdabUse3
set_option linter.unusedVariables false
set_option linter.unusedSimpArgs false
namespace Fb
open Go
theorem c17_31 {n0 : Nat} {H G : Heap} {e : Env} {x cx l1 l2 l3 : Value} {b c : List (List Int)} {frm : Nat} (h : C1 G x cx l1 l2 l3 b c frm) (hQ : finish n0 G [.bool true] = (.bool true, H))
    (h5 : e 5 = x) (h39 : e 39 = .int .i64 frm) (h41 : e 41 = cx) (h44 : e 44 = l1) (h49 : e 49 = l2) (h50 : e 50 = l3) (h52 : e 52 = .bool false) (h53 : e 53 = .int .i64 0) : WK tab n0 false (.loop b17_9) [.blk 14, .seq (tailC 33 k17)] e G (QL n0 H) := by
  have hcb := h.cb
  have hc1 := h.c1
  have hnb := h.nb
  have len0 := (mcK_len (b := b) (c := c) (m := 0) (k := mcN b c)).1
  have len1 := (mcK_len (b := b) (c := c) (m := 1) (k := mcN b c)).1
  have hN : mcN b c ≤ 1000 := by unfold mcN; omega
  obtain ⟨kf, kf1, kf2⟩ := h.found
  have own := @C1.own G x cx l1 l2 l3 b c frm h
  have moved := @C1.moved G x cx l1 l2 l3 b c frm h
  have s1 := h.s1; have s2 := h.s2; have s3 := h.s3
  generalize hL0 : (mcK b c 0 (mcN b c)).1 = L0 at *
  generalize hL1 : (mcK b c 1 (mcN b c)).1 = L1 at *
  generalize hW1 : (mcK b c 1 (mcN b c)).2 = W1 at *
  obtain ⟨fd, hfd⟩ : ∃ fd : Nat → Bool, fd = fun k => anB (fun i => nth L0 i == (frm : Int)) k := ⟨_, rfl⟩
  have fd0 : fd 0 = false := by rw [hfd]; rfl
  have fdS : ∀ k, fd (k + 1) = (fd k || (nth L0 k == (frm : Int))) := fun k => by rw [hfd]; exact anB_succ
  have fdE : fd L0.length = true := by rw [hfd]; exact anB_true kf1 (by rw [kf2]; simp)
  refine WP_forH 53 L0.length L0.length rfl (by omega) (fun k e => e 5 = x ∧ e 39 = .int .i64 frm ∧ e 41 = cx ∧ e 44 = l1 ∧ e 49 = l2 ∧ e 50 = l3 ∧ e 52 = .bool (fd k)) ?_ ?_ h53 ⟨h5, h39, h41, h44, h49, h50, by rw [h52, fd0]⟩
  · rintro k e hk hkk e54 h53 ⟨h5, h39, h41, h44, h49, h50, h52⟩
    obtain ⟨p, p1, p2, n, n1, n2, n3⟩ := own hk
    obtain ⟨q, off, ver, ha, hr⟩ := s1.get1 hk
    rw [elem_i hk, p1] at hr
    have w1 : IntKind.wrap .i64 ((p : Int) + c.length) = (p : Int) + c.length := wrap64 (by omega)
    have g1 : ¬ (b.length : Int) < (p : Int) + c.length := by omega
    have g3 : decide ((b.length : Int) < (p : Int) + c.length) = false := decide_eq_false g1
    have g2 : ¬ ((p : Int) < 0) := by omega
    have fS := fdS k
    rw [p1] at fS
    obtain ⟨ow, how⟩ : ∃ ow : Nat → Bool, ow = fun m => anB (fun i => nth L1 i == (p : Int) && decide (mv W1 i = (0, 0))) m := ⟨_, rfl⟩
    have ow0 : ow 0 = false := by rw [how]; rfl
    have owS : ∀ m, ow (m + 1) = (ow m || (nth L1 m == (p : Int) && decide (mv W1 m = (0, 0)))) := fun m => by rw [how]; exact anB_succ
    have owE : ow L1.length = true := by rw [how]; exact anB_true n1 (by rw [n2, n3]; simp)
    have inner : ∀ e : Env, e 5 = x → e 39 = .int .i64 frm → e 41 = cx → e 44 = l1 → e 49 = l2 → e 50 = l3 → e 52 = .bool (fd (k + 1)) → e 53 = .int .i64 k → e 54 = .bool false → e 55 = .int .i64 0 → ∀ fs Q, (∀ e', e' 5 = x → e' 39 = .int .i64 frm → e' 41 = cx → e' 44 = l1 → e' 49 = l2 → e' 50 = l3 → e' 52 = .bool (fd (k + 1)) → e' 53 = .int .i64 k → e' 54 = .bool true → KK tab n0 false (.exit 16) fs e' G Q) →
        WK tab n0 false (.loop b17_8) fs e G Q := by
      intro e h5 h39 h41 h44 h49 h50 h52 h53 h54 h55 fs Q hq
      refine WP_forH 55 L1.length L1.length rfl (by omega) (fun m e => e 5 = x ∧ e 39 = .int .i64 frm ∧ e 41 = cx ∧ e 44 = l1 ∧ e 49 = l2 ∧ e 50 = l3 ∧ e 52 = .bool (fd (k + 1)) ∧ e 53 = .int .i64 k ∧ e 54 = .bool (ow m)) ?_ ?_ h55 ⟨h5, h39, h41, h44, h49, h50, h52, h53, by rw [h54, ow0]⟩
      · rintro m e hm hmm e56 h55 ⟨h5, h39, h41, h44, h49, h50, h52, h53, h54⟩
        obtain ⟨q1, o1, v1, ha1, hr1⟩ := s2.get1 hm
        rw [elem_i hm] at hr1
        obtain ⟨q2, o2, v2, ha2, hr2⟩ := s3.get1 hm
        rw [mvsC_elem (by rw [← hW1, (mcK_len (b := b) (c := c) (m := 1) (k := mcN b c)).2, hL1]; exact hm)] at hr2
        have oS := owS m
        have q5 := eqMv0 (w := mv W1 m)
        simp only [mvC] at hr2 q5
        cases ho : ow m with
        | true =>
          rw [ho, Bool.true_or] at oS
          simp [b17_8, h5, h39, h41, h44, h49, h50, h52, h53, h54, h55, s2.lenV, hmm, ho, skip, oS, e56]
        | false =>
          rw [ho, Bool.false_or] at oS
          cases hn : nth L1 m == (p : Int) with
          | false =>
            rw [hn, Bool.false_and] at oS
            simp [b17_8, h5, h39, h41, h44, h49, h50, h52, h53, h54, h55, s2.lenV, hmm, ho, ha1, hr1, ha, hr, hn, skip, oS, e56]
          | true =>
            rw [hn, Bool.true_and] at oS
            have hf : fill [.int .i8 0, .int .i8 0] [] = some [.int .i8 0, .int .i8 0] := rfl
            simp [b17_8, h5, h39, h41, h44, h49, h50, h52, h53, h54, h55, s2.lenV, hmm, ho, ha1, hr1, ha, hr, hn, ha2, hr2, hf, q5, oS, e56]
      · rintro e h55 ⟨h5, h39, h41, h44, h49, h50, h52, h53, h54⟩
        rw [owE] at h54
        simp [b17_8, h49, h55, s2.lenV]
        exact hq _ (by simp [h5]) (by simp [h39]) (by simp [h41]) (by simp [h44]) (by simp [h49]) (by simp [h50]) (by simp [h52]) (by simp [h53]) (by simp [h54])
    cases hf : fd k with
    | true =>
      rw [hf, Bool.true_or] at fS
      simp [b17_9, h53, h5, h39, h41, h44, h49, h50, h52, hf, s1.lenV, hkk, ha, hr, g2, h.ck.lenV, h.bk.lenV, w1, g1, g3, skip]
      refine inner _ (by simp [h5]) (by simp [h39]) (by simp [h41]) (by simp [h44]) (by simp [h49]) (by simp [h50]) (by simp [fS]) (by simp [h53]) (by simp) (by simp) _ _ fun e' a5 a39 a41 a44 a49 a50 a52 a53 a54 => ?_
      simp [a5, a39, a41, a44, a49, a50, a52, a53, a54, e54]
    | false =>
      rw [hf, Bool.false_or] at fS
      simp [b17_9, h53, h5, h39, h41, h44, h49, h50, h52, hf, s1.lenV, hkk, ha, hr, g2, h.ck.lenV, h.bk.lenV, w1, g1, g3, skip]
      refine inner _ (by simp [h5]) (by simp [h39]) (by simp [h41]) (by simp [h44]) (by simp [h49]) (by simp [h50]) (by simp [fS]) (by simp [h53]) (by simp) (by simp) _ _ fun e' a5 a39 a41 a44 a49 a50 a52 a53 a54 => ?_
      simp [a5, a39, a41, a44, a49, a50, a52, a53, a54, e54]
  · rintro e h53 ⟨h5, h39, h41, h44, h49, h50, h52⟩
    rw [fdE] at h52
    simp [b17_9, h53, h44, s1.lenV, tailC, k17]
    refine WP_forH 56 L1.length L1.length rfl (by omega) (fun n e => e 5 = x ∧ e 41 = cx ∧ e 49 = l2 ∧ e 50 = l3 ∧ e 52 = .bool true) ?_ ?_ (by simp) ⟨by simp [h5], by simp [h41], by simp [h49], by simp [h50], by simp [h52]⟩
    · rintro n e hn hnn e57 h56 ⟨h5, h41, h49, h50, h52⟩
      obtain ⟨p, p1, p2, m1, m2, m3⟩ := moved hn
      obtain ⟨q1, o1, v1, ha1, hr1⟩ := s2.get1 hn
      rw [elem_i hn, p1] at hr1
      obtain ⟨q2, o2, v2, ha2, hr2⟩ := s3.get1 hn
      rw [mvsC_elem (by rw [← hW1, (mcK_len (b := b) (c := c) (m := 1) (k := mcN b c)).2, hL1]; exact hn)] at hr2
      have r0 := rd_part hr2 (o := 0) (m := 1) (by omega)
      have r1 := rd_part hr2 (o := 1) (m := 1) (by omega)
      simp only [mvC, Nat.add_zero, List.drop_zero, List.drop_succ_cons, List.take_succ_cons, List.take_zero] at r0 r1
      obtain ⟨q3, o3, v3, ha3, hr3⟩ := Bk.get h.ck h.cw (i := 0) (by omega)
      obtain ⟨q4, o4, v4, ha4, hr4⟩ := Bk.get h.bk (fun f hf => (h.Vb f hf).W) p2
      have V0 := h.V (i := 0) (by omega)
      have Vp : VF (fr b p) := h.Vb _ (at0_mem p2)
      have cM := call132 (pu := true) (H := G) (dx := (mv W1 n).1) (dy := (mv W1 n).2) V0 (by omega) (by omega)
      rw [m3] at cM
      have w1 : IntKind.wrap .i64 (mv W1 n).1 = (mv W1 n).1 := wrap64 (by omega)
      have w2 : IntKind.wrap .i64 (mv W1 n).2 = (mv W1 n).2 := wrap64 (by omega)
      have l0 := V0.W.len
      have lp := Vp.W.len
      have z1 := stc_zr (k := .u16) (n := 12) (l := fr b p) lp
      have q5 := eqV_iv (k := .u16) lp lp
      have g1 : decide ((p : Int) ≥ b.length) = false := decide_eq_false (by omega)
      have ha3' : idxAV 12 cx (.int .i64 0) = some (adr q3 o3 v3) := ha3
      have g2 : ¬ ((p : Int) < 0) := by omega
      have g3 : ¬ (b.length ≤ p) := by omega
      simp [b17_10, h56, h5, h41, h49, h50, h52, s2.lenV, hnn, ha3', hr3, agg_cs, ha2, r0, r1, w1, w2, cM, zs_cs, lp, z1, ha1, hr1, g2, h.bk.lenV, g1, g3, ha4, hr4, q5, e57]
    · rintro e h56 ⟨h5, h41, h49, h50, h52⟩
      simp [b17_10, h56, h49, s2.lenV, h52, QL, hQ]
theorem bkC_split {lo : Nat} : ∀ {b : List (List Int)}, (∀ f ∈ b, VF f) → (bkC b).drop (lo * 12) = bkC (b.drop lo) ∧ (bkC b).take (lo * 12) = bkC (b.take lo) := by
  induction lo with
  | zero => intro b _; simp [bkC, rowsC]
  | succ lo ih =>
    intro b hb
    cases b with
    | nil => simp [bkC, rowsC]
    | cons f b =>
      have hf := (hb f (List.mem_cons_self)).W.len
      obtain ⟨h1, h2⟩ := ih (b := b) fun g hg => hb g (List.mem_cons_of_mem _ hg)
      have e : bkC (f :: b) = cs .u16 f ++ bkC b := rfl
      have l : (cs .u16 f).length = 12 := by simp [hf]
      rw [e, Nat.succ_mul, Nat.add_comm (lo * 12) 12]
      constructor
      · rw [← List.drop_drop, List.drop_left' l, h1]; rfl
      · have t := List.take_length_add_append (l₁ := cs .u16 f) (l₂ := bkC b) (lo * 12)
        rw [l] at t
        rw [t, h2]
        rfl
theorem srcOf_bk {G : Heap} {x : Value} {L : List (List Int)} (h : Bk G x L) : srcOf 12 G x = some (L.length, bkC L) := by
  rcases h.is with ⟨rfl, h0⟩ | ⟨b, off, ver, cap, rfl, _, hr, _⟩
  · have : L = [] := List.length_eq_zero_iff.1 h0
    subst this; rfl
  · show (rd G b off ver (L.length * 12)).map _ = _
    rw [hr]; rfl
theorem app_bk {n0 m ver F : Nat} {wb : Bool} {G : Heap} {x : Value} {L : List (List Int)} {vs : List Value} (h : Bk G x L) (hn : L.length ≤ 1000) (hm : m ≤ 1000) (hF : n0 ≤ F) (hg : G[F]? = some ⟨vs, 12, ver, false⟩) (hs : vs.length = m * 12) :
    ∃ ver', ((srcOf 12 G x).bind fun q => appendTo n0 wb 12 24 G (slc F 0 ver m m) q.1 q.2) = some (slc F 0 ver' (m + L.length) (m + L.length), G.set F ⟨vs ++ bkC L, 12, ver', false⟩) := by
  rw [srcOf_bk h, Option.bind_some]
  by_cases h0 : L.length = 0
  · have : L = [] := List.length_eq_zero_iff.1 h0
    subst this
    refine ⟨ver, ?_⟩
    have e : vs ++ bkC [] = vs := List.append_nil vs
    rw [e, set_self hg]
    have hw := wr_at (n0 := n0) (wb := wb) (off := m * 12) (vs := []) (ver := ver) hg rfl rfl (by simp [may, hF]) (by simp [hs])
    have hsp : splice vs (m * 12) [] = vs := by simp [splice]
    simp only [hsp] at hw
    have e2 : ({ cells := vs, esz := 12, ver := ver, ro := false } : Blk) = ⟨vs, 12, ver, false⟩ := rfl
    rw [set_self hg] at hw
    unfold appendTo slc
    have e3 : bkC ([] : List (List Int)) = [] := rfl
    simp [e3, hw]
  · refine ⟨ver + 1, ?_⟩
    exact appendTo_grow hg rfl rfl (by simp [may, hF]) rfl hs.symm (by omega) (by have : roomMax = 140737488355328 := rfl; omega)
theorem bk_of {G : Heap} {F ver n cap : Nat} {L : List (List Int)} (hg : G[F]? = some ⟨bkC L, 12, ver, false⟩) (hV : ∀ f ∈ L, VF f) (hn : L.length = n) (hc : n ≤ cap) : Bk G (slc F 0 ver n cap) L := by
  subst hn
  have hs := vl_size hV
  exact ⟨hs, .inr ⟨F, 0, ver, cap, rfl, hc, by rw [rd_at hg rfl (by simp [hs])]; simp [take_all, hs], _, hg, rfl, rfl⟩⟩
/-- A part of a book. -/
theorem slc_bk {G : Heap} {x : Value} {L : List (List Int)} (h : Bk G x L) (hV : ∀ f ∈ L, VF f) {lo hi : Nat} (h1 : lo ≤ hi) (h2 : hi ≤ L.length) (h3 : 1 ≤ L.length) :
    ∃ y, slcAV G 12 x (some (.int .i64 lo)) (some (.int .i64 hi)) none = some y ∧ Bk G y ((L.drop lo).take (hi - lo)) := by
  rcases h.is with ⟨_, h0⟩ | ⟨b, off, ver, cap, rfl, hcap, hr, k, hk, hv, he⟩
  · omega
  · have := slcAV_lohi (off := off) (len := L.length) (cap := cap) (lo := lo) (hi := hi) (kk := .i64) (kk' := .i64) hk hv he (by omega) h1
    refine ⟨_, this, ?_⟩
    have hl : ((L.drop lo).take (hi - lo)).length = hi - lo := by simp; omega
    have hV' : ∀ f ∈ (L.drop lo).take (hi - lo), VF f := fun f hf => hV f (List.mem_of_mem_drop (List.mem_of_mem_take hf))
    have hVd : ∀ f ∈ L.drop lo, VF f := fun f hf => hV f (List.mem_of_mem_drop hf)
    refine ⟨vl_size hV', .inr ⟨b, _, ver, _, by rw [hl], by rw [hl]; omega, ?_, k, hk, hv, he⟩⟩
    have hlo : lo * 12 + (hi - lo) * 12 ≤ L.length * 12 := by omega
    rw [hl, rd_part hr hlo, (bkC_split hV).1, (bkC_split hVd).2]
theorem mcC_yes {b c : List (List Int)} {m : Int} (hb : okB b = true) (hc : okB c = true) (h1 : 1 ≤ c.length) (hm : 0 ≤ m ∧ m ≤ 4) : mcC b c m = 0 := by
  have e1 : in1 m 0 4 = true := by simp [in1]; omega
  have e2 : ((c.length : Int) == 0) = false := by rw [beq_eq_false_iff_ne]; omega
  unfold mcC
  rw [hb, hc, e1, e2]; rfl
theorem c17_23 {H G : Heap} {e : Env} {x y : Value} {b : List (List Int)} {bs : List Int} (hP : Pre H G) (hy : By G y bs) (bk : Bk G x b) (Vb : ∀ f ∈ b, VF f) (nb : b.length ≤ 40) (b1 : 1 ≤ b.length) (h1 : e 1 = y) (h5 : e 5 = x) :
    WK tab H.length false (tailC 23 k17) [] e G (QL H.length H) := by
  have hbw : BkW b := fun f hf => (Vb f hf).W
  obtain ⟨frm, c1, f1⟩ := call124 (pu := true) (i := 1) (n := b.length) hy (by omega) (by omega)
  obtain ⟨dl, c2, f2⟩ := call124 (pu := true) (i := 2) (n := 3) hy (by omega) (by omega)
  obtain ⟨frm, rfl⟩ := Int.eq_ofNat_of_zero_le f1.1
  obtain ⟨dl, rfl⟩ := Int.eq_ofNat_of_zero_le f2.1
  rw [show ((1 : Nat) : Int) = 1 from rfl] at c1
  rw [show ((2 : Nat) : Int) = 2 from rfl] at c2
  have w3 : IntKind.wrap .i64 ((frm : Int) + 1) = (frm : Int) + 1 := wrap64 (by omega)
  have w4 : IntKind.wrap .i64 ((frm : Int) + 1 + dl) = (frm : Int) + 1 + dl := wrap64 (by omega)
  obtain ⟨hi, hhi, hi1, hi2⟩ : ∃ hi : Nat, (if (frm : Int) + 1 + dl < b.length then (frm : Int) + 1 + dl else (b.length : Int)) = hi ∧ frm < hi ∧ hi ≤ b.length := by
    by_cases hm : (frm : Int) + 1 + dl < b.length
    · exact ⟨frm + 1 + dl, by rw [if_pos hm]; omega, by omega, by omega⟩
    · exact ⟨b.length, by rw [if_neg hm], by omega, by omega⟩
  obtain ⟨G1, hG1⟩ : ∃ G1, G1 = G ++ [(⟨[], 12, 0, false⟩ : Blk)] := ⟨_, rfl⟩
  have P1 : Pre G G1 := by rw [hG1]; exact Pre.one
  have g1 : G1[G.length]? = some ⟨[], 12, 0, false⟩ := by rw [hG1]; exact get_last
  obtain ⟨ys, sA, bs1⟩ := slc_bk (bk.pre P1) Vb (lo := frm) (hi := hi) (by omega) hi2 b1
  obtain ⟨c, hc⟩ : ∃ c, c = (b.drop frm).take (hi - frm) := ⟨_, rfl⟩
  rw [← hc] at bs1
  have cl : c.length = hi - frm := by rw [hc]; simp; omega
  have Vc : ∀ f ∈ c, VF f := fun f hf => by rw [hc] at hf; exact Vb f (List.mem_of_mem_drop (List.mem_of_mem_take hf))
  have hcw : BkW c := fun f hf => (Vc f hf).W
  have hHG := hP.len
  obtain ⟨ver, sB⟩ := app_bk (n0 := H.length) (m := 0) (wb := false) bs1 (by omega) (by omega) hHG g1 rfl
  rw [Nat.zero_add] at sB
  have e0 : ([] : List Value) ++ bkC c = bkC c := rfl
  rw [e0] at sB
  obtain ⟨G2, hG2⟩ : ∃ G2, G2 = G1.set G.length ⟨bkC c, 12, ver, false⟩ := ⟨_, rfl⟩
  rw [← hG2] at sB
  have P2 : Pre G G2 := by rw [hG2]; exact P1.set (Nat.le_refl _)
  have ck : Bk G2 (slc G.length 0 ver c.length c.length) c := bk_of (by rw [hG2]; exact get_set g1) Vc rfl (Nat.le_refl _)
  obtain ⟨cx, hcx⟩ : ∃ cx, cx = slc G.length 0 ver c.length c.length := ⟨_, rfl⟩
  rw [← hcx] at sB ck
  have m0 : mcC b c 0 = 0 := mcC_yes (okB_V Vb nb) (okB_V Vc (by omega)) (by omega) (by omega)
  have m1 : mcC b c 1 = 0 := mcC_yes (okB_V Vb nb) (okB_V Vc (by omega)) (by omega) (by omega)
  have e1 : mcR b c 0 = mcK b c 0 (mcN b c) := by rw [mcR, if_pos m0]; rfl
  have e2 : mcR b c 1 = mcK b c 1 (mcN b c) := by rw [mcR, if_pos m1]; rfl
  obtain ⟨r1, G3, β1, q1, P3, o1⟩ := call126 (pu := true) hbw hcw (by omega) (by omega) (bk.pre P2) ck
  obtain ⟨r2, G4, β2, q2, P4, o2⟩ := call127 (pu := true) hbw hcw (by omega) (by omega) ((bk.pre P2).pre P3) (ck.pre P3)
  have P24 := P3.trans P4
  obtain ⟨_, q3, hr3⟩ := call128 (pu := true) (m := 1) hbw hcw (by omega) (by omega) ((bk.pre P2).pre P24) (ck.pre P24)
  obtain ⟨r3, r4, G5, β3, β4, rfl, P5, o3, o4, _⟩ := hr3.d
  have P25 := P24.trans P5
  obtain ⟨_, q4, hr4⟩ := call129 (pu := true) (m := 1) hbw hcw (by omega) (by omega) ((bk.pre P2).pre P25) (ck.pre P25)
  obtain ⟨r5, r6, G6, β5, β6, rfl, P6, o5, o6, _⟩ := hr4
  rw [m0] at q1 q2
  rw [m1] at q3 q4
  rw [e1] at o1 o2
  rw [e2] at o3 o4 o5 o6
  have n0 := (mcK_len (b := b) (c := c) (m := 0) (k := mcN b c)).1
  have n1 := mcK_len (b := b) (c := c) (m := 1) (k := mcN b c)
  have hN : mcN b c ≤ 1000 := by unfold mcN; omega
  have v1 := call130 (pu := true) (o1.pre ((P4.trans P5).trans P6)).sl (o2.pre (P5.trans P6)).sl (by omega)
  have v2 := call130 (pu := true) (o3.pre P6).sl o5.sl (by omega)
  have s4 := (o4.pre P6).sl
  have s6 := o6.sl
  have v3 : Call tab true 131 [r4, r6] G6 = some (.bool true, G6) := by
    rw [← n1.2] at s4 s6
    exact call131 s4 s6 (by omega)
  have l5 := o5.sl.lenV
  have l6 := s6.lenV
  have hfin : finish H.length G6 [.bool true] = (.bool true, H) := by rw [finish_bool, ((((hP.trans P2).trans P24).trans P5).trans P6).take]
  have hC : C1 G6 x cx r2 r5 r6 b c frm := ⟨(bk.pre P2).pre (P25.trans P6), ck.pre (P25.trans P6), Vb, by omega, by omega, by omega, fun i hi => by
    rw [hc]
    unfold fr at0
    rw [List.getD_eq_getElem?_getD, List.getD_eq_getElem?_getD, List.getElem?_take, if_pos (by omega), List.getElem?_drop], (o2.pre (P5.trans P6)).sl, o5.sl, s6⟩
  have hf0 : fill (rep 0 (cs .u16 (zr 12 0))) [] = some [] := rfl
  have heq : ((((mcK b c 1 (mcN b c)).1.length : Nat) : Int) != (((mcK b c 1 (mcN b c)).1.length : Nat) : Int)) = false := by simp
  simp [tailC, k17, h1, h5, bk.lenV, c1, c2, w3, w4, hhi, hf0, zs_cs, ← hG1, sA, sB, wbOf, q1, q2, q3, q4, v1, v2, v3, l5, l6, heq]
  exact c17_31 hC hfin (by simp [h5]) (by simp) (by simp) (by simp) (by simp) (by simp) (by simp) (by simp)
theorem c17_20 {H G : Heap} {e : Env} {x y : Value} {b : List (List Int)} {bs : List Int} {tw : Bool} {pv : Int} (hP : Pre H G) (hy : By G y bs) (bk : Bk G x b) (Vb : ∀ f ∈ b, VF f) (nb : b.length ≤ 40) (htw : tw = true → ∃ L, b = L ++ L)
    (hpv : 1 ≤ b.length → pv = findN (perP b) (b.length + 1)) (h1 : e 1 = y) (h5 : e 5 = x) (h6 : e 6 = .bool tw) (h17 : e 17 = .int .i64 (if b.length = 0 then 6 else 0)) (h18 : e 18 = .int .i64 pv) :
    WK tab H.length false (tailC 20 k17) [] e G (QL H.length H) := by
  by_cases hb0 : b.length = 0
  · rw [if_pos hb0] at h17
    have hlen := bk.lenV
    rw [hb0] at hlen
    have hlen' : lenV x = some (.int .i64 0) := hlen
    simp [tailC, k17, h5, hlen', h17, QL, hP.take]
  obtain ⟨p, p1, p2, p3, p4, p5⟩ := per_spec (b := b) (by omega)
  have hp := hpv (by omega)
  rw [p1] at hp
  subst hp
  have hz : ((b.length : Int) == 0) = false := by rw [beq_eq_false_iff_ne]; omega
  have g1 : ¬ (p : Int) < 1 := by omega
  have g2 : ¬ (b.length : Int) < p := by omega
  have g3 : decide ((b.length : Int) < p) = false := decide_eq_false g2
  have u1 : IntKind.wrap .i64 ((b.length : Int).tdiv 2) = ((b.length / 2 : Nat) : Int) := by
    have : (b.length : Int).tdiv 2 = (b.length : Int) / 2 := Int.tdiv_eq_ediv_of_nonneg (by omega)
    rw [this, wrap64 (by omega)]; omega
  have g4 : tw = true → decide (((b.length / 2 : Nat) : Int) < p) = false := fun ht => by
    obtain ⟨L, hL⟩ := htw ht
    have hl : b.length = L.length + L.length := by rw [hL]; simp
    have := p5 L.length (by omega) (by omega) (by rw [hL]; exact per_twice)
    exact decide_eq_false (by omega)
  have hbw : BkW b := fun f hf => (Vb f hf).W
  have hlt : ¬ p < 1 := by omega
  have hle : ¬ b.length < p := by omega
  have main : ∀ (e : Env), e 1 = y → e 5 = x → e 18 = .int .i64 p → e 38 = .int .i64 0 → WK tab H.length false (.loop b17_7) [.blk 12, .seq (tailC 23 k17)] e G (QL H.length H) := by
    intro e h1 h5 h18 h38
    refine WK_loop (fun i e G' => G = G' ∧ e 1 = y ∧ e 5 = x ∧ e 18 = .int .i64 p ∧ e 38 = .int .i64 i) (b.length - p) ?_ (Nat.zero_le _) ⟨rfl, h1, h5, h18, h38⟩
    rintro i e _ _ hi ⟨rfl, h1, h5, h18, h38⟩
    have w1 : IntKind.wrap .i64 ((i : Int) + p) = ((i + p : Nat) : Int) := by rw [wrap64 (by omega)]; omega
    have w2 : IntKind.wrap .i64 ((i : Int) + 1) = ((i + 1 : Nat) : Int) := by rw [wrap64 (by omega)]; omega
    by_cases hin : i < b.length - p
    · obtain ⟨q, off, ver, ha, hr⟩ := Bk.get bk hbw (i := i) (by omega)
      obtain ⟨q', off', ver', ha', hr'⟩ := Bk.get bk hbw (i := i + p) (by omega)
      have hf := (hbw.fr (i := i) (by omega)).len
      have eq := p4 i (by omega)
      rw [← eq] at hr'
      have q5 := eqV_iv (k := .u16) hf hf
      have hlt2 : i + p < b.length := by omega
      have hlt3 : decide (((i + p : Nat) : Int) < b.length) = true := decide_eq_true (by omega)
      simp [b17_7, h1, h5, h18, h38, bk.lenV, w1, hlt2, hlt3, ha, hr, ha', hr', agg_cs, q5, w2, hin, -Int.natCast_add]
    · have hlt3 : decide (((i + p : Nat) : Int) < b.length) = false := decide_eq_false (by omega)
      have hlt2 : ¬ i + p < b.length := by omega
      simp [b17_7, h1, h5, h18, h38, bk.lenV, w1, hlt2, hlt3, -Int.natCast_add]
      exact c17_23 hP hy bk Vb nb (by omega) (by simp [h1]) (by simp [h5])
  cases htwc : tw with
  | false =>
    rw [htwc] at h6
    simp [tailC, k17, h5, bk.lenV, hz, h18, g1, g3, h6, hlt, hle, skip]
    exact main _ (by simp [h1]) (by simp [h5]) (by simp [h18]) (by simp)
  | true =>
    rw [htwc] at h6
    have g4 := g4 htwc
    have u2 : IntKind.wrap .i64 ((b.length : Int) / 2) = ((b.length / 2 : Nat) : Int) := by rw [wrap64 (by omega)]; omega
    have g5 : ¬ b.length / 2 < p := fun h => by
      have := of_decide_eq_false g4
      omega
    simp [tailC, k17, h5, bk.lenV, hz, h18, g1, g3, h6, u1, u2, g4, g5, hlt, hle, skip, -Int.natCast_ediv]
    exact main _ (by simp [h1]) (by simp [h5]) (by simp [h18]) (by simp)
/-- What the walk knows all along. -/
structure K17 (H G : Heap) (x y : Value) (b : List (List Int)) (bs : List Int) (tw : Bool) (pv : Int) : Prop where
  P : Pre H G
  by' : By G y bs
  bk : Bk G x b
  V : ∀ f ∈ b, VF f
  nb : b.length ≤ 40
  tw' : tw = true → ∃ L, b = L ++ L
  pv' : 1 ≤ b.length → pv = findN (perP b) (b.length + 1)
def E17 (e : Env) (x y : Value) (b : List (List Int)) (tw : Bool) (pv : Int) : Prop := e 1 = y ∧ e 5 = x ∧ e 6 = .bool tw ∧ e 17 = .int .i64 (if b.length = 0 then 6 else 0) ∧ e 18 = .int .i64 pv
theorem K17.pre {H G G' : Heap} {x y : Value} {b : List (List Int)} {bs : List Int} {tw : Bool} {pv : Int} (h : K17 H G x y b bs tw pv) (p : Pre G G') : K17 H G' x y b bs tw pv := ⟨h.P.trans p, h.by'.pre p, h.bk.pre p, h.V, h.nb, h.tw', h.pv'⟩
theorem ghL_fr {b : List (List Int)} {n i : Nat} (h : i < n) : fr (ghL b n) i = mixF lessI (fr b i) (fr b (i + 1)) := by
  unfold ghL fr at0
  rw [List.getD_eq_getElem?_getD, List.getElem?_map, List.getElem?_range h]; rfl
theorem ghL_V {b : List (List Int)} (hV : ∀ f ∈ b, VF f) {n : Nat} (hn : n + 1 ≤ b.length ∨ n = 0) : ∀ f ∈ ghL b n, VF f := fun f hf => by
  unfold ghL at hf
  obtain ⟨i, hi, rfl⟩ := List.mem_map.1 hf
  have hi : i < n := by simpa using hi
  exact less_V (hV _ (at0_mem (by omega))) (hV _ (at0_mem (by omega)))
theorem c17_19 {H G : Heap} {e : Env} {x y gx : Value} {b : List (List Int)} {bs : List Int} {tw : Bool} {pv : Int} (h : K17 H G x y b bs tw pv) (hg : Bk G gx (ghL b (b.length - 1))) (hE : E17 e x y b tw pv) (h30 : e 30 = gx) (h36 : e 36 = .int .i64 0) :
    WK tab H.length false (.loop b17_6) [.blk 8, .seq (tailC 20 k17)] e G (QL H.length H) := by
  have hbw : BkW b := fun f hf => (h.V f hf).W
  have hnb := h.nb
  have hgw : BkW (ghL b (b.length - 1)) := fun f hf => (ghL_V h.V (by omega) f hf).W
  refine WP_forH 36 b.length b.length rfl (by omega) (fun i e => E17 e x y b tw pv ∧ e 30 = gx) ?_ ?_ h36 ⟨hE, h30⟩
  · rintro i e hi hii e37 h36 ⟨⟨h1, h5, h6, h17, h18⟩, h30⟩
    simp [b17_6, h5, h36, h.bk.lenV, hii]
    refine WP_forH 37 12 12 rfl (by omega) (fun j e => E17 e x y b tw pv ∧ e 30 = gx ∧ e 36 = .int .i64 i) ?_ ?_ (by simp) ⟨by simp [E17, h1, h5, h6, h17, h18], by simp [h30], by simp [h36]⟩
    · rintro j e hj hjj e38 h37 ⟨⟨h1, h5, h6, h17, h18⟩, h30, h36⟩
      by_cases h0 : i = 0
      · subst h0
        have h36' : e 36 = .int .i64 0 := h36
        simp [b17_5, h37, h36', h1, h5, h6, h17, h18, h30, hjj, skip, e38, E17]
      · obtain ⟨m, rfl⟩ : ∃ m, i = m + 1 := ⟨i - 1, by omega⟩
        have w1 : IntKind.wrap .i64 (((m + 1 : Nat) : Int) - 1) = (m : Int) := by rw [wrap64 (by omega)]; omega
        have hpos : 0 < m + 1 := by omega
        have hpos' : (0 : Int) < ((m + 1 : Nat) : Int) := by omega
        obtain ⟨q1, o1, v1, a1, r1⟩ := Bk.get hg hgw (i := m) (by rw [ghL_len]; omega)
        rw [ghL_fr (by omega)] at r1
        obtain ⟨q2, o2, v2, a2, r2⟩ := Bk.get h.bk hbw (i := m) (by omega)
        obtain ⟨q3, o3, v3, a3, r3⟩ := Bk.get h.bk hbw (i := m + 1) hi
        have t1 := rd_one r1 hj
        rw [mixF, nth_tabN hj] at t1
        have t2 := rd_one r2 hj
        have t3 := rd_one r3 hj
        simp [b17_5, h37, h36, h1, h5, h6, h17, h18, h30, hjj, hj, hpos, hpos', w1, a1, t1, a2, t2, a3, t3, lessI_eq, e38, E17, -Int.natCast_add]
    · rintro e h37 ⟨⟨h1, h5, h6, h17, h18⟩, h30, h36⟩
      simp [b17_5, h37, h36, h1, h5, h6, h17, h18, h30, e37, E17]
  · rintro e h36 ⟨⟨h1, h5, h6, h17, h18⟩, h30⟩
    simp [b17_6, h5, h36, h.bk.lenV]
    exact c17_20 h.P h.by' h.bk h.V h.nb h.tw' h.pv' (by simp [h1]) (by simp [h5]) (by simp [h6]) (by simp [h17]) (by simp [h18])
/- Rows put together. -/
def orY (b : List (List Int)) (y k : Nat) : Int := itN (fun k s => orI s (nth (fr b k) y)) 0 k
theorem orY_zero {b : List (List Int)} {y : Nat} : orY b y 0 = 0 := itN_zero
theorem orY_succ {b : List (List Int)} {y k : Nat} : orY b y (k + 1) = orI (orY b y k) (nth (fr b k) y) := itN_succ
theorem foldF_or {b : List (List Int)} {k : Nat} : foldF orI (zr 12 0) b k = tabN 12 fun y => orY b y k := by
  induction k with
  | zero => rw [foldF_zero, zr_tabN]; exact tabN_ext fun i _ => orY_zero.symm
  | succ k ih => rw [foldF_succ, ih]; exact tabN_ext fun i hi => by rw [nth_tabN hi, orY_succ]
def orU (b : List (List Int)) (r k : Nat) : List Int := tabN 12 fun y => if y < r then orY b y b.length else if y = r then orY b y k else 0
theorem c17_17 {H G : Heap} {e : Env} {x y gx : Value} {b : List (List Int)} {bs : List Int} {tw : Bool} {pv : Int} (h : K17 H G x y b bs tw pv) (hg : Bk G gx (ghL b (b.length - 1))) (hE : E17 e x y b tw pv) (h30 : e 30 = gx)
    (h26 : e 26 = iv .u16 (stF b b.length)) (h28 : e 28 = iv .u16 (foldF orI (zr 12 0) b b.length)) (h32 : e 32 = iv .u16 (zr 12 0)) (h33 : e 33 = iv .u16 (zr 12 0)) (h34 : e 34 = .int .i64 0) :
    WK tab H.length false (.loop b17_4) [.blk 4, .seq (tailC 18 k17)] e G (QL H.length H) := by
  have hbw : BkW b := fun f hf => (h.V f hf).W
  have hnb := h.nb
  have z1 : zr 12 0 = stV' b 0 := by rw [zr_tabN]; exact tabN_ext fun i _ => by simp
  have z2 : zr 12 0 = orU b 0 0 := by rw [zr_tabN]; exact tabN_ext fun i _ => by simp [orY_zero]
  refine WP_forH 34 12 12 rfl (by omega) (fun r e => E17 e x y b tw pv ∧ e 30 = gx ∧ e 26 = iv .u16 (stF b b.length) ∧ e 28 = iv .u16 (foldF orI (zr 12 0) b b.length) ∧ e 32 = iv .u16 (stV' b r) ∧ e 33 = iv .u16 (orU b r 0)) ?_ ?_ h34
    ⟨hE, h30, h26, h28, by rw [h32, ← z1], by rw [h33, ← z2]⟩
  · rintro r e hr hrr e35 h34 ⟨⟨h1, h5, h6, h17, h18⟩, h30, h26, h28, h32, h33⟩
    have hl : (stV' b r).length = 12 := tabN_length
    have hset : (stV' b r).set r 4095 = stU b r 0 := tabN_set hr (by simp [stY_zero]) fun i _ hi => by
      by_cases h1 : i < r
      · rw [if_pos h1, if_pos h1]
      · rw [if_neg h1, if_neg h1, if_neg hi]
    have e9 := stc_at (k := .u16) (by omega) hset
    simp (disch := omega) [b17_4, h34, h32, hrr, hr, e9]
    refine WP_forH 35 b.length b.length rfl (by omega) (fun k e => E17 e x y b tw pv ∧ e 30 = gx ∧ e 26 = iv .u16 (stF b b.length) ∧ e 28 = iv .u16 (foldF orI (zr 12 0) b b.length) ∧ e 34 = .int .i64 r ∧ e 32 = iv .u16 (stU b r k) ∧ e 33 = iv .u16 (orU b r k)) ?_ ?_ (by simp)
      ⟨by simp [E17, h1, h5, h6, h17, h18], by simp [h30], by simp [h26], by simp [h28], by simp [h34], by simp, by simp [h33]⟩
    · rintro k e hk hkk e36 h35 ⟨⟨h1, h5, h6, h17, h18⟩, h30, h26, h28, h34, h32, h33⟩
      obtain ⟨q, off, ver, ha, hrd⟩ := Bk.get h.bk hbw hk
      have hl : (stU b r k).length = 12 := tabN_length
      have hl2 : (orU b r k).length = 12 := tabN_length
      have hnt : nth (stU b r k) r = stY b r k := by rw [stU, nth_tabN hr]; simp
      have hnt2 : nth (orU b r k) r = orY b r k := by rw [orU, nth_tabN hr]; simp
      have hset : (stU b r k).set r (andI (stY b r k) (nth (fr b k) r)) = stU b r (k + 1) := tabN_set hr (by simp [stY_succ]) fun i _ hi => by
        by_cases h1 : i < r
        · rw [if_pos h1, if_pos h1]
        · rw [if_neg h1, if_neg h1, if_neg hi, if_neg hi]
      have hset2 : (orU b r k).set r (orI (orY b r k) (nth (fr b k) r)) = orU b r (k + 1) := tabN_set hr (by simp [orY_succ]) fun i _ hi => by
        by_cases h1 : i < r
        · rw [if_pos h1, if_pos h1]
        · rw [if_neg h1, if_neg h1, if_neg hi, if_neg hi]
      have e9 := stc_at (k := .u16) (by omega) hset
      have e10 := stc_at (k := .u16) (by omega) hset2
      simp (disch := omega) [b17_3, h35, h1, h5, h6, h17, h18, h30, h26, h28, h34, h32, h33, hkk, hr, h.bk.lenV, ha, rd_one hrd hr, hnt, hnt2, andI_eq, orI_eq, e9, e10, e36, E17]
    · rintro e h35 ⟨⟨h1, h5, h6, h17, h18⟩, h30, h26, h28, h34, h32, h33⟩
      have n1 : stU b r b.length = stV' b (r + 1) := tabN_ext fun i _ => by
        by_cases h1 : i < r
        · rw [if_pos h1, if_pos (by omega)]
        · by_cases h2 : i = r
          · rw [if_neg h1, if_pos h2, if_pos (by omega)]
          · rw [if_neg h1, if_neg h2, if_neg (by omega)]
      have n2 : orU b r b.length = orU b (r + 1) 0 := tabN_ext fun i _ => by
        by_cases h1 : i < r
        · rw [if_pos h1, if_pos (by omega)]
        · by_cases h2 : i = r
          · rw [if_neg h1, if_pos h2, if_pos (by omega)]
          · rw [if_neg h1, if_neg h2, if_neg (by omega)]
            by_cases h3 : i = r + 1
            · rw [if_pos h3, orY_zero]
            · rw [if_neg h3]
      rw [n1] at h32
      rw [n2] at h33
      simp [b17_3, h35, h1, h5, h6, h17, h18, h30, h26, h28, h34, h32, h33, h.bk.lenV, e35, E17]
  · rintro e h34 ⟨⟨h1, h5, h6, h17, h18⟩, h30, h26, h28, h32, h33⟩
    have n1 : stV' b 12 = stF b b.length := tabN_ext fun i hi => by rw [if_pos hi]
    have n2 : orU b 12 0 = foldF orI (zr 12 0) b b.length := by rw [foldF_or]; exact tabN_ext fun i hi => by rw [if_pos hi]
    rw [n1] at h32
    rw [n2] at h33
    have l1 : (stF b b.length).length = 12 := tabN_length
    have l2 : (foldF orI (zr 12 0) b b.length).length = 12 := by rw [foldF_or]; exact tabN_length
    have q1 := eqV_iv (k := .u16) l1 l1
    have q2 := eqV_iv (k := .u16) l2 l2
    simp [b17_4, h34, tailC, k17, h26, h32, h28, h33, l1, l2, q1, q2]
    exact c17_19 h hg (by simp [E17, h1, h5, h6, h17, h18]) (by simp [h30]) (by simp)
theorem c17_12 {H G : Heap} {e : Env} {x y : Value} {b : List (List Int)} {bs : List Int} {tw : Bool} {pv : Int} (h : K17 H G x y b bs tw pv) (hE : E17 e x y b tw pv) : WK tab H.length false (tailC 12 k17) [] e G (QL H.length H) := by
  obtain ⟨h1, h5, h6, h17, h18⟩ := hE
  have hbw : BkW b := fun f hf => (h.V f hf).W
  have hnb := h.nb
  have hok := okB_V h.V hnb
  have c1 := call118 (pu := true) h.bk hbw (by omega)
  have c2 := call106 (pu := true) h.bk hbw (by omega)
  obtain ⟨gx, G1, β, c3, P1, o1⟩ := call120 hbw (by omega) G x h.bk
  rw [stR, if_pos hok] at c1
  rw [evR, if_pos hok] at c2
  have hgh : ghR b = ghL b (b.length - 1) := by rw [ghR, if_pos hok]
  have hgc : ghC b = 0 := by unfold ghC; rw [if_pos hok]
  rw [hgc] at c3
  rw [hgh] at o1
  have hg : Bk G1 gx (ghL b (b.length - 1)) := o1.sl
  have hlg := hg.lenV
  rw [ghL_len] at hlg
  have w1 : IntKind.wrap .i64 ((b.length : Int) - 1) = (b.length : Int) - 1 := wrap64 (by omega)
  have w2 : (if (b.length : Int) - 1 > 0 then (b.length : Int) - 1 else 0) = ((b.length - 1 : Nat) : Int) := by split <;> omega
  have w3 : (if 0 < (b.length : Int) - 1 then (b.length : Int) - 1 else 0) = ((b.length - 1 : Nat) : Int) := by split <;> omega
  have w4 : (if 1 < (b.length : Int) then (b.length : Int) - 1 else 0) = ((b.length - 1 : Nat) : Int) := by split <;> omega
  have hne : (((b.length - 1 : Nat) : Int) != ((b.length - 1 : Nat) : Int)) = false := by simp
  have l1 : (stF b b.length).length = 12 := tabN_length
  have l2 : (foldF orI (zr 12 0) b b.length).length = 12 := by rw [foldF_or]; exact tabN_length
  have s1 := stc_zr (k := .u16) (n := 12) (l := stF b b.length) l1
  have s2 := stc_zr (k := .u16) (n := 12) (l := foldF orI (zr 12 0) b b.length) l2
  have s3 := stc_zr (k := .u16) (n := 12) (l := zr 12 0) (by simp)
  simp [tailC, k17, h5, c1, c2, c3, zs_cs, agg_cs, l1, l2, s1, s2, s3, hlg, h.bk.lenV, w1, w2, w3, w4, hne, fill]
  exact c17_17 (h.pre P1) hg (by simp [E17, h1, h5, h6, h17, h18]) (by simp) (by simp) (by simp) (by simp) (by simp) (by simp)
/-- A text with another one behind some of its parts. -/
def headC : Nat → Cd → Cd → Cd
  | 0, _, t => t
  | n + 1, .seq a b, t => .seq a (headC n b t)
  | _, c, _ => c
def T12 : Cd := tailC 12 k17
theorem c17_2 {H G : Heap} {e : Env} {x y : Value} {b : List (List Int)} {bs : List Int} {tw : Bool} {pv j : Int} {least f c : Nat} (h : K17 H G x y b bs tw pv) (hE : E17 e x y b tw pv) (hl : 1 ≤ least)
    (hb : ∀ n i, least ≤ n → i + n ≤ b.length → j ≤ lpD b n i ∧ (lpD b n i = j → n < c ∨ (n = c ∧ f ≤ i))) (hlb : least ≤ b.length)
    (h12 : e 12 = .int .i64 f) (h13 : e 13 = .int .i64 c) (h14 : e 14 = .int .i64 j) (h22 : e 22 = .int .i64 least) :
    WK tab H.length false (.loop b17_2) [.blk 0, .seq (tailC 12 k17)] e G (QL H.length H) := by
  have hnb := h.nb
  have hbw : BkW b := fun f hf => (h.V f hf).W
  refine WP_from 22 least (b.length + 1) _ rfl (fun n e G' => G = G' ∧ E17 e x y b tw pv ∧ e 12 = .int .i64 f ∧ e 13 = .int .i64 c ∧ e 14 = .int .i64 j) (by omega) (by omega) ?_ ?_ h22 ⟨rfl, hE, h12, h13, h14⟩
  · rintro n e _ hn1 hn2 hnn e23 h22 ⟨rfl, ⟨h1, h5, h6, h17, h18⟩, h12, h13, h14⟩
    have hle : n ≤ b.length := by omega
    have hle' : decide ((n : Int) ≤ b.length) = true := decide_eq_true (by omega)
    simp [b17_2, h5, h22, h.bk.lenV, hle, hle']
    refine WP_forH 23 (b.length - n + 1) _ rfl (by omega) (fun i e => E17 e x y b tw pv ∧ e 12 = .int .i64 f ∧ e 13 = .int .i64 c ∧ e 14 = .int .i64 j ∧ e 22 = .int .i64 n) ?_ ?_ (by simp) ⟨by simp [E17, h1, h5, h6, h17, h18], by simp [h12], by simp [h13], by simp [h14], by simp [h22]⟩
    · rintro i e hi hii e24 h23 ⟨⟨h1, h5, h6, h17, h18⟩, h12, h13, h14, h22⟩
      have w1 : IntKind.wrap .i64 ((i : Int) + n) = ((i + n : Nat) : Int) := by rw [wrap64 (by omega)]; omega
      have w2 : IntKind.wrap .i64 (((i + n : Nat) : Int) - 1) = ((i + n - 1 : Nat) : Int) := by rw [wrap64 (by omega)]; omega
      have hin : i + n ≤ b.length := by omega
      have hin' : decide (((i + n : Nat) : Int) ≤ b.length) = true := decide_eq_true (by omega)
      obtain ⟨q, off, ver, ha, hr⟩ := Bk.get h.bk hbw (i := i + n - 1) (by omega)
      obtain ⟨q', off', ver', ha', hr'⟩ := Bk.get h.bk hbw (i := i) (by omega)
      have V1 : VF (fr b (i + n - 1)) := h.V _ (at0_mem (by omega))
      have V2 : VF (fr b i) := h.V _ (at0_mem (by omega))
      have c1 := call95 (pu := true) (H := G) V1 V2
      obtain ⟨b1, b2⟩ := hb n i hn1 hin
      have eD : difF (fr b (i + n - 1)) (fr b i) = lpD b n i := rfl
      rw [eD] at c1
      have g1 : ¬ lpD b n i < j := by omega
      by_cases he : lpD b n i = j
      · have b2 := b2 he
        have k1 : (lpD b n i == j) = true := by rw [beq_iff_eq]; exact he
        have k2 : ¬ c < n := by omega
        by_cases hnc : n = c
        · have k3 : ((n : Int) == (c : Int)) = true := by rw [beq_iff_eq]; omega
          have k4 : ¬ i < f := by omega
          simp [b17_1, h1, h5, h6, h17, h18, h12, h13, h14, h22, h23, h.bk.lenV, w1, w2, hin, hin', ha, hr, ha', hr', agg_cs, c1, g1, k1, k2, k3, k4, skip, e24, E17, -Int.natCast_add]
        · have k3 : ((n : Int) == (c : Int)) = false := by rw [beq_eq_false_iff_ne]; omega
          simp [b17_1, h1, h5, h6, h17, h18, h12, h13, h14, h22, h23, h.bk.lenV, w1, w2, hin, hin', ha, hr, ha', hr', agg_cs, c1, g1, k1, k2, k3, skip, e24, E17, -Int.natCast_add]
      · have k1 : (lpD b n i == j) = false := by rw [beq_eq_false_iff_ne]; exact he
        simp [b17_1, h1, h5, h6, h17, h18, h12, h13, h14, h22, h23, h.bk.lenV, w1, w2, hin, hin', ha, hr, ha', hr', agg_cs, c1, g1, k1, skip, e24, E17, -Int.natCast_add]
    · rintro e h23 ⟨⟨h1, h5, h6, h17, h18⟩, h12, h13, h14, h22⟩
      have w1 : IntKind.wrap .i64 (((b.length - n + 1 : Nat) : Int) + n) = ((b.length + 1 : Nat) : Int) := by rw [wrap64 (by omega)]; omega
      have hin' : decide (((b.length + 1 : Nat) : Int) ≤ b.length) = false := decide_eq_false (by omega)
      have hin2 : ¬ b.length + 1 ≤ b.length := by omega
      simp [b17_1, h1, h5, h6, h17, h18, h12, h13, h14, h22, h23, h.bk.lenV, w1, hin2, hin', e23, E17, -Int.natCast_add]
  · rintro e _ h22 ⟨rfl, ⟨h1, h5, h6, h17, h18⟩, h12, h13, h14⟩
    have hin' : decide (((b.length + 1 : Nat) : Int) ≤ b.length) = false := decide_eq_false (by omega)
    have hin2 : ¬ b.length + 1 ≤ b.length := by omega
    simp [b17_2, h5, h22, h.bk.lenV, hin2, hin', -Int.natCast_add]
    exact c17_12 h (by simp [E17, h1, h5, h6, h17, h18])
theorem c17_5 {H G : Heap} {e : Env} {x y : Value} {b : List (List Int)} {bs : List Int} {tw : Bool} (hP : Pre H G) (hy : By G y bs) (bk : Bk G x b) (Vb : ∀ f ∈ b, VF f) (nb : b.length ≤ 40) (htw : tw = true → ∃ L, b = L ++ L)
    (h1 : e 1 = y) (h5 : e 5 = x) (h6 : e 6 = .bool tw) : WK tab H.length false (tailC 5 k17) [] e G (QL H.length H) := by
  have hbw : BkW b := fun f hf => (Vb f hf).W
  have hok := okB_V Vb nb
  obtain ⟨a, c1, f1⟩ := call124 (pu := true) (i := 0) (n := 4) hy (by omega) (by omega)
  obtain ⟨a, rfl⟩ := Int.eq_ofNat_of_zero_le f1.1
  rw [show ((0 : Nat) : Int) = 0 from rfl] at c1
  obtain ⟨least, hl⟩ : ∃ least, least = 1 + a := ⟨_, rfl⟩
  have w1 : IntKind.wrap .i64 (1 + (a : Int)) = (least : Int) := by rw [wrap64 (by omega)]; omega
  have c2 := call92 (pu := true) (least := (least : Int)) bk hbw (by omega)
  have c3 := call93 (pu := true) (least := (least : Int)) bk hbw (by omega)
  have c4 := call111 (pu := true) bk hbw (by omega)
  have c5 := call110 (pu := true) bk hbw (by omega)
  obtain ⟨pv, pc, hper, hpv, hpc⟩ : ∃ pv pc : Int, perR b = tup [.int .i64 pv, .int .i64 pc] ∧ (1 ≤ b.length → pv = findN (perP b) (b.length + 1)) ∧ pc = if b.length = 0 then 6 else 0 := by
    by_cases hb : b = []
    · subst hb; exact ⟨0, 6, by rw [perR, if_pos hok]; rfl, fun h => by simp at h, rfl⟩
    · have : b.length ≠ 0 := fun h => hb (List.length_eq_zero_iff.1 h)
      exact ⟨_, 0, by rw [perR, if_pos hok, if_neg hb], fun _ => rfl, by rw [if_neg this]⟩
  rw [hper] at c4 c5
  have hK : K17 H G x y b bs tw pv := ⟨hP, hy, bk, Vb, nb, htw, hpv⟩
  have pe1 : (pc == 0) = decide (0 < b.length) := by
    rw [hpc]
    by_cases hb0 : b.length = 0
    · rw [if_pos hb0, hb0]; decide
    · have : decide (0 < b.length) = true := decide_eq_true (by omega)
      rw [if_neg hb0, this]; rfl
  have pe2 : decide ((0 : Int) < b.length) = decide (0 < b.length) := decide_eq_decide.2 (by omega)
  have eqb : ∀ q : Bool, eqV .b (.bool q) (.bool q) = some true := fun q => by cases q <;> rfl
  have B1 := eqb (decide (0 < b.length))
  by_cases hlt : b.length < least
  · have e1 : lpR b least = tup [.int .i64 0, .int .i64 0, .int .i64 0, .int .i64 6] := by rw [lpR, if_pos hok, if_neg (by omega), if_pos (by omega)]
    rw [e1] at c2 c3
    have g1 : decide ((least : Int) ≤ b.length) = false := decide_eq_false (by omega)
    have g2 : ¬ least ≤ b.length := by omega
    have B2 : eqV .b (.bool false) (.bool false) = some true := rfl
    have e5 : tailC 5 k17 = headC 7 (tailC 5 k17) T12 := rfl
    rw [e5]
    simp [headC, tailC, k17, h1, h5, c1, w1, c2, c3, c4, c5, g4a, g4b, g4c, g4d, bk.lenV, g1, g2, B2, pe1, pe2, B1]
    exact c17_12 hK (by simp [E17, h1, h5, h6, hpc])
  · obtain ⟨f, c, j, b1, b2, b3, b4, b5⟩ := best_loop (b := b) (least := least) (by omega) (by omega)
    have e1 : lpR b least = tup [.int .i64 f, .int .i64 c, .int .i64 j, .int .i64 0] := by
      rw [lpR, if_pos hok, if_neg (by omega), if_neg (by omega), show ((least : Nat) : Int).toNat = least from Int.toNat_natCast least, b1]
    rw [e1] at c2 c3
    have g1 : decide ((least : Int) ≤ b.length) = true := decide_eq_true (by omega)
    have g2 : least ≤ b.length := by omega
    have B2 : eqV .b (.bool true) (.bool true) = some true := rfl
    have e5 : tailC 5 k17 = headC 7 (tailC 5 k17) T12 := rfl
    rw [e5]
    have k1 : ¬ c < least := by omega
    have k2 : IntKind.wrap .i64 ((f : Int) + c) = ((f + c : Nat) : Int) := by rw [wrap64 (by omega)]; omega
    have k3 : ¬ b.length < f + c := by omega
    have k3' : decide ((b.length : Int) < ((f + c : Nat) : Int)) = false := decide_eq_false (by omega)
    have k4 : IntKind.wrap .i64 (((f + c : Nat) : Int) - 1) = ((f + c - 1 : Nat) : Int) := by rw [wrap64 (by omega)]; omega
    have k5 : ¬ (f : Int) < 0 := by omega
    obtain ⟨q, off, ver, ha, hr⟩ := Bk.get bk hbw (i := f + c - 1) (by omega)
    obtain ⟨q', off', ver', ha', hr'⟩ := Bk.get bk hbw (i := f) (by omega)
    have V1 : VF (fr b (f + c - 1)) := Vb _ (at0_mem (by omega))
    have V2 : VF (fr b f) := Vb _ (at0_mem (by omega))
    have c6 := call125 (pu := true) (H := G) V1 V2
    have eD : difF (fr b (f + c - 1)) (fr b f) = j := b4.symm
    rw [eD] at c6
    simp [headC, tailC, k17, h1, h5, c1, w1, c2, c3, c4, c5, g4a, g4b, g4c, g4d, bk.lenV, g1, g2, B2, pe1, pe2, B1, k1, k2, k3, k3', k4, k5, ha, hr, ha', hr', agg_cs, c6, -Int.natCast_add]
    exact c17_2 hK (by simp [E17, h1, h5, h6, hpc]) (by omega) b5 g2 (by simp) (by simp) (by simp) (by simp)
def T5 : Cd := tailC 5 k17
theorem bkC_two {L M : List (List Int)} : bkC L ++ bkC M = bkC (L ++ M) := by rw [bkC, bkC, bkC, rowsC_app]
theorem call17 {H : Heap} {x y : Value} {bs bs' : List Int} (hx : By H x bs) (hy : By H y bs') : ∃ H', Call tab false 17 [x, y] H = some (.bool true, H') := by
  refine ⟨H, Call_wp t17 (.inl rfl) rfl ?_⟩
  have e5 : k17 = headC 5 k17 T5 := rfl
  have c84 := call84 (pu := true) hx hy
  cases hb : decide (3000 < bs.length) || decide (3000 < bs'.length) with
  | true =>
    rw [hb] at c84
    simp [c17, k17, c84]
  | false =>
    rw [hb] at c84
    simp at hb
    obtain ⟨L, c85, Vb, hbl⟩ := call85 (pu := true) hx (by omega)
    obtain ⟨HB, hHB⟩ : ∃ HB, HB = H ++ [(⟨bkC L, 12, 0, false⟩ : Blk)] := ⟨_, rfl⟩
    have pB : Pre H HB := by rw [hHB]; exact Pre.one
    rw [← hHB] at c85
    have hbk : Bk HB (slc H.length 0 0 L.length L.length) L := bk_of (by rw [hHB]; exact get_last) Vb rfl (Nat.le_refl _)
    obtain ⟨v, c124, hv⟩ := call124 (pu := true) (i := 3) (n := 2) (hy.pre pB) (by omega) (by omega)
    rw [show ((3 : Nat) : Int) = 3 from rfl] at c124
    obtain ⟨xl, hxl⟩ : ∃ xl, xl = slc H.length 0 0 L.length L.length := ⟨_, rfl⟩
    rw [← hxl] at c85 hbk
    have hkind : wbOf c17.kind = false := rfl
    cases htw : (v == 0) with
    | false =>
      show WK tab H.length false k17 [] (ini [x, y]) H (QL H.length H)
      rw [e5]
      simp [headC, k17, c84, c85, c124, htw]
      exact c17_5 (tw := false) pB (hy.pre pB) hbk Vb (by omega) (fun h => by cases h) (by simp) (by simp) (by simp)
    | true =>
      obtain ⟨G1, hG1⟩ : ∃ G1, G1 = HB ++ [(⟨[], 12, 0, false⟩ : Blk)] := ⟨_, rfl⟩
      have P1 : Pre HB G1 := by rw [hG1]; exact Pre.one
      have g1 : G1[HB.length]? = some ⟨[], 12, 0, false⟩ := by rw [hG1]; exact get_last
      have hle := pB.len
      obtain ⟨v1, sB⟩ := app_bk (n0 := H.length) (m := 0) (wb := false) (hbk.pre P1) (by omega) (by omega) hle g1 rfl
      rw [Nat.zero_add, show ([] : List Value) ++ bkC L = bkC L from rfl] at sB
      obtain ⟨G2, hG2⟩ : ∃ G2, G2 = G1.set HB.length ⟨bkC L, 12, v1, false⟩ := ⟨_, rfl⟩
      rw [← hG2] at sB
      have P2 : Pre HB G2 := by rw [hG2]; exact P1.set (Nat.le_refl _)
      have g2 : G2[HB.length]? = some ⟨bkC L, 12, v1, false⟩ := by rw [hG2]; exact get_set g1
      obtain ⟨v2, sC⟩ := app_bk (n0 := H.length) (m := L.length) (wb := false) (hbk.pre P2) (by omega) (by omega) hle g2 (vl_size Vb)
      rw [bkC_two] at sC
      obtain ⟨G3, hG3⟩ : ∃ G3, G3 = G2.set HB.length ⟨bkC (L ++ L), 12, v2, false⟩ := ⟨_, rfl⟩
      rw [← hG3] at sC
      have P3 : Pre HB G3 := by rw [hG3]; exact P2.set (Nat.le_refl _)
      have V2 : ∀ f ∈ L ++ L, VF f := fun f hf => (List.mem_append.1 hf).elim (Vb f) (Vb f)
      have hbk2 : Bk G3 (slc HB.length 0 v2 (L.length + L.length) (L.length + L.length)) (L ++ L) := bk_of (by rw [hG3]; exact get_set g2) V2 (by simp) (Nat.le_refl _)
      obtain ⟨x2, hx2⟩ : ∃ x2, x2 = slc HB.length 0 v2 (L.length + L.length) (L.length + L.length) := ⟨_, rfl⟩
      rw [← hx2] at sC hbk2
      have hf0 : fill (rep 0 (cs .u16 (zr 12 0))) [] = some [] := rfl
      show WK tab H.length false k17 [] (ini [x, y]) H (QL H.length H)
      rw [e5]
      simp [headC, k17, c84, c85, c124, htw, hf0, zs_cs, ← hG1, sB, sC, wbOf]
      exact c17_5 (tw := true) (pB.trans P3) (hy.pre (pB.trans P3)) hbk2 V2 (by simp; omega) (fun _ => ⟨L, rfl⟩) (by simp) (by simp) (by simp)
end Fb
