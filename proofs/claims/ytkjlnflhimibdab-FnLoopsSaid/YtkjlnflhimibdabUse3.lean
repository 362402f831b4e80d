/- What each function computes. -/
import Derived.Test.YtkjlnflhimibdabUse2
set_option linter.unusedVariables false
set_option linter.unusedSimpArgs false
namespace Fb
open Go
/-- Two lists of its own, and a code. -/
def RsD (H : Heap) (r : Value × Heap) (q : List Int × ML) (c : Int) : Prop := ∃ r1 r2 G β1 β2, r = (tup [r1, r2, .int .i64 c], G) ∧ Pre H G ∧ Own G r1 β1 H.length 1 q.1.length (cs .i64 q.1) ∧ Own G r2 β2 H.length 2 q.1.length (mvsC q.2) ∧ ∀ b, β1 = some b → β2 ≠ some b
theorem mcR_len {b c : List (List Int)} {m : Int} : (mcR b c m).2.length = (mcR b c m).1.length := by
  by_cases h : mcC b c m = 0
  · rw [mcR, if_pos h]; exact mcK_len.2
  · rw [mcR, if_neg h]; rfl
theorem two_own {H : Heap} {vs ws : List Value} {e1 e2 n1 n2 : Nat} (h1 : vs.length = n1 * e1) (h2 : ws.length = n2 * e2) :
    Own (H ++ [⟨vs, e1, 0, false⟩, ⟨ws, e2, 0, false⟩]) (slc H.length 0 0 n1 n1) (some H.length) H.length e1 n1 vs ∧ Own (H ++ [⟨vs, e1, 0, false⟩, ⟨ws, e2, 0, false⟩]) (slc (H.length + 1) 0 0 n2 n2) (some (H.length + 1)) H.length e2 n2 ws :=
  ⟨⟨h1, Nat.le_refl _, 0, n1, [], rfl, Nat.le_refl _, by simp⟩, ⟨h2, by omega, 0, n2, [], rfl, Nat.le_refl _, by simp⟩⟩
theorem RsM.d {b c : List (List Int)} {m : Int} {H : Heap} {r : Value × Heap} (h : RsM H r (mcR b c m) (mcC b c m)) : RsD H r (mcR b c m) (mcC b c m) := by
  rcases h with ⟨hc, rfl⟩ | ⟨hc, rfl⟩
  · refine ⟨_, _, H, none, none, rfl, .refl, ?_, ?_, by intro b h; cases h⟩
    · rw [mcR, if_neg hc]; exact own_nil
    · rw [mcR, if_neg hc]; exact own_nil
  · obtain ⟨o1, o2⟩ := two_own (H := H) (vs := cs .i64 (mcR b c m).1) (ws := mvsC (mcR b c m).2) (e1 := 1) (e2 := 2) (n1 := (mcR b c m).1.length) (n2 := (mcR b c m).1.length) (by simp) (by rw [mvsC_length, mcR_len])
    exact ⟨_, _, _, _, _, rfl, ⟨_, rfl⟩, o1, o2, by intro b h; cases h; simp⟩
theorem two_fin {H G : Heap} {b1 b2 : Nat} {x y : Value} {q : List Int × ML} {c : Int} (g1 : GrB H G b1 x 1 q.1.length (cs .i64 q.1)) (g2 : GrB H G b2 y 2 q.1.length (mvsC q.2)) (hne : b1 ≠ b2) (hl : q.2.length = q.1.length) : RsD H (finish H.length G [x, y, .int .i64 c]) q c := by
  rw [fin_two g1 g2 hne flat_cs mvsC_flat]
  obtain ⟨o1, o2⟩ := two_own (H := H) (vs := cs .i64 q.1) (ws := mvsC q.2) (e1 := 1) (e2 := 2) (n1 := q.1.length) (n2 := q.1.length) (by simp) (by rw [mvsC_length, hl])
  exact ⟨_, _, _, _, _, rfl, ⟨_, rfl⟩, o1, o2, by intro b h; cases h; simp⟩
theorem call129 {pu : Bool} {b c : List (List Int)} {m : Int} (hw : BkW b) (hwc : BkW c) (hn : b.length ≤ 1000000) (hnc : c.length ≤ 1000000) {H : Heap} {x y : Value} (h : Bk H x b) (hy : Bk H y c) :
    ∃ r, Call tab pu 129 [x, y, .int .i64 m] H = some r ∧ RsD H r (mcR b c m) (mcC b c m) := by
  refine Call_ex t129 (.inr rfl) rfl ?_
  have h1 := call318 (pu := true) h hw (by omega)
  have h2 := call318 (pu := true) hy hwc (by omega)
  have p0 : Pre H (H ++ [(⟨[], 1, 0, false⟩ : Blk), ⟨[], 2, 0, false⟩]) := ⟨_, rfl⟩
  have gA : GrB H (H ++ [(⟨[], 1, 0, false⟩ : Blk), ⟨[], 2, 0, false⟩]) H.length (slc H.length 0 0 0 0) 1 0 [] := GrB.mk' (by simp) (Nat.le_refl _) p0
  have gB : GrB H (H ++ [(⟨[], 1, 0, false⟩ : Blk), ⟨[], 2, 0, false⟩]) (H.length + 1) (slc (H.length + 1) 0 0 0 0) 2 0 [] := GrB.mk' (by simp) (by omega) p0
  have hnil : ∀ k : Int, mcC b c m = k → k ≠ 0 → RsD H (finish H.length (H ++ [⟨[], 1, 0, false⟩, ⟨[], 2, 0, false⟩]) [slc H.length 0 0 0 0, slc (H.length + 1) 0 0 0 0, .int .i64 k]) (mcR b c m) (mcC b c m) := fun k hk h0 => by
    have hR : mcR b c m = ([], []) := by rw [mcR, if_neg (by rw [hk]; exact h0)]
    rw [hR, hk]
    exact two_fin gA gB (by omega) rfl
  cases k1 : okB b with
  | false =>
    have q := hnil 1 (by simp [mcC, k1]) (by omega)
    simp [c129, k129, h1, k1, skip, fill, rep]
    exact q
  | true =>
    cases k2 : okB c with
    | false =>
      have q := hnil 1 (by simp [mcC, k1, k2]) (by omega)
      simp [c129, k129, h1, k1, h2, k2, fill, rep]
      exact q
    | true =>
      cases k3 : in1 m 0 4 with
      | false =>
        have q := hnil 2 (by simp [mcC, k1, k2, k3]) (by omega)
        simp [c129, k129, h1, k1, h2, k2, call353, k3, skip, fill, rep]
        exact q
      | true =>
        cases k4 : ((c.length : Int) == 0) with
        | true =>
          have q := hnil 2 (by simp only [mcC, k1, k2, k3, k4]; rfl) (by omega)
          simp [c129, k129, h1, k1, h2, k2, call353, k3, SlR.lenV hy, k4, fill, rep]
          exact q
        | false =>
          have hC : mcC b c m = 0 := by simp only [mcC, k1, k2, k3, k4]; rfl
          obtain ⟨_, _, hc0, n, rfl, hm⟩ := mcC_ok hC
          obtain ⟨hokb, hlb⟩ := okB_fs2 k1
          obtain ⟨hokc, hlc⟩ := okB_fs2 k2
          obtain ⟨hs, hn1, hn9, h00⟩ := farM_ok hm
          obtain ⟨G1, hG1⟩ : ∃ G1, G1 = H ++ [(⟨[], 1, 0, false⟩ : Blk), ⟨[], 2, 0, false⟩] := ⟨_, rfl⟩
          rw [← hG1] at gA gB p0
          have l1 : G1.length = H.length + 2 := by rw [hG1]; simp
          have h354 := call354 (pu := true) (H := G1) hm
          obtain ⟨ms, hms⟩ : ∃ ms, ms = farM n := ⟨_, rfl⟩
          rw [← hms, l1] at h354
          rw [← hms] at hs hn1 hn9 h00
          obtain ⟨G2, hG2⟩ : ∃ G2, G2 = G1 ++ [(⟨mvsC ms, 2, 0, false⟩ : Blk)] := ⟨_, rfl⟩
          rw [← hG2] at h354
          have p2 : Pre G1 G2 := by rw [hG2]; exact Pre.one
          have z4 : G2[H.length + 2]? = some ⟨mvsC ms, 2, 0, false⟩ := by rw [hG2, ← l1]; simp
          have hR : mcR b c n = mcK b c n (mcN b c) := by rw [mcR, if_pos hC]; simp
          simp [c129, k129, h1, k1, h2, k2, call353, k3, SlR.lenV hy, k4, fill, rep, ← hG1, h354]
          refine WK_loop (fun p e G => e 0 = x ∧ e 1 = y ∧ e 11 = slc (H.length + 2) 0 0 ms.length ms.length ∧ e 12 = .int .i64 (p : Int) ∧ G[H.length + 2]? = some ⟨mvsC ms, 2, 0, false⟩ ∧ ∃ g1 g2, e 9 = g1 ∧ e 10 = g2 ∧ GrB H G H.length g1 1 (mcK b c n p).1.length (cs .i64 (mcK b c n p).1) ∧ GrB H G (H.length + 1) g2 2 (mcK b c n p).1.length (mvsC (mcK b c n p).2)) (mcN b c) ?_ (Nat.zero_le _)
            ⟨by simp, by simp, by simp, by simp, z4, slc H.length 0 0 0 0, slc (H.length + 1) 0 0 0 0, by simp, by simp, by rw [mcK_zero]; exact gA.onto p2, by rw [mcK_zero]; exact gB.onto p2⟩
          rintro p e G _ hp ⟨h0, h1e, h11, h12, gM, g1, g2, h9, h10, hg1, hg2⟩
          have hPG := hg1.pr
          have hlM := (List.getElem?_eq_some_iff.1 gM).1
          have e1 : IntKind.wrap .i64 ((p : Int) + (c.length : Int)) = (p : Int) + c.length := wrap64 (by unfold mcN at hp; omega)
          have hKl := mcK_len (b := b) (c := c) (m := n) (k := p)
          by_cases hpe : p = mcN b c
          · have n1 : ¬ ((p : Int) + c.length ≤ b.length) := by unfold mcN at hpe; omega
            rw [hpe, ← hR] at hg1 hg2
            have hfin := two_fin (c := 0) hg1 hg2 (by omega) mcR_len
            simp [b129_3, h0, h1e, h11, h12, h9, h10, SlR.lenV h, SlR.lenV hy, e1, n1]
            rw [hC]; exact hfin
          · have n1 : (p : Int) + c.length ≤ b.length := by unfold mcN at hp hpe; omega
            have hpl : p + c.length ≤ b.length := by omega
            have hx : SlR G (slc (H.length + 2) 0 0 ms.length ms.length) 2 ms.length (mvsC ms) :=
              ⟨by rw [mvsC_length], .inr ⟨_, 0, 0, _, rfl, Nat.le_refl _, by rw [rd_at gM rfl (by simp only [mvsC_length]; omega)]; simp only [List.drop_zero]; rw [List.take_of_length_le (by simp [mvsC_length])], _, gM, rfl, rfl⟩⟩
            have hJ : mcJ b c n p = findN (fun j => cpP b c (mv ms j) p) ms.length := by rw [mcJ, hms]
            have hsu := mcK_succ (b := b) (c := c) (m := n) (k := p)
            have e2 : IntKind.wrap .i64 ((p : Int) + 1) = ((p + 1 : Nat) : Int) := by rw [wrap64 (by omega)]; omega
            simp [b129_3, h0, h1e, h11, h12, h9, h10, SlR.lenV h, SlR.lenV hy, e1, n1]
            refine WP_forH 13 ms.length _ rfl (by omega) (fun j e => e 0 = x ∧ e 1 = y ∧ e 11 = slc (H.length + 2) 0 0 ms.length ms.length ∧ e 12 = .int .i64 (p : Int) ∧ e 9 = g1 ∧ e 10 = g2 ∧ ∀ i, i < j → cpP b c (mv ms i) p = false) ?_ ?_ (by simp) ⟨by simp [h0], by simp [h1e], by simp [h11], by simp [h12], by simp [h9], by simp [h10], fun i hi => by omega⟩
            · rintro j e hj hjj e4 h13 ⟨h0, h1e, h11, h12, h9, h10, hall⟩
              simp [b129_2, h13, h0, h1e, h11, h12, h9, h10, hjj]
              have hsm := hs j hj
              obtain ⟨s1, s2⟩ := smallM_ok hsm
              obtain ⟨q2, off2, ver2, ha2, hr2⟩ := hx.get1 hj
              rw [mvsC_elem hj] at hr2
              have r0 := rd_part hr2 (o := 0) (m := 1) (by omega)
              have r1 := rd_part hr2 (o := 1) (m := 1) (by omega)
              simp [mvC] at r0 r1
              have w1 : IntKind.wrap .i64 (mv ms j).1 = (mv ms j).1 := wrap64 (by omega)
              have w2 : IntKind.wrap .i64 (mv ms j).2 = (mv ms j).2 := wrap64 (by omega)
              refine WP_forH 15 c.length _ rfl (by omega) (fun i e => e 0 = x ∧ e 1 = y ∧ e 11 = slc (H.length + 2) 0 0 ms.length ms.length ∧ e 12 = .int .i64 (p : Int) ∧ e 9 = g1 ∧ e 10 = g2 ∧ e 13 = .int .i64 j ∧ e 14 = .bool (allN (fun i => decide (fr b (p + i) = shF (fr c i) (mv ms j).1 (mv ms j).2)) i)) ?_ ?_ (by simp) ⟨by simp [h0], by simp [h1e], by simp [h11], by simp [h12], by simp [h9], by simp [h10], by simp [h13], by simp [allN_zero]⟩
              · rintro i e hi hii e5 h15 ⟨h0, h1e, h11, h12, h9, h10, h13, h14⟩
                obtain ⟨q, off, ver, ha, hr⟩ := Bk.get (SlR.pre hPG hy) hwc hi
                obtain ⟨q3, off3, ver3, ha3, hr3⟩ := Bk.get (SlR.pre hPG h) hw (i := p + i) (by omega)
                have h355 := call355 (pu := true) (H := G) (dx := (mv ms j).1) (dy := (mv ms j).2) (hwc.fr hi) hr (by omega) (by omega)
                have e6 : IntKind.wrap .i64 ((p : Int) + (i : Int)) = ((p + i : Nat) : Int) := by rw [wrap64 (by omega)]; omega
                have hgl := (hw.fr (i := p + i) (by omega)).len
                have hsl : (shF (fr c i) (mv ms j).1 (mv ms j).2).length = 12 := shF_length
                have hev := eqV_iv (k := .u16) hsl hgl
                have hdd : decide (shF (fr c i) (mv ms j).1 (mv ms j).2 = fr b (p + i)) = decide (fr b (p + i) = shF (fr c i) (mv ms j).1 (mv ms j).2) := by
                  by_cases q : fr b (p + i) = shF (fr c i) (mv ms j).1 (mv ms j).2
                  · rw [decide_eq_true q, decide_eq_true q.symm]
                  · rw [decide_eq_false q, decide_eq_false fun z => q z.symm]
                rw [hdd] at hev
                have hAs := allN_succ (p := fun i => decide (fr b (p + i) = shF (fr c i) (mv ms j).1 (mv ms j).2)) (n := i)
                generalize hAA : allN (fun i => decide (fr b (p + i) = shF (fr c i) (mv ms j).1 (mv ms j).2)) i = A at *
                rw [hAs]
                generalize decide (fr b (p + i) = shF (fr c i) (mv ms j).1 (mv ms j).2) = B at *
                cases A with
                | true => simp [b129_1, h15, h0, h1e, h11, h12, h9, h10, h13, h14, SlR.lenV hy, hii, ha, ha2, r0, r1, w1, w2, h355, e6, ha3, hr3, agg_cs, hev, e5, -idxAV_slc, -Int.natCast_add]
                | false => simp [b129_1, h15, h0, h1e, h11, h12, h9, h10, h13, h14, SlR.lenV hy, hii, skip, e5, -idxAV_slc, -Int.natCast_add]
              · rintro e h15 ⟨h0, h1e, h11, h12, h9, h10, h13, h14⟩
                have hcp : allN (fun i => decide (fr b (p + i) = shF (fr c i) (mv ms j).1 (mv ms j).2)) c.length = cpP b c (mv ms j) p := rfl
                rw [hcp] at h14
                cases hP : cpP b c (mv ms j) p with
                | false =>
                  rw [hP] at h14
                  simp [b129_1, h15, h0, h1e, h11, h12, h9, h10, h13, h14, SlR.lenV hy, e4]
                  exact upto_succ hall hP
                | true =>
                  rw [hP] at h14
                  have hjv : mcJ b c n p = j := by rw [hJ]; exact findN_some hj hall hP
                  rw [mcS, if_pos (by omega), hjv, ← hms, Int.toNat_natCast] at hsu
                  obtain ⟨x1, Gc, hp1, g1', kc⟩ := hg1.push (c := [.int .i64 (p : Int)]) (bytes := 8) rfl (by have : roomMax = 140737488355328 := rfl; omega) (wb := false)
                  have g2k := hg2.kept (kc _ (by omega) hg2.ltG) g1'.pr
                  obtain ⟨x2, Gd, hp2, g2', kd⟩ := g2k.push (c := mvC (mv ms j)) (bytes := 2) rfl (by have : roomMax = 140737488355328 := rfl; omega) (wb := false)
                  have gMc : Gc[H.length + 2]? = some ⟨mvsC ms, 2, 0, false⟩ := by rw [kc _ (by omega) hlM]; exact gM
                  have hlMc := (List.getElem?_eq_some_iff.1 gMc).1
                  have hr2c : rd Gc q2 off2 ver2 2 = some (mvC (mv ms j)) := by
                    have hxc : SlR Gc (slc (H.length + 2) 0 0 ms.length ms.length) 2 ms.length (mvsC ms) :=
                      ⟨by rw [mvsC_length], .inr ⟨_, 0, 0, _, rfl, Nat.le_refl _, by rw [rd_at gMc rfl (by simp only [mvsC_length]; omega)]; simp only [List.drop_zero]; rw [List.take_of_length_le (by simp [mvsC_length])], _, gMc, rfl, rfl⟩⟩
                    obtain ⟨q9, off9, ver9, ha9, hr9⟩ := hxc.get1 hj
                    rw [ha2] at ha9
                    simp [adr] at ha9
                    obtain ⟨z1, z2, z3⟩ := ha9
                    subst z1 z2 z3
                    rw [hr9, mvsC_elem hj]
                  have g1'' := g1'.kept (kd _ (by omega) g1'.ltG) g2'.pr
                  have hf1 : fill (rep 1 [.int .i64 0]) [(0, 1, .int .i64 (p : Int))] = some [.int .i64 (p : Int)] := fill_one rfl rfl
                  have hf2 : fill (rep 1 [.int .i8 0, .int .i8 0]) [(0, 2, agg (mvC (mv ms j)))] = some (mvC (mv ms j)) := fill_one rfl rfl
                  simp [b129_1, h15, h0, h1e, h11, h12, h9, h10, h13, h14, SlR.lenV hy, hf1, hp1, ha2, hr2c, hf2, hp2, wbOf, e2, -idxAV_slc, -Int.natCast_add]
                  refine ⟨by omega, by omega, by rw [kd _ (by omega) hlMc]; exact gMc, ?_, ?_⟩
                  · rw [hsu]
                    rw [cs_push] at g1''
                    simpa using g1''
                  · rw [hsu]
                    rw [mvsC_one] at g2'
                    simpa using g2'
            · rintro e h13 ⟨h0, h1e, h11, h12, h9, h10, hall⟩
              have hjv : mcJ b c n p = -1 := by rw [hJ]; exact findN_none hall
              rw [mcS, if_neg (by omega)] at hsu
              simp [b129_2, h13, h0, h1e, h11, h12, h9, h10, e2, -Int.natCast_add]
              exact ⟨by omega, by omega, gM, by rw [hsu]; exact hg1, by rw [hsu]; exact hg2⟩
structure Ly where
  f : List Int
  x : Int
  y : Int
  d : Int
instance : Inhabited Ly := ⟨⟨[], 0, 0, 0⟩⟩
structure LyW (s : Ly) : Prop where
  len : s.f.length = 24
  ok : ∀ n ∈ s.f, u16' n
  x : i8 s.x
  y : i8 s.y
  d : i8 s.d
def lyT (f : List Int) (a b c : Value) : List Value := cs .u16 f ++ [a, b, c]
def lyC (s : Ly) : List Value := lyT s.f (.int .i8 s.x) (.int .i8 s.y) (.int .i8 s.d)
def scC (l : List Ly) : List Value := rowsC lyC l
abbrev ScW (l : List Ly) : Prop := ∀ s ∈ l, LyW s
theorem lyT_len {f : List Int} {a b c : Value} (h : f.length = 24) : (lyT f a b c).length = 27 := by simp [lyT, h]
theorem lyC_len {s : Ly} (h : LyW s) : (lyC s).length = 27 := lyT_len h.len
theorem scC_elem {l : List Ly} (h : ScW l) {i : Nat} (hi : i < l.length) : elem (scC l) 27 i = lyC (at0 l i) := rows_elem (f := lyC) (esz := 27) (fun s hs => lyC_len (h s hs)) hi
theorem lyT_at {f : List Int} {a b c : Value} (h : f.length = 24) {k : Nat} : (lyT f a b c).drop (24 + k) = [a, b, c].drop k := by
  unfold lyT
  rw [show 24 + k = (cs .u16 f).length + k by simp [h], List.drop_length_add_append]
abbrev Sc (H : Heap) (x : Value) (l : List Ly) : Prop := SlR H x 27 l.length (scC l)
def inkL (s : Ly) : List Int := sub s.f 0 12
def mskL (s : Ly) : List Int := sub s.f 12 12
theorem LyW.ink {s : Ly} (h : LyW s) : FrW (inkL s) := ⟨sub_length (by rw [h.len]; omega), fun n hn => h.ok n (sub_mem hn)⟩
theorem LyW.msk {s : Ly} (h : LyW s) : FrW (mskL s) := ⟨sub_length (by rw [h.len]; omega), fun n hn => h.ok n (sub_mem hn)⟩
/- The spec's side, in memory. -/
theorem lyC_parts {s : Ly} (h : s.f.length = 24) : ((lyC s).drop 0).take 12 = cs .u16 (inkL s) ∧ ((lyC s).drop 12).take 12 = cs .u16 (mskL s) ∧ ((lyC s).drop 24).take 1 = [.int .i8 s.x] ∧ ((lyC s).drop 25).take 1 = [.int .i8 s.y] ∧ ((lyC s).drop 26).take 1 = [.int .i8 s.d] := by
  refine ⟨?_, ?_, ?_, ?_, ?_⟩
  · unfold lyC lyT inkL
    rw [List.drop_zero, List.take_append_of_le_length (by simp [h]), show (cs .u16 s.f).take 12 = ((cs .u16 s.f).drop 0).take 12 by simp, cs_sub]
  · unfold lyC lyT mskL
    rw [List.drop_append_of_le_length (by simp [h]), List.take_append_of_le_length (by simp [h]), cs_sub]
  · unfold lyC
    rw [show 24 = 24 + 0 from rfl, lyT_at h]; rfl
  · unfold lyC
    rw [show 25 = 24 + 1 from rfl, lyT_at h]; rfl
  · unfold lyC
    rw [show 26 = 24 + 2 from rfl, lyT_at h]; rfl
/-- A layer in memory. -/
structure LyR (H : Heap) (q off ver : Nat) (s : Ly) : Prop where
  ink : rd H q off ver 12 = some (cs .u16 (inkL s))
  msk : rd H q (off + 12) ver 12 = some (cs .u16 (mskL s))
  x : rd H q (off + 24) ver 1 = some [.int .i8 s.x]
  y : rd H q (off + 25) ver 1 = some [.int .i8 s.y]
  d : rd H q (off + 26) ver 1 = some [.int .i8 s.d]
theorem LyR.of {H : Heap} {q off ver : Nat} {s : Ly} (h : rd H q off ver 27 = some (lyC s)) (hf : s.f.length = 24) : LyR H q off ver s := by
  obtain ⟨h1, h2, h3, h4, h5⟩ := lyC_parts hf
  have g1 := rd_part h (o := 0) (m := 12) (by omega)
  rw [h1, Nat.add_zero] at g1
  exact ⟨g1, by rw [rd_part h (by omega), h2], by rw [rd_part h (by omega), h3], by rw [rd_part h (by omega), h4], by rw [rd_part h (by omega), h5]⟩
theorem LyR.pre {H G : Heap} {q off ver : Nat} {s : Ly} (p : Pre H G) (h : LyR H q off ver s) : LyR G q off ver s := ⟨p.rd h.ink, p.rd h.msk, p.rd h.x, p.rd h.y, p.rd h.d⟩
theorem Sc.get {H : Heap} {x : Value} {l : List Ly} (hs : Sc H x l) (hw : ScW l) {i : Nat} (hi : i < l.length) : ∃ q off ver, idxAV 27 x (.int .i64 (i : Int)) = some (adr q off ver) ∧ rd H q off ver 27 = some (lyC (at0 l i)) ∧ LyR H q off ver (at0 l i) := by
  obtain ⟨q, off, ver, h1, h2⟩ := SlR.get1 hs hi
  rw [scC_elem hw hi] at h2
  exact ⟨q, off, ver, h1, h2, LyR.of h2 (hw _ (at0_mem hi)).len⟩
theorem lessI_row {a b : Int} (ha : u16' a) (h1 : okRow a = true) : okRow (lessI a b) = true := by
  obtain ⟨n, rfl⟩ := Int.eq_ofNat_of_zero_le ha.1
  simp [okRow] at h1 ⊢
  have e0 : IntKind.bits .u16 = 16 := rfl
  unfold lessI bitsOf
  simp only []
  have e1 : (BitVec.ofInt (IntKind.bits .u16) (n : Int) &&& ~~~BitVec.ofInt (IntKind.bits .u16) b).toNat ≤ n := by
    rw [BitVec.toNat_and]
    refine Nat.le_trans Nat.and_le_left ?_
    rw [e0, BitVec.ofInt_natCast, BitVec.toNat_ofNat]
    exact Nat.mod_le _ _
  rw [wrapu16 (by omega)]; omega
theorem lessI_ok {a b : Int} : u16' (lessI a b) := by
  have e0 : IntKind.bits .u16 = 16 := rfl
  unfold lessI bitsOf
  simp only []
  have := (BitVec.ofInt (IntKind.bits .u16) a &&& ~~~BitVec.ofInt (IntKind.bits .u16) b).isLt
  rw [e0] at this ⊢
  rw [wrapu16 (by omega)]; omega
/- Keys. -/
abbrev Ky := Int × Int × Int
def kyC (k : Ky) : List Value := [.int .i16 k.1, .int .i8 k.2.1, .int .i8 k.2.2]
def kysC (l : List Ky) : List Value := rowsC kyC l
theorem kysC_length {l : List Ky} : (kysC l).length = l.length * 3 := rows_length (f := kyC) (esz := 3) fun _ _ => rfl
def kyF : List Value := [.int .i16 (-30101), .int .i8 (-101), .int .i8 (-101)]
/- Parts. -/
structure Pt where
  f : List Int
  e : Int
  ks : List Ky
  len : f.length = 12
instance : Inhabited Pt := ⟨⟨zr 12 0, 0, [], rfl⟩⟩
structure PtW (s : Pt) : Prop where
  ok : ∀ n ∈ s.f, u16' n
  e : i8 s.e
  ks : ∀ k ∈ s.ks, (-32768 ≤ k.1 ∧ k.1 ≤ 32767) ∧ i8 k.2.1 ∧ i8 k.2.2
def ptT (f : List Int) (a b : Value) : List Value := cs .u16 f ++ [a, b]
def ptC (s : Pt) (y : Value) : List Value := ptT s.f (.int .i8 s.e) y
theorem ptT_at {f : List Int} {a b : Value} (h : f.length = 12) {k : Nat} : (ptT f a b).drop (12 + k) = [a, b].drop k := by
  unfold ptT
  rw [show 12 + k = (cs .u16 f).length + k by simp [h], List.drop_length_add_append]
/-- Keys of a part in memory. -/
abbrev Kr (G : Heap) (y : Value) (s : Pt) : Prop := SlR G y 3 s.ks.length (kysC s.ks)
abbrev KrC (G : Heap) (y : Value) (s : Pt) : Prop := IsCp G y 3 s.ks.length (kysC s.ks) kyF
/-- Parts in memory. -/
def PtS (G : Heap) (x : Value) (l : List Pt) : Prop := ∃ vs, SlR G x 14 l.length vs ∧ ∀ i, i < l.length → ∃ y, elem vs 14 i = ptC (at0 l i) y ∧ Kr G y (at0 l i)
theorem PtS.pre {H G : Heap} {x : Value} {l : List Pt} (p : Pre H G) (h : PtS H x l) : PtS G x l := by
  obtain ⟨vs, h1, h2⟩ := h
  exact ⟨vs, h1.pre p, fun i hi => by obtain ⟨y, h3, h4⟩ := h2 i hi; exact ⟨y, h3, h4.pre p⟩⟩
theorem PtS.lenV {G : Heap} {x : Value} {l : List Pt} (h : PtS G x l) : lenV x = some (.int .i64 l.length) := by
  obtain ⟨vs, h1, _⟩ := h; exact h1.lenV
theorem PtS.get {G : Heap} {x : Value} {l : List Pt} (h : PtS G x l) {i : Nat} (hi : i < l.length) : ∃ q off ver y, idxAV 14 x (.int .i64 (i : Int)) = some (adr q off ver) ∧ rd G q off ver 14 = some (ptC (at0 l i) y) ∧ Kr G y (at0 l i) := by
  obtain ⟨vs, h1, h2⟩ := h
  obtain ⟨q, off, ver, h3, h4⟩ := h1.get1 hi
  obtain ⟨y, h5, h6⟩ := h2 i hi
  rw [h5] at h4
  exact ⟨q, off, ver, y, h3, h4, h6⟩
/-- A copy of a part: what stands in the block, whatever stands in that block itself. -/
structure CqI (H G : Heap) (b : Nat) (flag : Bool) (s : Pt) (y : Value) : Prop where
  r : ∀ k, Kr (G.set b k) y s
  n : y = .slice none 0 0 ∨ old0 H.length y = false
  c : flag = false → (∀ k, KrC (G.set b k) y s) ∧ old0 H.length y = false
theorem CqI.set {H G : Heap} {b : Nat} {flag : Bool} {s : Pt} {y : Value} {k : Blk} (h : CqI H G b flag s y) : CqI H (G.set b k) b flag s y := ⟨fun k' => by rw [set_set]; exact h.r k', h.n, fun hf => ⟨fun k' => by rw [set_set]; exact (h.c hf).1 k', (h.c hf).2⟩⟩
theorem CqI.pre {H G G' : Heap} {b : Nat} {flag : Bool} {s : Pt} {y : Value} (h : CqI H G b flag s y) (p : Pre G G') (hb : b < G.length) : CqI H G' b flag s y :=
  ⟨fun k => (h.r k).pre (set_pre p hb), h.n, fun hf => ⟨fun k => ((h.c hf).1 k).pre (set_pre p hb), (h.c hf).2⟩⟩
def ptF : Pt := ⟨bkF, -101, [(-30101, -101, -101)], rfl⟩
/-- Steps copied, with room behind. -/
def CqS (G : Heap) (x : Value) (l : List Pt) : Prop := ∃ b ver vs, x = slc b 0 ver l.length (l.length + roomN l.length) ∧ G[b]? = some ⟨vs, 14, ver, false⟩ ∧ vs.length = (l.length + roomN l.length) * 14 ∧
  (∀ i, i < l.length → ∃ y, elem vs 14 i = ptC (at0 l i) y ∧ KrC G y (at0 l i)) ∧ ∀ i, l.length ≤ i → i < l.length + roomN l.length → ∃ y, elem vs 14 i = ptC ptF y ∧ Kr G y ptF
theorem CqS.sl {G : Heap} {x : Value} {l : List Pt} (h : CqS G x l) : PtS G x l := by
  obtain ⟨b, ver, vs, rfl, hg, hl, h1, h2⟩ := h
  have e1 : l.length * 14 ≤ vs.length := by omega
  refine ⟨vs.take (l.length * 14), ⟨by simp; omega, .inr ⟨b, 0, ver, _, rfl, by omega, by rw [rd_at hg rfl (by simp; omega)]; simp, _, hg, rfl, rfl⟩⟩, fun i hi => ?_⟩
  obtain ⟨y, h3, h4⟩ := h1 i hi
  exact ⟨y, by rw [elem_take hi, h3], h4.sl kysC_length rfl⟩
theorem CqS.pre {H G : Heap} {x : Value} {l : List Pt} (p : Pre H G) (h : CqS H x l) : CqS G x l := by
  obtain ⟨b, ver, vs, rfl, hg, hl, h1, h2⟩ := h
  refine ⟨b, ver, vs, rfl, by rw [p.get (List.getElem?_eq_some_iff.1 hg).1]; exact hg, hl, fun i hi => ?_, fun i hi hi2 => ?_⟩
  · obtain ⟨y, h3, h4⟩ := h1 i hi; exact ⟨y, h3, h4.pre p⟩
  · obtain ⟨y, h3, h4⟩ := h2 i hi hi2; exact ⟨y, h3, h4.pre p⟩
def ky (ks : List Ky) (i : Nat) : Ky := at0 ks i
def kyB (ks : List Ky) (j : Nat) : Bool := ((in1 (ky ks j).1 0 200 && in1 (ky ks j).2.1 (-24) 24) && in1 (ky ks j).2.2 (-24) 24) && (decide (j = 0) || decide ((ky ks (j - 1)).1 < (ky ks j).1))
def okTk (ks : List Ky) : Bool := allN (kyB ks) ks.length && in1 ks.length 1 20
def okPt (s : Pt) : Bool := (okF s.f && okTk s.ks) && in1 s.e 0 3
abbrev KyW (ks : List Ky) : Prop := ∀ k ∈ ks, (-32768 ≤ k.1 ∧ k.1 ≤ 32767) ∧ i8 k.2.1 ∧ i8 k.2.2
/-- A part in memory. -/
structure PtR (H : Heap) (q off ver : Nat) (s : Pt) (y : Value) : Prop where
  rf : rd H q off ver 12 = some (cs .u16 s.f)
  re : rd H q (off + 12) ver 1 = some [.int .i8 s.e]
  ry : rd H q (off + 13) ver 1 = some [y]
  rk : Kr H y s
theorem PtR.of {H : Heap} {q off ver : Nat} {s : Pt} {y : Value} (h : rd H q off ver 14 = some (ptC s y)) (hk : Kr H y s) : PtR H q off ver s y := by
  have hl := s.len
  have g1 := rd_part h (o := 0) (m := 12) (by omega)
  have g2 := rd_part h (o := 12) (m := 1) (by omega)
  have g3 := rd_part h (o := 13) (m := 1) (by omega)
  unfold ptC at g1 g2 g3
  rw [show 12 = 12 + 0 from rfl, ptT_at hl] at g2
  rw [show 13 = 12 + 1 from rfl, ptT_at hl] at g3
  rw [Nat.add_zero, List.drop_zero] at g1
  unfold ptT at g1
  rw [List.take_left' (by simp [hl])] at g1
  exact ⟨g1, g2, g3, hk⟩
theorem PtR.pre {H G : Heap} {q off ver : Nat} {s : Pt} {y : Value} (p : Pre H G) (h : PtR H q off ver s y) : PtR G q off ver s y := ⟨p.rd h.rf, p.rd h.re, p.rd h.ry, SlR.pre p h.rk⟩
structure TkV (ks : List Ky) : Prop where
  n1 : 1 ≤ ks.length
  n20 : ks.length ≤ 20
  r : ∀ i, i < ks.length → (0 ≤ (ky ks i).1 ∧ (ky ks i).1 ≤ 200) ∧ (-24 ≤ (ky ks i).2.1 ∧ (ky ks i).2.1 ≤ 24) ∧ -24 ≤ (ky ks i).2.2 ∧ (ky ks i).2.2 ≤ 24
  s : ∀ i, i + 1 < ks.length → (ky ks i).1 < (ky ks (i + 1)).1
theorem okTk_V {ks : List Ky} (h : okTk ks = true) : TkV ks := by
  simp only [okTk, Bool.and_eq_true] at h
  obtain ⟨h1, h2⟩ := h
  have hl : 1 ≤ ks.length ∧ ks.length ≤ 20 := by simp [in1] at h2; omega
  refine ⟨hl.1, hl.2, fun i hi => ?_, fun i hi => ?_⟩
  · have := allN_get (p := kyB ks) h1 hi
    simp only [kyB, Bool.and_eq_true, in1, decide_eq_true_eq] at this
    exact ⟨this.1.1.1, this.1.1.2, this.1.2⟩
  · have := allN_get (p := kyB ks) h1 hi
    simp only [kyB, Bool.and_eq_true, in1, decide_eq_true_eq, Bool.or_eq_true] at this
    rcases this.2 with h | h
    · omega
    · exact h
theorem PtW.fr {s : Pt} (h : PtW s) : FrW s.f := ⟨s.len, h.ok⟩
theorem bkC_push {l : List (List Int)} {f : List Int} : bkC l ++ cs .u16 f = bkC (l ++ [f]) := by rw [bkC, bkC, rowsC_app]; simp [rowsC, frC]
/-- A source: a block of three cells; its bytes are elder. At most k bytes were taken. -/
def srB (x : Value) (i sd : Int) : Blk := ⟨[x, .int .i64 i, .int .u64 sd], 1, 0, false⟩
def Src (G : Heap) (P k : Nat) : Prop := ∃ x bs i sd, G[P]? = some (srB x i sd) ∧ SlR (G.take P) x 1 bs.length (cs .u8 bs) ∧ (∀ b ∈ bs, 0 ≤ b ∧ b ≤ 255) ∧ bs.length ≤ 1000000 ∧ 0 ≤ i ∧ i ≤ k
theorem pre_take {G G' : Heap} {n : Nat} (p : Pre G G') (hn : n ≤ G.length) : G'.take n = G.take n := by
  obtain ⟨L, rfl⟩ := p
  rw [List.take_append_of_le_length hn]
theorem Pre.takes {G : Heap} {n : Nat} : Pre (G.take n) G := ⟨G.drop n, (List.take_append_drop n G).symm⟩
theorem Src.lt {G : Heap} {P k : Nat} (h : Src G P k) : P < G.length := by
  obtain ⟨x, bs, i, sd, h1, _⟩ := h
  exact (List.getElem?_eq_some_iff.1 h1).1
theorem Src.le {G : Heap} {P k k' : Nat} (h : Src G P k) (hk : k ≤ k') : Src G P k' := by
  obtain ⟨x, bs, i, sd, h1, h2, h3, h4, h5, h6⟩ := h
  exact ⟨x, bs, i, sd, h1, h2, h3, h4, h5, by omega⟩
theorem Src.pre {G G' : Heap} {P k : Nat} (p : Pre G G') (h : Src G P k) : Src G' P k := by
  have hl := h.lt
  obtain ⟨x, bs, i, sd, h1, h2, h3⟩ := h
  exact ⟨x, bs, i, sd, by rw [p.get hl]; exact h1, by rw [pre_take p (Nat.le_of_lt hl)]; exact h2, h3⟩
/-- Nothing but the source's block has changed. -/
structure Mv (P : Nat) (G G' : Heap) : Prop where
  len : G'.length = G.length
  get : ∀ j, j ≠ P → G'[j]? = G[j]?
theorem Mv.refl {P : Nat} {G : Heap} : Mv P G G := ⟨rfl, fun _ _ => rfl⟩
theorem Mv.trans {P : Nat} {G G' G'' : Heap} (h : Mv P G G') (h' : Mv P G' G'') : Mv P G G'' := ⟨h'.len.trans h.len, fun j hj => (h'.get j hj).trans (h.get j hj)⟩
theorem Mv.set {P : Nat} {G : Heap} {k : Blk} : Mv P G (G.set P k) := ⟨by simp, fun j hj => List.getElem?_set_ne (Ne.symm hj)⟩
theorem Mv.take {P : Nat} {G G' : Heap} (h : Mv P G G') {n0 : Nat} (hn : n0 ≤ P) : G'.take n0 = G.take n0 := by
  apply List.ext_getElem?
  intro i
  rw [List.getElem?_take, List.getElem?_take]
  split
  · rw [h.get i (by omega)]
  · rfl
theorem Mv.rd {P : Nat} {G G' : Heap} (h : Mv P G G') {b off ver n : Nat} (hb : b ≠ P) : rd G' b off ver n = rd G b off ver n := by
  unfold Fb.rd
  rw [h.get b hb]
theorem Src.mv {P k : Nat} {G G' : Heap} (h : Src G P k) (hP : G'[P]? = G[P]?) (hj : ∀ j, j < P → G'[j]? = G[j]?) : Src G' P k := by
  obtain ⟨x, bs, i, sd, h1, h2, h3⟩ := h
  refine ⟨x, bs, i, sd, by rw [hP]; exact h1, ?_, h3⟩
  have : G'.take P = G.take P := by
    apply List.ext_getElem?
    intro j
    rw [List.getElem?_take, List.getElem?_take]
    split
    · exact hj j ‹_›
    · rfl
  rw [this]; exact h2
theorem Src.take {P k n : Nat} {G : Heap} (h : Src G P k) (hn : P < n) : Src (G.take n) P k :=
  h.mv (by rw [List.getElem?_take, if_pos hn]) fun j hj => by rw [List.getElem?_take, if_pos (by omega)]
theorem nthI_ok {bs : List Int} (h : ∀ b ∈ bs, 0 ≤ b ∧ b ≤ 255) {i : Nat} (hi : i < bs.length) : 0 ≤ nth bs i ∧ nth bs i ≤ 255 := h _ (nth_mem hi)
theorem and255 {x : Int} : 0 ≤ bitsOf .and .u64 x 255 ∧ bitsOf .and .u64 x 255 ≤ 255 := by
  have e0 : IntKind.bits .u64 = 64 := rfl
  unfold bitsOf
  simp only []
  have : (BitVec.ofInt (IntKind.bits .u64) x &&& BitVec.ofInt (IntKind.bits .u64) 255).toNat ≤ 255 := by
    rw [BitVec.toNat_and]
    exact Nat.and_le_right
  rw [wrapu64 (by omega)]; omega
theorem call550 {G : Heap} {P k : Nat} (h : Src G P k) (hk : k ≤ 1000000000000) : ∃ v G', Call tab false 550 [adr P 0 0] G = some (.int .i64 v, G') ∧ 0 ≤ v ∧ v ≤ 255 ∧ Mv P G G' ∧ Src G' P (k + 1) := by
  have key : ∃ r, Call tab false 550 [adr P 0 0] G = some r ∧ ∃ v G', r = (.int .i64 v, G') ∧ 0 ≤ v ∧ v ≤ 255 ∧ Mv P G G' ∧ Src G' P (k + 1) := by
    have hl := h.lt
    obtain ⟨x, bs, i, sd, h1, h2, h3, h4, h5, h6⟩ := h
    have hx : SlR G x 1 bs.length (cs .u8 bs) := h2.pre Pre.takes
    refine Call_ex t550 (.inl rfl) rfl ?_
    have r0 : ∀ i sd, rd (G.set P (srB x i sd)) P 0 0 1 = some [x] := fun i sd => rd_at (ver := 0) (get_set (k' := srB x i sd) h1) rfl (by simp [srB])
    have r1 : ∀ i sd, rd (G.set P (srB x i sd)) P 1 0 1 = some [.int .i64 i] := fun i sd => rd_at (ver := 0) (get_set (k' := srB x i sd) h1) rfl (by simp [srB])
    have r2 : ∀ i sd, rd (G.set P (srB x i sd)) P 2 0 1 = some [.int .u64 sd] := fun i sd => rd_at (ver := 0) (get_set (k' := srB x i sd) h1) rfl (by simp [srB])
    have w1 : ∀ i sd i', wr G.length true (G.set P (srB x i sd)) P 1 0 [.int .i64 i'] = some (G.set P (srB x i' sd)) := fun i sd i' => by
      have := wr_at (n0 := G.length) (wb := true) (off := 1) (vs := [.int .i64 i']) (ver := 0) (get_set (k' := srB x i sd) h1) rfl rfl (by simp [may]) (by simp [srB])
      rw [set_set] at this; exact this
    have w2 : ∀ i sd sd', wr G.length true (G.set P (srB x i sd)) P 2 0 [.int .u64 sd'] = some (G.set P (srB x i sd')) := fun i sd sd' => by
      have := wr_at (n0 := G.length) (wb := true) (off := 2) (vs := [.int .u64 sd']) (ver := 0) (get_set (k' := srB x i sd) h1) rfl rfl (by simp [may]) (by simp [srB])
      rw [set_set] at this; exact this
    have e9 : IntKind.wrap .i64 (i + 1) = i + 1 := wrap64 (by omega)
    have r0' := r0 i sd; have r1' := r1 i sd; have w1' := w1 i sd
    rw [set_self h1] at r0' r1' w1'
    have hS : ∀ sd', Src (G.set P (srB x (i + 1) sd')) P (k + 1) := fun sd' => ⟨x, bs, i + 1, sd', get_set h1, by rw [Mv.set.take (Nat.le_refl P)]; exact h2, h3, h4, by omega, by omega⟩
    obtain ⟨m, rfl⟩ := Int.eq_ofNat_of_zero_le h5
    by_cases hlt : m < bs.length
    · obtain ⟨q, off, ver, ha, hr⟩ := hx.get1 hlt
      rw [elem_i hlt] at hr
      have hb := nthI_ok h3 hlt
      have u1 : IntKind.wrap .i64 (nth bs m) = nth bs m := wrap64 (by omega)
      have hle : (m : Int) + 1 ≤ bs.length := by omega
      simp [c550, k550, r0', r1', hx.lenV, hlt, ha, hr, w1', e9, r0, r1, r2, w2, u1, hle, wbOf]
      exact ⟨_, _, ⟨rfl, rfl⟩, hb.1, hb.2, .set, hS _⟩
    · have hle : ¬ (m : Int) + 1 ≤ bs.length := by omega
      have hlt' : ¬ (m : Int) < bs.length := by omega
      have u2 : ∀ y, IntKind.wrap .i64 (bitsOf .and .u64 y 255) = bitsOf .and .u64 y 255 := fun y => wrap64 (by have := and255 (x := y); omega)
      have u3 : ∀ y, shiftOf .shr .u64 y 40 = some (.int .u64 (y.fdiv (2 ^ 40))) := fun y => rfl
      simp [c550, k550, r0', r1', hx.lenV, hlt, hlt', w1', e9, r0, r1, r2, w2, hle, wbOf, u2, u3]
      exact ⟨_, _, ⟨rfl, rfl⟩, and255.1, and255.2, .set, hS _⟩
  obtain ⟨r, hc, v, G', rfl, h⟩ := key
  exact ⟨v, G', hc, h⟩
theorem call459 {G : Heap} {P k : Nat} {n : Int} (h : Src G P k) (hk : k ≤ 100000000000) (hn : 1 ≤ n ∧ n ≤ 1000000) : ∃ v G', Call tab false 459 [adr P 0 0, .int .i64 n] G = some (.int .i64 v, G') ∧ (0 ≤ v ∧ v < n) ∧ Mv P G G' ∧ Src G' P (k + 2) := by
  have key : ∃ r, Call tab false 459 [adr P 0 0, .int .i64 n] G = some r ∧ ∃ v G', r = (.int .i64 v, G') ∧ (0 ≤ v ∧ v < n) ∧ Mv P G G' ∧ Src G' P (k + 2) := by
    refine Call_ex t459 (.inl rfl) rfl ?_
    by_cases h1 : n ≤ 1
    · simp [c459, k459, h1]
      exact ⟨_, _, ⟨rfl, rfl⟩, ⟨by omega, by omega⟩, .refl, h.le (by omega)⟩
    have hn0 : n ≠ 0 := by omega
    obtain ⟨v, G1, c1, v0, v1, m1, s1⟩ := call550 h (by omega)
    have hmod : ∀ a : Int, 0 ≤ a → a.tmod n = a % n ∧ 0 ≤ a % n ∧ a % n < n := fun a ha => ⟨Int.tmod_eq_emod_of_nonneg ha, Int.emod_nonneg _ hn0, Int.emod_lt_of_pos _ (by omega)⟩
    by_cases h2 : n > 200
    · obtain ⟨w, G2, c2, w0, w1, m2, s2⟩ := call550 s1 (by omega)
      have e1 : IntKind.wrap .i64 (v * 256) = v * 256 := wrap64 (by omega)
      have e2 : IntKind.wrap .i64 (v * 256 + w) = v * 256 + w := wrap64 (by omega)
      obtain ⟨g1, g2, g3⟩ := hmod (v * 256 + w) (by omega)
      have e3 : IntKind.wrap .i64 ((v * 256 + w) % n) = (v * 256 + w) % n := wrap64 (by omega)
      have m := m1.trans m2
      simp [c459, k459, h1, h2, c1, c2, wbOf, e1, e2, hn0, g1, e3]
      exact ⟨_, _, ⟨rfl, rfl⟩, ⟨g2, g3⟩, by rw [List.take_of_length_le (by rw [m.len]; exact Nat.le_refl _)]; exact ⟨m, s2⟩⟩
    · obtain ⟨g1, g2, g3⟩ := hmod v v0
      have e3 : IntKind.wrap .i64 (v % n) = v % n := wrap64 (by omega)
      have h2' : ¬ 200 < n := h2
      simp [c459, k459, h1, h2', c1, wbOf, hn0, g1, e3]
      exact ⟨_, _, ⟨rfl, rfl⟩, ⟨g2, g3⟩, by rw [List.take_of_length_le (by rw [m1.len]; exact Nat.le_refl _)]; exact ⟨m1, s1.le (by omega)⟩⟩
  obtain ⟨r, hc, v, G', rfl, h⟩ := key
  exact ⟨v, G', hc, h⟩
theorem call513 {G : Heap} {P k : Nat} {n : Int} (h : Src G P k) (hk : k ≤ 100000000000) (hn : 1 ≤ n ∧ n ≤ 1000000) : ∃ b G', Call tab false 513 [adr P 0 0, .int .i64 n] G = some (.bool b, G') ∧ Mv P G G' ∧ Src G' P (k + 2) := by
  obtain ⟨v, G', c, _, m, s⟩ := call459 h hk hn
  refine ⟨v == 0, G', Call_wp t513 (.inl rfl) rfl ?_, m, s⟩
  simp [c513, k513, c, wbOf]
  exact List.take_of_length_le (by rw [m.len]; exact Nat.le_refl _)
theorem SlR.old {H : Heap} {x : Value} {esz n : Nat} {vs : List Value} (h : SlR H x esz n vs) : old0 H.length x = true := by
  rcases h.is with ⟨rfl, _⟩ | ⟨b, off, ver, cap, rfl, _, _, k, hk, _⟩
  · rfl
  · rw [old0_slc]
    simpa using (List.getElem?_eq_some_iff.1 hk).1
theorem finish_adr {H G : Heap} {b ver : Nat} {k : Blk} (hp : Pre H G) (hb : H.length ≤ b) (hk : G[b]? = some k) (hv : ver = k.ver) (hr : k.ro = false) (ho : k.cells.all (old0 H.length) = true) :
    finish H.length G [adr b 0 ver] = (adr H.length 0 0, H ++ [{ k with ver := 0 }]) := by
  have h1 : old1 H.length (adr b 0 ver) = false := by
    show (decide (b < H.length)) = false
    simpa using hb
  have : pack H.length G [adr b 0 ver] [] [] = some ([adr H.length 0 0], [{ k with ver := 0 }]) := by
    rw [pack, if_neg (by rw [h1]; decide)]
    show (match G[b]? with
      | some k => if ([] : List Nat).contains b = false ∧ ver = k.ver ∧ k.ro = false ∧ k.cells.all (old0 H.length) = true then _ else none
      | none => none) = _
    rw [hk]
    simp only []
    rw [if_pos ⟨by simp, hv, hr, ho⟩]
    rfl
  rw [finish_some this, hp.take]; rfl
/-- A source anew. -/
theorem call315 {pu : Bool} {H : Heap} {x : Value} {bs : List Int} (hx : SlR H x 1 bs.length (cs .u8 bs)) (hb : ∀ b ∈ bs, 0 ≤ b ∧ b ≤ 255) (hn : bs.length ≤ 1000000) :
    Call tab pu 315 [x] H = some (adr H.length 0 0, H ++ [srB x 0 0]) ∧ Src (H ++ [srB x 0 0]) H.length 0 := by
  constructor
  · refine Call_wp t315 (.inr rfl) rfl ?_
    have hc : cellsOf x = [x] := by
      rcases hx.is with ⟨rfl, _⟩ | ⟨b, off, ver, cap, rfl, _⟩ <;> rfl
    have hf : fill [.slice none 0 0, .int .i64 0, .int .u64 0] [(0, 1, x)] = some [x, .int .i64 0, .int .u64 0] := by
      show (if (cellsOf x).length = 1 ∧ 0 + 1 ≤ 3 then fill (splice [.slice none 0 0, .int .i64 0, .int .u64 0] 0 (cellsOf x)) [] else none) = _
      rw [hc]; rfl
    have hfin := finish_adr (H := H) (G := H ++ [srB x 0 0]) (b := H.length) (ver := 0) Pre.one (Nat.le_refl _) get_last rfl rfl (by simp [srB, hx.old])
    have e1 : ({ srB x 0 0 with ver := 0 } : Blk) = srB x 0 0 := rfl
    rw [e1] at hfin
    simp only [srB] at hfin ⊢
    simp [c315, k315, hf, hfin]
  · refine ⟨x, bs, 0, 0, get_last, ?_, hb, hn, by omega, by omega⟩
    rw [List.take_left' rfl]
    exact hx
theorem fl_step {T : Tab} {n0 : Nat} {wb : Bool} {e : Env} {H H' : Heap} {Q : Ex → Env → Heap → Prop} {fs : List Fr} {d : Option Nat} {o : Op1} {r : List Stm} {e0 : Env} {outs : List Nat} {fl : List Opd} {v : Value}
    (h : apart e ⟨none, d, o, fl⟩ = true) (hv : ev1 (Call T) n0 wb e H o = some (v, H')) (hs : stays e H H' ⟨none, d, o, fl⟩ = true) :
    OK' T n0 wb (⟨none, d, o, fl⟩ :: r) e H e0 outs fs Q ↔ OK' T n0 wb r (put e d v) H' e0 outs fs Q := by
  unfold OK' OPS
  simp only [ops, wanted, h, hv, hs, if_true]
theorem orI_ok {a b : Int} : u16' (orI a b) := by
  have e0 : IntKind.bits .u16 = 16 := rfl
  unfold orI bitsOf
  simp only []
  have : (BitVec.ofInt (IntKind.bits .u16) a ||| BitVec.ofInt (IntKind.bits .u16) b).toNat < 2 ^ 16 := by rw [e0]; exact BitVec.isLt _
  rw [wrapu16 (by omega)]; omega
theorem orI_row {a b : Int} (ha : u16' a) (hb : u16' b) (h1 : okRow a = true) (h2 : okRow b = true) : okRow (orI a b) = true := by
  obtain ⟨n, rfl⟩ := Int.eq_ofNat_of_zero_le ha.1
  obtain ⟨m, rfl⟩ := Int.eq_ofNat_of_zero_le hb.1
  simp [okRow] at h1 h2 ⊢
  have e0 : IntKind.bits .u16 = 16 := rfl
  unfold orI bitsOf
  simp only []
  have e1 : (BitVec.ofInt (IntKind.bits .u16) (n : Int) ||| BitVec.ofInt (IntKind.bits .u16) (m : Int)).toNat = n ||| m := by
    rw [BitVec.toNat_or, e0, BitVec.ofInt_natCast, BitVec.ofInt_natCast, BitVec.toNat_ofNat, BitVec.toNat_ofNat, Nat.mod_eq_of_lt (show n < 2 ^ 16 by omega), Nat.mod_eq_of_lt (show m < 2 ^ 16 by omega)]
  have e2 : n ||| m < 2 ^ 12 := Nat.or_lt_two_pow (show n < 2 ^ 12 by omega) (show m < 2 ^ 12 by omega)
  rw [e1, wrapu16 (by omega)]; omega
/-- A valid frame. -/
structure VF (f : List Int) : Prop where
  W : FrW f
  ok : okF f = true
theorem VF.row {f : List Int} (h : VF f) {i : Nat} (hi : i < 12) : u16' (nth f i) ∧ okRow (nth f i) = true := ⟨h.W.nth hi, List.all_eq_true.1 (show f.all okRow = true from h.ok) _ (nth_mem (by rw [h.W.len]; exact hi))⟩
theorem VF.set {f : List Int} {i : Nat} {r : Int} (h : VF f) (hr : u16' r) (ho : okRow r = true) : VF (f.set i r) :=
  ⟨⟨by simp [h.W.len], fun n hn => (List.mem_or_eq_of_mem_set hn).elim (h.W.ok n) (fun e => by rw [e]; exact hr)⟩,
    List.all_eq_true.2 fun n hn => (List.mem_or_eq_of_mem_set hn).elim (fun h1 => List.all_eq_true.1 (show f.all okRow = true from h.ok) n h1) (fun e => by rw [e]; exact ho)⟩
theorem VF.zero : VF (zr 12 0) := ⟨⟨by simp, fun n hn => by simp [zr] at hn; subst hn; exact ⟨by omega, by omega⟩⟩, by decide⟩
theorem VF.put {f : List Int} {x y : Nat} (h : VF f) (hx : x < 12) (hy : y < 12) : VF (putF f x y) := by
  have hb := bit_ok hx
  obtain ⟨h1, h2⟩ := h.row hy
  exact h.set (orI_ok (a := nth f y) (b := bit x)) (orI_row h1 ⟨by omega, by omega⟩ h2 (by simp [okRow]; omega))
/-- In a function that draws: the source and a frame of its own. -/
structure Loc (G G' : Heap) (P k : Nat) (f : List Int) : Prop where
  src : Src G' P k
  fr : G'[G.length]? = some ⟨cs .u16 f, 1, 0, false⟩
  V : VF f
  len : G'.length = G.length + 1
  get : ∀ j, j < G.length → j ≠ P → G'[j]? = G[j]?
  lt : P < G.length
theorem Loc.mv {G G' G'' : Heap} {P k k' : Nat} {f : List Int} (h : Loc G G' P k f) (m : Mv P G' G'') (s : Src G'' P k') : Loc G G'' P k' f := by
  have := h.lt
  exact ⟨s, by rw [m.get _ (by omega)]; exact h.fr, h.V, by rw [m.len]; exact h.len, fun j hj hp => by rw [m.get j hp]; exact h.get j hj hp, h.lt⟩
theorem Loc.le {G G' : Heap} {P k k' : Nat} {f : List Int} (h : Loc G G' P k f) (hk : k ≤ k') : Loc G G' P k' f := ⟨h.src.le hk, h.fr, h.V, h.len, h.get, h.lt⟩
theorem Loc.set {G G' : Heap} {P k : Nat} {f g : List Int} (h : Loc G G' P k f) (hg : VF g) : Loc G (G'.set G.length ⟨cs .u16 g, 1, 0, false⟩) P k g := by
  have := h.lt
  exact ⟨h.src.mv (List.getElem?_set_ne (by omega)) fun j hj => List.getElem?_set_ne (by omega), get_set h.fr, hg, by simp [h.len], fun j hj hp => by rw [List.getElem?_set_ne (by omega)]; exact h.get j hj hp, h.lt⟩
theorem Loc.pick {G G' : Heap} {P k : Nat} {f : List Int} {n : Int} (h : Loc G G' P k f) (hk : k ≤ 100000000000) (hn : 1 ≤ n ∧ n ≤ 1000000) : ∃ v G'', Call tab false 459 [adr P 0 0, .int .i64 n] G' = some (.int .i64 v, G'') ∧ (0 ≤ v ∧ v < n) ∧ Loc G G'' P (k + 2) f ∧ G''[G.length]? = G'[G.length]? := by
  obtain ⟨v, G'', c, hv, m, s⟩ := call459 h.src hk hn
  exact ⟨v, G'', c, hv, h.mv m s, m.get _ (by have := h.lt; omega)⟩
theorem Loc.done {G G' : Heap} {P k : Nat} {f : List Int} (h : Loc G G' P k f) : Mv P G (G'.take G.length) ∧ Src (G'.take G.length) P k :=
  ⟨⟨by simp [h.len], fun j hj => by
    rw [List.getElem?_take]
    split
    · exact h.get j ‹_› hj
    · exact (List.getElem?_eq_none (by omega)).symm⟩, h.src.take h.lt⟩
def XY (u v : Value) : Prop := ∃ x y : Nat, x < 12 ∧ y < 12 ∧ u = .int .i64 x ∧ v = .int .i64 y
theorem XY.mk {x y : Int} (hx : 0 ≤ x ∧ x < 12) (hy : 0 ≤ y ∧ y < 12) : XY (.int .i64 x) (.int .i64 y) := by
  obtain ⟨a, rfl⟩ := Int.eq_ofNat_of_zero_le hx.1
  obtain ⟨b, rfl⟩ := Int.eq_ofNat_of_zero_le hy.1
  exact ⟨a, b, by omega, by omega, rfl, rfl⟩
theorem call368 {G : Heap} {P k : Nat} (h : Src G P k) (hk : k ≤ 10000000000) : ∃ f G', Call tab false 368 [adr P 0 0] G = some (iv .u16 f, G') ∧ VF f ∧ Mv P G G' ∧ Src G' P (k + 200) := by
  have key : ∃ r, Call tab false 368 [adr P 0 0] G = some r ∧ ∃ f G', r = (iv .u16 f, G') ∧ VF f ∧ Mv P G G' ∧ Src G' P (k + 200) := by
    refine Call_ex t368 (.inl rfl) rfl ?_
    have hl := h.lt
    obtain ⟨G1, hG1⟩ : ∃ G1, G1 = G ++ [(⟨cs .u16 (zr 12 0), 1, 0, false⟩ : Blk)] := ⟨_, rfl⟩
    have hwr : wr G.length true G1 G.length 0 0 (cs .u16 (zr 12 0)) = some G1 := by
      rw [hG1, wr_last (b := ⟨cs .u16 (zr 12 0), 1, 0, false⟩) rfl rfl (Nat.le_refl _) (by simp)]
    have L1 : Loc G G1 P k (zr 12 0) := by
      have p : Pre G G1 := by rw [hG1]; exact Pre.one
      exact ⟨h.pre p, by rw [hG1]; exact get_last, .zero, by rw [hG1]; simp, fun j hj _ => p.get hj, hl⟩
    obtain ⟨x, G2, c2, hx, L2, _⟩ := L1.pick (n := 12) (by omega) (by omega)
    obtain ⟨y, G3, c3, hy, L3, _⟩ := L2.pick (n := 12) (by omega) (by omega)
    obtain ⟨N, G4, c4, hN, L4, _⟩ := L3.pick (n := 14) (by omega) (by omega)
    obtain ⟨N, rfl⟩ := Int.eq_ofNat_of_zero_le hN.1
    obtain ⟨x, rfl⟩ := Int.eq_ofNat_of_zero_le hx.1
    obtain ⟨y, rfl⟩ := Int.eq_ofNat_of_zero_le hy.1
    simp [c368, k368, fill, zs_cs, agg_cs, ← hG1, hwr, wbOf, c2, c3, c4]
    refine WK_loop (fun i e G' => e 0 = adr P 0 0 ∧ e 2 = iv .u16 (zr 12 0) ∧ e 3 = adr G.length 0 0 ∧ XY (e 4) (e 5) ∧ e 6 = .int .i64 ((N - i : Nat) : Int) ∧ ∃ f, Loc G G' P (k + 6 + i * 8) f) N ?_ (Nat.zero_le _)
      ⟨by simp, by simp, by simp, by simp; exact .mk hx hy, by simp, _, by rw [Nat.zero_mul]; exact L4⟩
    rintro i e G' _ hi ⟨h0, h2, h3, ⟨x, y, hx, hy, h4, h5⟩, h6, f, L⟩
    by_cases hiN : i = N
    · subst hiN
      rw [Nat.sub_self] at h6
      obtain ⟨b, G5, c5, m5, s5⟩ := call513 (n := 8) L.src (by omega) (by omega)
      have L5 := L.mv m5 s5
      have fin : ∀ {G6 : Heap} {g : List Int} {k' : Nat}, Loc G G6 P k' g → k' ≤ k + 200 → ∃ r, some (iv .u16 g, G6.take G.length) = some r ∧ ∃ f G', r = (iv .u16 f, G') ∧ VF f ∧ Mv P G G' ∧ Src G' P (k + 200) := fun L6 hk' =>
        ⟨_, rfl, _, _, rfl, L6.V, L6.done.1, L6.done.2.le hk'⟩
      cases b with
      | false =>
        have hr := rd_at (off := 0) (n := 12) (ver := 0) L5.fr rfl (by simp [L5.V.W.len])
        simp [take_all, L5.V.W.len] at hr
        have s3 := stc_zr (k := .u16) (n := 12) (l := f) L5.V.W.len
        simp [b368_1, h0, h2, h3, h6, c5, wbOf, hr, s3, agg_cs, L5.V.W.len]
        exact ⟨_, _, ⟨rfl, rfl⟩, _, _, ⟨rfl, rfl⟩, L5.V, L5.done.1, L5.done.2.le (by omega)⟩
      | true =>
        simp [b368_1, h0, h2, h3, h6, c5, wbOf]
        refine WP_count 7 12 12 rfl (fun j e G' => e 0 = adr P 0 0 ∧ e 2 = iv .u16 (zr 12 0) ∧ e 3 = adr G.length 0 0 ∧ ∃ f, Loc G G' P (k + 6 + i * 8 + 2 + j * 2) f) (by omega) ?_ ?_ (by simp) ⟨by simp [h0], by simp [h2], by simp [h3], _, L5⟩
        · rintro j e G' _ hj hjj e4 h7 ⟨h0, h2, h3, g, L⟩
          obtain ⟨v, G6, c6, hv, L6, hget⟩ := L.pick (n := 4096) (by omega) (by omega)
          have hr := rd_at (off := 0) (n := 12) (ver := 0) L.fr rfl (by simp [L.V.W.len])
          simp [take_all, L.V.W.len] at hr
          have hr1 := rd_one hr hj
          rw [Nat.zero_add] at hr1
          have hw := wr_at (n0 := G.length) (wb := true) (off := j) (vs := [.int .u16 (orI (nth g j) v)]) (ver := 0) L6.fr rfl rfl (by simp [may]) (by simp [L6.V.W.len]; omega)
          have hsp : splice (cs .u16 g) j [.int .u16 (orI (nth g j) v)] = cs .u16 (g.set j (orI (nth g j) v)) := by rw [splice_one (by simp [L6.V.W.len]; omega)]; simp [cs, List.map_set]
          simp only [hsp] at hw
          obtain ⟨q1, q2⟩ := L6.V.row hj
          have uv : u16' v := ⟨by omega, by omega⟩
          have L7 := L6.set (L6.V.set (i := j) (orI_ok (a := nth g j) (b := v)) (orI_row q1 uv q2 (by simp [okRow]; omega)))
          simp [b368_2, h7, h0, h2, h3, hjj, hj, hr1]
          rw [fl_step (v := .int .i64 v) (H' := G6) (by simp [apart, blkOf, adr, mods]) (by simp [h0, c6]) (by simp [stays, blkOf, adr, hget])]
          have u1 : IntKind.wrap .u16 v = v := wrapu16 (by omega)
          have e9 : bitsOf .or .u16 (nth g j) v = orI (nth g j) v := rfl
          simp [h0, h2, h3, hj, u1, e9, hw, wbOf, h7, e4]
          exact ⟨_, L7.le (by omega)⟩
        · rintro e G' _ h7 ⟨h0, h2, h3, g, L⟩
          have hr := rd_at (off := 0) (n := 12) (ver := 0) L.fr rfl (by simp [L.V.W.len])
          simp [take_all, L.V.W.len] at hr
          have s3 := stc_zr (k := .u16) (n := 12) (l := g) L.V.W.len
          simp [b368_2, h7, h0, h2, h3, wbOf, hr, s3, agg_cs, L.V.W.len]
          exact ⟨_, _, ⟨rfl, rfl⟩, _, _, ⟨rfl, rfl⟩, L.V, L.done.1, L.done.2.le (by omega)⟩
    · have hpos : 0 < N - i := by omega
      have p1 := call305 L.fr L.V.W.len hx hy
      have L5 := L.set (L.V.put hx hy)
      obtain ⟨v, G6, c6, hv, L6, _⟩ := L5.pick (n := 6) (by omega) (by omega)
      have e6 : IntKind.wrap .i64 (((N - i : Nat) : Int) - 1) = ((N - (i + 1) : Nat) : Int) := by rw [wrap64 (by omega)]; omega
      have hiN' : i < N := by omega
      have fin : ∀ {x' y' : Int} {G7 : Heap}, (0 ≤ x' ∧ x' < 12) → (0 ≤ y' ∧ y' < 12) → Loc G G7 P (k + 6 + i * 8 + 6) (putF f x y) → XY (.int .i64 x') (.int .i64 y') ∧ ∃ f, Loc G G7 P (k + 6 + (i + 1) * 8) f := fun hx' hy' L7 => ⟨.mk hx' hy', _, L7.le (by omega)⟩
      have hmod : ∀ a : Int, 0 ≤ a → a ≤ 1000 → IntKind.wrap .i64 (a.tmod 12) = a.tmod 12 ∧ 0 ≤ a.tmod 12 ∧ a.tmod 12 < 12 := fun a ha hb => by
        have h1 : a.tmod 12 = a % 12 := Int.tmod_eq_emod_of_nonneg ha
        rw [h1]
        exact ⟨wrap64 (by omega), by omega, by omega⟩
      have hv' : v = 0 ∨ v = 1 ∨ v = 2 ∨ (v ≠ 0 ∧ v ≠ 1 ∧ v ≠ 2) := by omega
      rcases hv' with rfl | rfl | rfl | ⟨v0, v1, v2⟩
      · obtain ⟨x', G7, c7, hx', L7, _⟩ := L6.pick (n := 12) (by omega) (by omega)
        obtain ⟨y', G8, c8, hy', L8, _⟩ := L7.pick (n := 12) (by omega) (by omega)
        simp [b368_1, h0, h2, h3, h4, h5, h6, hpos, p1, c6, c7, c8, e6, wbOf]
        exact ⟨hiN', fin hx' hy' (L8.le (by omega))⟩
      · obtain ⟨m1, m2⟩ := hmod ((x : Int) + 1) (by omega) (by omega)
        have e7 : IntKind.wrap .i64 ((x : Int) + 1) = (x : Int) + 1 := wrap64 (by omega)
        simp [b368_1, h0, h2, h3, h4, h5, h6, hpos, p1, c6, e6, e7, m1, wbOf]
        exact ⟨hiN', fin m2 ⟨by omega, by omega⟩ (L6.le (by omega))⟩
      · obtain ⟨m1, m2⟩ := hmod ((x : Int) + 1) (by omega) (by omega)
        have e7 : IntKind.wrap .i64 ((x : Int) + 1) = (x : Int) + 1 := wrap64 (by omega)
        simp [b368_1, h0, h2, h3, h4, h5, h6, hpos, p1, c6, e6, e7, m1, wbOf]
        exact ⟨hiN', fin m2 ⟨by omega, by omega⟩ (L6.le (by omega))⟩
      · obtain ⟨w, G7, c7, hw, L7, _⟩ := L6.pick (n := 3) (by omega) (by omega)
        obtain ⟨m1, m2⟩ := hmod ((y : Int) + w + 11) (by omega) (by omega)
        have v0 : (v == 0) = false := by simpa using v0
        have v1 : (v == 1) = false := by simpa using v1
        have v2 : (v == 2) = false := by simpa using v2
        have e7 : IntKind.wrap .i64 ((y : Int) + w) = (y : Int) + w := wrap64 (by omega)
        have e8 : IntKind.wrap .i64 ((y : Int) + w + 11) = (y : Int) + w + 11 := wrap64 (by omega)
        simp [b368_1, h0, h2, h3, h4, h5, h6, hpos, p1, c6, c7, e6, e7, e8, m1, v0, v1, v2, wbOf]
        exact ⟨hiN', fin ⟨by omega, by omega⟩ m2 (L7.le (by omega))⟩
  obtain ⟨r, hc, v, G', rfl, h⟩ := key
  exact ⟨v, G', hc, h⟩
theorem shF_V {f : List Int} {dx dy : Int} : VF (shF f dx dy) := ⟨dotsF_W, dotsF_ok⟩
structure Lo2 (G G' : Heap) (P k : Nat) (x : Value) (L : List (List Int)) (f : List Int) : Prop where
  src : Src G' P k
  ls : ∃ ver, x = slc G.length 0 ver L.length L.length ∧ G'[G.length]? = some ⟨bkC L, 12, ver, false⟩
  VL : ∀ g ∈ L, VF g
  fr : G'[G.length + 1]? = some ⟨cs .u16 f, 1, 0, false⟩
  V : VF f
  len : G.length + 2 ≤ G'.length
  get : ∀ j, j < G.length → j ≠ P → G'[j]? = G[j]?
  lt : P < G.length
theorem Lo2.mv {G G' G'' : Heap} {P k k' : Nat} {x : Value} {L : List (List Int)} {f : List Int} (h : Lo2 G G' P k x L f) (m : Mv P G' G'') (s : Src G'' P k') : Lo2 G G'' P k' x L f := by
  have := h.lt
  exact ⟨s, by obtain ⟨ver, e, g⟩ := h.ls; exact ⟨ver, e, by rw [m.get _ (by omega)]; exact g⟩, h.VL, by rw [m.get _ (by omega)]; exact h.fr, h.V, by rw [m.len]; exact h.len, fun j hj hp => by rw [m.get j hp]; exact h.get j hj hp, h.lt⟩
theorem Lo2.le {G G' : Heap} {P k k' : Nat} {x : Value} {L : List (List Int)} {f : List Int} (h : Lo2 G G' P k x L f) (hk : k ≤ k') : Lo2 G G' P k' x L f := ⟨h.src.le hk, h.ls, h.VL, h.fr, h.V, h.len, h.get, h.lt⟩
theorem Lo2.set {G G' : Heap} {P k : Nat} {x : Value} {L : List (List Int)} {f g : List Int} (h : Lo2 G G' P k x L f) (hg : VF g) : wr G.length true G' (G.length + 1) 0 0 (cs .u16 g) = some (G'.set (G.length + 1) ⟨cs .u16 g, 1, 0, false⟩) ∧ Lo2 G (G'.set (G.length + 1) ⟨cs .u16 g, 1, 0, false⟩) P k x L g := by
  have hl := h.lt
  have hlen := h.len
  have hw := wr_at (n0 := G.length) (wb := true) (off := 0) (vs := cs .u16 g) (ver := 0) h.fr rfl rfl (by simp [may]) (by simp [h.V.W.len, hg.W.len])
  have hsp : splice (cs .u16 f) 0 (cs .u16 g) = cs .u16 g := by
    unfold splice
    rw [List.take_zero, List.nil_append, Nat.zero_add, List.drop_eq_nil_of_le (by simp [h.V.W.len, hg.W.len]), List.append_nil]
  simp only [hsp] at hw
  exact ⟨hw, h.src.mv (List.getElem?_set_ne (by omega)) fun j hj => List.getElem?_set_ne (by omega), by obtain ⟨ver, e, g⟩ := h.ls; exact ⟨ver, e, by rw [List.getElem?_set_ne (by omega)]; exact g⟩, h.VL, get_set h.fr, hg, by simpa using hlen,
    fun j hj hp => by rw [List.getElem?_set_ne (by omega)]; exact h.get j hj hp, hl⟩
theorem Lo2.pick {G G' : Heap} {P k : Nat} {x : Value} {L : List (List Int)} {f : List Int} {n : Int} (h : Lo2 G G' P k x L f) (hk : k ≤ 100000000000) (hn : 1 ≤ n ∧ n ≤ 1000000) : ∃ v G'', Call tab false 459 [adr P 0 0, .int .i64 n] G' = some (.int .i64 v, G'') ∧ (0 ≤ v ∧ v < n) ∧ Lo2 G G'' P (k + 2) x L f := by
  obtain ⟨v, G'', c, hv, m, s⟩ := call459 h.src hk hn
  exact ⟨v, G'', c, hv, h.mv m s⟩
theorem Lo2.frd {G G' : Heap} {P k : Nat} {x : Value} {L : List (List Int)} {f : List Int} (h : Lo2 G G' P k x L f) : rd G' (G.length + 1) 0 0 12 = some (cs .u16 f) := by
  have hr := rd_at (off := 0) (n := 12) (ver := 0) h.fr rfl (by simp [h.V.W.len])
  simpa [take_all, h.V.W.len] using hr
theorem vl_size {L : List (List Int)} (h : ∀ g ∈ L, VF g) : (bkC L).length = L.length * 12 := bkC_length fun f hf => (h f hf).W
theorem Lo2.bk {G G' : Heap} {P k : Nat} {x : Value} {L : List (List Int)} {f : List Int} (h : Lo2 G G' P k x L f) : Bk G' x L := by
  obtain ⟨ver, rfl, g⟩ := h.ls
  have hs := vl_size h.VL
  exact ⟨hs, .inr ⟨_, 0, ver, L.length, rfl, Nat.le_refl _, by rw [rd_at g rfl (by simp [hs])]; simp [take_all, hs], _, g, rfl, rfl⟩⟩
theorem Lo2.push {G G' : Heap} {P k : Nat} {x : Value} {L : List (List Int)} {f : List Int} (h : Lo2 G G' P k x L f) (hn : L.length ≤ 1000000) :
    ∃ x' G'', ((srcOf 12 (G' ++ [⟨cs .u16 f, 12, 0, false⟩]) (slc G'.length 0 0 1 1)).bind fun q => appendTo G.length true 12 24 (G' ++ [⟨cs .u16 f, 12, 0, false⟩]) x q.1 q.2) = some (x', G'') ∧ Lo2 G G'' P k x' (L ++ [f]) f := by
  have hl := h.lt
  have hlen := h.len
  have hf := h.V.W.len
  have hs := vl_size h.VL
  have hfr := h.fr
  have hsrc := h.src
  have hget := h.get
  obtain ⟨ver, rfl, g⟩ := h.ls
  have gA : ∀ j, j < G'.length → (G' ++ [(⟨cs .u16 f, 12, 0, false⟩ : Blk)])[j]? = G'[j]? := fun j hj => List.getElem?_append_left hj
  have g' : (G' ++ [(⟨cs .u16 f, 12, 0, false⟩ : Blk)])[G.length]? = some ⟨bkC L, 12, ver, false⟩ := by rw [gA _ (by omega)]; exact g
  have e1 : srcOf 12 (G' ++ [⟨cs .u16 f, 12, 0, false⟩]) (slc G'.length 0 0 1 1) = some (1, cs .u16 f) := by
    show (rd (G' ++ [⟨cs .u16 f, 12, 0, false⟩]) G'.length 0 0 (1 * 12)).map (fun cs => (1, cs)) = _
    rw [Nat.one_mul, rd_last rfl (by simpa using hf)]; rfl
  have e2 : (L ++ [f]).length = L.length + 1 := by simp
  refine ⟨slc G.length 0 (ver + 1) (L.length + 1) (L.length + 1), (G' ++ [(⟨cs .u16 f, 12, 0, false⟩ : Blk)]).set G.length ⟨bkC L ++ cs .u16 f, 12, ver + 1, false⟩, ?_, ?_⟩
  · rw [e1, Option.bind_some]
    exact appendTo_grow g' rfl rfl (by simp [may]) rfl hs.symm (by omega) (room24 (by omega))
  · refine ⟨hsrc.mv (by rw [List.getElem?_set_ne (by omega), gA _ (by omega)]) fun j hj => by rw [List.getElem?_set_ne (by omega), gA _ (by omega)], ⟨ver + 1, by rw [e2], by rw [get_set g', bkC_push]⟩, fun g hg => ?_, by rw [List.getElem?_set_ne (by omega), gA _ (by omega)]; exact hfr, h.V, by simp; omega, fun j hj hp => by rw [List.getElem?_set_ne (by omega), gA _ (by omega)]; exact hget j hj hp, hl⟩
    rcases List.mem_append.1 hg with h1 | h1
    · exact h.VL g h1
    · rw [List.mem_singleton.1 h1]; exact h.V
theorem finish_slc' {H G : Heap} {b ver len cap : Nat} {k : Blk} (hb : H.length ≤ b) (hk : G[b]? = some k) (hv : ver = k.ver) (hr : k.ro = false) (ho : k.cells.all (old0 H.length) = true) :
    finish H.length G [slc b 0 ver len cap] = (slc H.length 0 0 len cap, G.take H.length ++ [{ k with ver := 0 }]) := by
  have hne : old1 H.length (slc b 0 ver len cap) = false := by
    show (true && decide (b < H.length)) = false
    simp; omega
  have : pack H.length G [slc b 0 ver len cap] [] [] = some ([slc H.length 0 0 len cap], [{ k with ver := 0 }]) := by
    rw [pack, if_neg (by rw [hne]; decide)]
    show (match G[b]? with
      | some k => if ([] : List Nat).contains b = false ∧ ver = k.ver ∧ k.ro = false ∧ k.cells.all (old0 H.length) = true then _ else none
      | none => none) = _
    rw [hk]
    simp only []
    rw [if_pos ⟨by simp, hv, hr, ho⟩]
    rfl
  rw [finish_some this]; rfl
theorem Lo2.done {G G' : Heap} {P k : Nat} {x : Value} {L : List (List Int)} {f : List Int} (h : Lo2 G G' P k x L f) :
    finish G.length G' [x] = (slc G.length 0 0 L.length L.length, G'.take G.length ++ [⟨bkC L, 12, 0, false⟩]) ∧ Mv P G (G'.take G.length) ∧ Src (G'.take G.length) P k := by
  have hlen := h.len
  refine ⟨?_, ⟨by simp; omega, fun j hj => ?_⟩, h.src.take h.lt⟩
  · obtain ⟨ver, rfl, g⟩ := h.ls
    rw [finish_slc' (Nat.le_refl _) g rfl rfl bkC_flat.all]
  · rw [List.getElem?_take]
    split
    · exact h.get j ‹_› hj
    · exact (List.getElem?_eq_none (by omega)).symm
theorem call314 {G : Heap} {P k : Nat} {most : Int} (h : Src G P k) (hk : k ≤ 10000000) (hm : 0 ≤ most ∧ most ≤ 100) :
    ∃ L G1, Call tab false 314 [adr P 0 0, .int .i64 most] G = some (slc G.length 0 0 L.length L.length, G1 ++ [⟨bkC L, 12, 0, false⟩]) ∧ (∀ g ∈ L, VF g) ∧ (L.length : Int) ≤ most ∧ Mv P G G1 ∧ Src G1 P (k + 30000) := by
  have key : ∃ r, Call tab false 314 [adr P 0 0, .int .i64 most] G = some r ∧ ∃ L G1, r = (slc G.length 0 0 L.length L.length, G1 ++ [⟨bkC L, 12, 0, false⟩]) ∧ (∀ g ∈ L, VF g) ∧ (L.length : Int) ≤ most ∧ Mv P G G1 ∧ Src G1 P (k + 30000) := by
    refine Call_ex t314 (.inl rfl) rfl ?_
    have hl := h.lt
    obtain ⟨G1, hG1⟩ : ∃ G1, G1 = G ++ [(⟨[], 12, 0, false⟩ : Blk)] := ⟨_, rfl⟩
    have p1 : Pre G G1 := by rw [hG1]; exact Pre.one
    obtain ⟨f, G2, c2, V, m2, s2⟩ := call368 (h.pre p1) (by omega)
    obtain ⟨G3, hG3⟩ : ∃ G3, G3 = G2 ++ [(⟨cs .u16 (zr 12 0), 1, 0, false⟩ : Blk)] := ⟨_, rfl⟩
    have l2 : G2.length = G.length + 1 := by rw [m2.len, hG1]; simp
    have g3 : ∀ j, j < G2.length → G3[j]? = G2[j]? := fun j hj => by rw [hG3, List.getElem?_append_left hj]
    have L3 : Lo2 G G3 P (k + 200) (slc G.length 0 0 0 0) [] (zr 12 0) := by
      refine ⟨s2.pre (by rw [hG3]; exact Pre.one), ⟨0, rfl, ?_⟩, fun g hg => (by cases hg), by rw [hG3, ← l2]; exact get_last, .zero, by rw [hG3]; simp; omega, fun j hj hp => ?_, hl⟩
      · rw [g3 _ (by omega), m2.get _ (by omega), hG1]; exact get_last
      · rw [g3 _ (by omega), m2.get _ hp, p1.get hj]
    obtain ⟨w3, L4⟩ := L3.set V
    have e1 : IntKind.wrap .i64 (most + 1) = most + 1 := wrap64 (by omega)
    obtain ⟨N, G5, c5, hN, L5⟩ := L4.pick (n := most + 1) (by omega) (by omega)
    obtain ⟨N, rfl⟩ := Int.eq_ofNat_of_zero_le hN.1
    have hf0 : fill (rep 0 (cs .u16 (zr 12 0))) [] = some [] := rfl
    simp [c314, k314, hf0, zs_cs, ← hG1, c2, ← hG3, wbOf, V.W.len, l2, w3, e1, c5]
    refine WK_loop (fun i e G' => e 0 = adr P 0 0 ∧ e 6 = adr (G.length + 1) 0 0 ∧ e 7 = .int .i64 ((N - i : Nat) : Int) ∧ ∃ L, L.length = i ∧ ∃ f, Lo2 G G' P (k + 202 + i * 220) (e 5) L f) N ?_ (Nat.zero_le _)
      ⟨by simp, by simp, by simp, [], rfl, f, by rw [Nat.zero_mul]; simp; exact L5⟩
    rintro i e G' _ hi ⟨h0, h6, h7, L, hL, f, Lo⟩
    obtain ⟨x, h5⟩ : ∃ x, e 5 = x := ⟨_, rfl⟩
    rw [h5] at Lo
    by_cases hiN : i = N
    · subst hiN
      rw [Nat.sub_self] at h7
      obtain ⟨d1, d2, d3⟩ := Lo.done
      simp [b314_1, h0, h6, h7, h5, d1]
      exact ⟨L, _, ⟨rfl, rfl, rfl⟩, Lo.VL, by omega, d2, d3.le (by omega)⟩
    · have hpos : 0 < N - i := by omega
      have hiN' : i < N := by omega
      have e7 : IntKind.wrap .i64 (((N - i : Nat) : Int) - 1) = ((N - (i + 1) : Nat) : Int) := by rw [wrap64 (by omega)]; omega
      obtain ⟨v, G6, c6, hv, L6⟩ := Lo.pick (n := 5) (by omega) (by omega)
      have fin : ∀ {G7 : Heap} {g : List Int}, Lo2 G G7 P (k + 202 + i * 220 + 210) x L g → ∃ x' G'', ((srcOf 12 (G7 ++ [⟨cs .u16 g, 12, 0, false⟩]) (slc G7.length 0 0 1 1)).bind fun q => appendTo G.length true 12 24 (G7 ++ [⟨cs .u16 g, 12, 0, false⟩]) x q.1 q.2) = some (x', G'') ∧
          ∃ L', L'.length = i + 1 ∧ ∃ f', Lo2 G G'' P (k + 202 + (i + 1) * 220) x' L' f' := fun L7 => by
        obtain ⟨x', G'', h1, h2⟩ := L7.push (by omega)
        exact ⟨x', G'', h1, _, by simp [hL], _, h2.le (by omega)⟩
      have hv' : v = 0 ∨ v = 1 ∨ v = 2 ∨ (v ≠ 0 ∧ v ≠ 1 ∧ v ≠ 2) := by omega
      rcases hv' with rfl | rfl | rfl | ⟨v0, v1, v2⟩
      · obtain ⟨g, G7, c7, V7, m7, s7⟩ := call368 L6.src (by omega)
        obtain ⟨w8, L8⟩ := (L6.mv m7 s7).set V7
        obtain ⟨x', G9, c9, hI⟩ := fin (L8.le (by omega))
        simp only [List.length_set] at c9
        simp [b314_1, h0, h6, h7, h5, hpos, c6, c7, V7.W.len, w8, wbOf, L8.frd, zs_cs, agg_cs, fillF V7.W.len, c9, e7]
        exact ⟨hiN', hI⟩
      · obtain ⟨x', G9, c9, hI⟩ := fin (L6.le (by omega))
        simp [b314_1, h0, h6, h7, h5, hpos, c6, wbOf, L6.frd, zs_cs, agg_cs, fillF L6.V.W.len, L6.V.W.len, c9, e7]
        exact ⟨hiN', hI⟩
      · by_cases hL0 : 0 < L.length
        · obtain ⟨w, G7, c7, hw, L7⟩ := L6.pick (n := L.length) (by omega) (by omega)
          obtain ⟨w, rfl⟩ := Int.eq_ofNat_of_zero_le hw.1
          have hwl : w < L.length := by omega
          obtain ⟨q, off, ver, ha, hr⟩ := Bk.get L7.bk (fun f hf => (L7.VL f hf).W) hwl
          have Vw := L7.VL _ (at0_mem (l := L) hwl)
          have Vw' : VF (fr L w) := Vw
          obtain ⟨w8, L8⟩ := L7.set Vw'
          obtain ⟨x', G9, c9, hI⟩ := fin (L8.le (by omega))
          simp only [List.length_set] at c9
          have hlen : lenV x = some (.int .i64 L.length) := L6.bk.lenV
          simp [b314_1, h0, h6, h7, h5, hpos, c6, hlen, hL0, c7, ha, hr, Vw'.W.len, w8, wbOf, L8.frd, zs_cs, agg_cs, fillF Vw'.W.len, c9, e7]
          exact ⟨hiN', hI⟩
        · obtain ⟨x', G9, c9, hI⟩ := fin (L6.le (by omega))
          have hlen : lenV x = some (.int .i64 L.length) := L6.bk.lenV
          simp [b314_1, h0, h6, h7, h5, hpos, c6, hlen, hL0, wbOf, L6.frd, zs_cs, agg_cs, fillF L6.V.W.len, L6.V.W.len, c9, e7]
          exact ⟨hiN', hI⟩
      · have v0 : (v == 0) = false := by simpa using v0
        have v1 : (v == 1) = false := by simpa using v1
        have v2 : (v == 2) = false := by simpa using v2
        obtain ⟨a, G7, c7, ha, L7⟩ := L6.pick (n := 3) (by omega) (by omega)
        obtain ⟨b, G8, c8, hb, L8⟩ := L7.pick (n := 3) (by omega) (by omega)
        have ea : IntKind.wrap .i64 (a - 1) = a - 1 := wrap64 (by omega)
        have eb : IntKind.wrap .i64 (b - 1) = b - 1 := wrap64 (by omega)
        have cs := call355 (pu := true) (dx := a - 1) (dy := b - 1) L8.V.W L8.frd (by omega) (by omega)
        obtain ⟨w8, L9⟩ := L8.set (shF_V (f := f) (dx := a - 1) (dy := b - 1))
        obtain ⟨x', G9, c9, hI⟩ := fin (L9.le (by omega))
        simp only [List.length_set] at c9
        have hsl : (shF f (a - 1) (b - 1)).length = 12 := shF_length
        simp [b314_1, h0, h6, h7, h5, hpos, c6, v0, v1, v2, c7, c8, ea, eb, cs, hsl, w8, wbOf, L9.frd, zs_cs, agg_cs, fillF hsl, c9, e7]
        exact ⟨hiN', hI⟩
  obtain ⟨r, hc, L, G1, rfl, h⟩ := key
  exact ⟨L, G1, hc, h⟩
/-- In a function that draws: the source, and blocks of the call's own behind. -/
structure Lo0 (G G' : Heap) (P k : Nat) : Prop where
  src : Src G' P k
  len : G.length ≤ G'.length
  get : ∀ j, j < G.length → j ≠ P → G'[j]? = G[j]?
  lt : P < G.length
theorem Lo0.pre {G G' G'' : Heap} {P k : Nat} (h : Lo0 G G' P k) (p : Pre G' G'') : Lo0 G G'' P k := by
  have h1 := h.len
  exact ⟨h.src.pre p, Nat.le_trans h1 p.len, fun j hj hp => by rw [p.get (by omega)]; exact h.get j hj hp, h.lt⟩
/-- Valid light. -/
structure VL (l : List Int) : Prop where
  len : l.length = 144
  ok : okAll l = true
theorem VL.set {l : List Int} {i : Nat} {v : Int} (h : VL l) (hv : 0 ≤ v ∧ v ≤ 1000) : VL (l.set i v) :=
  ⟨by simp [h.len], List.all_eq_true.2 fun n hn => (List.mem_or_eq_of_mem_set hn).elim (fun h1 => List.all_eq_true.1 (show l.all okL = true from h.ok) n h1) (fun e => by rw [e]; simpa [okL] using hv)⟩
theorem mixV {op : Int → Int → Int} {f g : List Int} (hf : VF f) (hg : VF g) (h : ∀ a b, u16' a → u16' b → okRow a = true → okRow b = true → u16' (op a b) ∧ okRow (op a b) = true) : VF (mixF op f g) := by
  have key : ∀ i, i < 12 → u16' (nth (mixF op f g) i) ∧ okRow (nth (mixF op f g) i) = true := fun i hi => by
    rw [mixF, nth_tabN hi]
    exact h _ _ (hf.row hi).1 (hg.row hi).1 (hf.row hi).2 (hg.row hi).2
  exact ⟨⟨mixF_length, fun n hn => by obtain ⟨i, hi, rfl⟩ := mem_nth hn; rw [mixF_length] at hi; exact (key i hi).1⟩, okF_true mixF_length fun i hi => (key i hi).2⟩
theorem less_V {f g : List Int} (hf : VF f) (hg : VF g) : VF (mixF lessI f g) := mixV hf hg fun _ _ h1 h2 h3 _ => ⟨lessI_ok, lessI_row h1 h3⟩
/-- A list of bytes in memory. -/
structure By (H : Heap) (x : Value) (bs : List Int) : Prop where
  s : SlR H x 1 bs.length (cs .u8 bs)
  b : ∀ v ∈ bs, 0 ≤ v ∧ v ≤ 255
theorem By.pre {H G : Heap} {x : Value} {bs : List Int} (p : Pre H G) (h : By H x bs) : By G x bs := ⟨h.s.pre p, h.b⟩
theorem call84 {pu : Bool} {H : Heap} {x y : Value} {bs cs : List Int} (hx : By H x bs) (hy : By H y cs) : Call tab pu 84 [x, y] H = some (.bool (decide (3000 < bs.length) || decide (3000 < cs.length)), H) := by
  refine Call_wp t84 (.inr rfl) rfl ?_
  have e2 : decide ((3000 : Int) < cs.length) = decide (3000 < cs.length) := decide_eq_decide.2 (by omega)
  by_cases h : 3000 < bs.length
  · have h' : (3000 : Int) < bs.length := by omega
    simp [c84, k84, hx.s.lenV, hy.s.lenV, h, h', skip]
  · have h' : ¬ (3000 : Int) < bs.length := by omega
    simp [c84, k84, hx.s.lenV, hy.s.lenV, h, h', e2]
theorem call124 {pu : Bool} {H : Heap} {x : Value} {bs : List Int} {i : Nat} {n : Int} (hx : By H x bs) (hi : i ≤ 1000000) (hn : 1 ≤ n ∧ n ≤ 1000000) : ∃ v, Call tab pu 124 [x, .int .i64 i, .int .i64 n] H = some (.int .i64 v, H) ∧ 0 ≤ v ∧ v < n := by
  by_cases h : i < bs.length
  · obtain ⟨q, off, ver, ha, hr⟩ := hx.s.get1 h
    rw [elem_i h] at hr
    have hb := nthI_ok hx.b h
    have h1 : (nth bs i).tmod n = nth bs i % n := Int.tmod_eq_emod_of_nonneg hb.1
    have h2 := Int.emod_nonneg (nth bs i) (show n ≠ 0 by omega)
    have h3 := Int.emod_lt_of_pos (nth bs i) (show 0 < n by omega)
    have w1 : IntKind.wrap .i64 (nth bs i) = nth bs i := wrap64 (by omega)
    have w2 : IntKind.wrap .i64 (nth bs i % n) = nth bs i % n := wrap64 (by omega)
    have hn0 : n ≠ 0 := by omega
    have hn1 : ¬ n < 1 := by omega
    have hge : ¬ bs.length ≤ i := by omega
    refine ⟨nth bs i % n, Call_wp t124 (.inr rfl) rfl ?_, h2, h3⟩
    simp [c124, k124, hx.s.lenV, hge, hn1, ha, hr, w1, hn0, h1, w2]
  · have hge : bs.length ≤ i := by omega
    refine ⟨0, Call_wp t124 (.inr rfl) rfl ?_, by omega, by omega⟩
    simp [c124, k124, hx.s.lenV, hge, skip]
theorem call85 {pu : Bool} {H : Heap} {x : Value} {bs : List Int} (hx : By H x bs) (hn : bs.length ≤ 1000000) :
    ∃ L, Call tab pu 85 [x] H = some (slc H.length 0 0 L.length L.length, H ++ [⟨bkC L, 12, 0, false⟩]) ∧ (∀ g ∈ L, VF g) ∧ L.length ≤ 7 := by
  obtain ⟨c1, s1⟩ := call315 (pu := true) hx.s hx.b hn
  obtain ⟨L, G1, c2, V, hl, m, s2⟩ := call314 (most := 7) s1 (by omega) (by omega)
  obtain ⟨H1, hH1⟩ : ∃ H1, H1 = H ++ [srB x 0 0] := ⟨_, rfl⟩
  rw [← hH1] at c1 c2 s1 m
  have p1 : Pre H H1 := by rw [hH1]; exact Pre.one
  have lH1 : H1.length = H.length + 1 := by rw [hH1]; simp
  obtain ⟨G2, hG2⟩ : ∃ G2, G2 = G1 ++ [(⟨bkC L, 12, 0, false⟩ : Blk)] := ⟨_, rfl⟩
  rw [← hG2] at c2
  have ht : G2.take H.length = H := by
    rw [hG2, List.take_append_of_le_length (by rw [m.len]; omega), m.take (Nat.le_refl _), p1.take]
  have he : elder H.length false H1 (slc H1.length 0 0 L.length L.length, G2) = some (slc H1.length 0 0 L.length L.length, G2) := elder_same (by rw [ht, p1.take])
  have hfin := finish_slc' (H := H) (G := G2) (b := H1.length) (ver := 0) (len := L.length) (cap := L.length) (k := ⟨bkC L, 12, 0, false⟩) (by omega) (by rw [hG2, ← m.len]; exact get_last) rfl rfl bkC_flat.all
  rw [ht] at hfin
  refine ⟨L, Call_wp t85 (.inr rfl) rfl ?_, V, by omega⟩
  simp [c85, k85, c1, c2, wbOf, he, hfin]
theorem call327 {pu : Bool} {H : Heap} {p q o o' v v' : Nat} {a b : List Int} (ha : VF a) (hb : VF b) (h1 : rd H p o v 12 = some (cs .u16 a)) (h2 : rd H q o' v' 12 = some (cs .u16 b)) : Call tab pu 327 [adr p o v, adr q o' v'] H = some (.int .i64 0, H) := by
  refine Call_wp t327 (.inr rfl) rfl ?_
  simp [c327, k327, call359 ha.W.len h1, call359 hb.W.len h2, ha.ok, hb.ok]
theorem g4a {a b c d : Value} : ([a, b, c, d] : List Value)[0]? = some a := rfl
theorem g4b {a b c : Value} : ([a, b, c] : List Value)[0]? = some a := rfl
theorem g4c {a b : Value} : ([a, b] : List Value)[0]? = some a := rfl
theorem g4d {a : Value} : ([a] : List Value)[0]? = some a := rfl
theorem okB_V {b : List (List Int)} (h : ∀ g ∈ b, VF g) (hn : b.length ≤ 40) : okB b = true := by
  have h1 : okFs b = true := List.all_eq_true.2 fun f hf => (h f hf).ok
  simp [okB, h1, hn]
/-- In a function that draws: the source, and a list of the call's own in the first new block. -/
structure LoG (G G' : Heap) (P k : Nat) (x : Value) (esz n : Nat) (vs : List Value) : Prop where
  src : Src G' P k
  ls : ∃ ver, x = slc G.length 0 ver n n ∧ G'[G.length]? = some ⟨vs, esz, ver, false⟩
  size : vs.length = n * esz
  len : G.length + 1 ≤ G'.length
  get : ∀ j, j < G.length → j ≠ P → G'[j]? = G[j]?
  lt : P < G.length
theorem LoG.rd {G G' : Heap} {P k esz n o m : Nat} {x : Value} {vs : List Value} (h : LoG G G' P k x esz n vs) {ver : Nat} (hx : x = slc G.length 0 ver n n) (ho : o + m ≤ n * esz) : Fb.rd G' G.length o ver m = some ((vs.drop o).take m) := by
  obtain ⟨ver', e, g⟩ := h.ls
  rw [hx] at e
  have hve : ver = ver' := by
    have := e
    simp [slc] at this
    exact this
  subst hve
  exact rd_at (ver := ver) g rfl (by rw [h.size]; exact ho)
/-- A drawn track. -/
structure DT (ks : List Ky) : Prop where
  n1 : 1 ≤ ks.length
  n5 : ks.length ≤ 5
  ok : okTk ks = true
/-- A drawn part. -/
structure DP (s : Pt) : Prop where
  f : VF s.f
  e : 0 ≤ s.e ∧ s.e ≤ 3
  ks : DT s.ks
theorem DT.W {ks : List Ky} (h : DT ks) : KyW ks := fun k hk => by
  have V := okTk_V h.ok
  obtain ⟨i, hi, rfl⟩ := List.getElem_of_mem hk
  have := V.r i hi
  have e : ky ks i = ks[i] := Option.some.inj ((at0_get hi).symm.trans (List.getElem?_eq_getElem hi))
  rw [e] at this
  exact ⟨by omega, ⟨by omega, by omega⟩, ⟨by omega, by omega⟩⟩
theorem DP.ok {s : Pt} (h : DP s) : okPt s = true := by
  have := h.e
  simp [okPt, h.f.ok, h.ks.ok, in1, this]
theorem DP.W {s : Pt} (h : DP s) : PtW s := ⟨h.f.W.ok, ⟨by have := h.e; omega, by have := h.e; omega⟩, h.ks.W⟩
theorem call356 {pu : Bool} {G : Heap} {x y : Value} {l : List Int} (hx : SlR G x 1 l.length (cs .i64 l)) (hy : SlR G y 1 l.length (cs .i64 l)) (hn : l.length ≤ 1000000) : Call tab pu 356 [x, y] G = some (.bool true, G) := by
  refine Call_wp t356 (.inr rfl) rfl ?_
  simp [c356, k356, hx.lenV, hy.lenV]
  refine WP_forH 5 l.length _ rfl (by omega) (fun i e => e 0 = x ∧ e 1 = y) ?_ ?_ (by simp) (by simp)
  · rintro i e hi hii e4 h5 ⟨h0, h1⟩
    obtain ⟨q, off, ver, ha, hr⟩ := hx.get1 hi
    obtain ⟨q', off', ver', ha', hr'⟩ := hy.get1 hi
    rw [elem_i hi] at hr hr'
    simp [b356_1, h5, h0, h1, hii, hx.lenV, ha, hr, ha', hr', e4]
  · rintro e h5 ⟨h0, h1⟩
    simp [b356_1, h5, h0, hx.lenV]
def lpD (b : List (List Int)) (n i : Nat) : Int := difF (fr b (i + n - 1)) (fr b i)
/-- The best of what was visited. -/
def LpI (b : List (List Int)) (o : Lp) (S : Nat → Nat → Prop) : Prop := match o with
  | none => ∀ n i, ¬ S n i
  | some (f, c, j) => S c f ∧ j = lpD b c f ∧ ∀ n i, S n i → j ≤ lpD b n i ∧ (lpD b n i = j → n < c ∨ (n = c ∧ f ≤ i))
theorem LpI.step {b : List (List Int)} {o : Lp} {S S' : Nat → Nat → Prop} {n i : Nat} (h : LpI b o S) (hS : ∀ n' i', S' n' i' ↔ S n' i' ∨ (n' = n ∧ i' = i)) (ho : ∀ n' i', S n' i' → n < n' ∨ (n = n' ∧ i' < i)) : LpI b (stepL b n i o) S' := by
  cases o with
  | none =>
    refine ⟨(hS n i).2 (.inr ⟨rfl, rfl⟩), rfl, fun n' i' hs => ?_⟩
    rcases (hS n' i').1 hs with h1 | ⟨rfl, rfl⟩
    · exact absurd h1 (h n' i')
    · exact ⟨Int.le_refl _, fun _ => .inr ⟨rfl, Nat.le_refl _⟩⟩
  | some q =>
    obtain ⟨f, c, j⟩ := q
    obtain ⟨h1, h2, h3⟩ := h
    show LpI b (if lpD b n i < j then some (i, n, lpD b n i) else some (f, c, j)) S'
    split
    · rename_i hlt
      refine ⟨(hS n i).2 (.inr ⟨rfl, rfl⟩), rfl, fun n' i' hs => ?_⟩
      rcases (hS n' i').1 hs with h4 | ⟨rfl, rfl⟩
      · have := (h3 n' i' h4).1
        exact ⟨by omega, fun he => by omega⟩
      · exact ⟨Int.le_refl _, fun _ => .inr ⟨rfl, Nat.le_refl _⟩⟩
    · rename_i hge
      refine ⟨(hS c f).2 (.inl h1), h2, fun n' i' hs => ?_⟩
      rcases (hS n' i').1 hs with h4 | ⟨rfl, rfl⟩
      · exact h3 n' i' h4
      · refine ⟨by omega, fun _ => ?_⟩
        rcases ho c f h1 with h5 | h5
        · exact .inl h5
        · exact .inr ⟨h5.1, by omega⟩
theorem LpI.congr {b : List (List Int)} {o : Lp} {S S' : Nat → Nat → Prop} (h : LpI b o S) (hS : ∀ n i, S' n i ↔ S n i) : LpI b o S' := by
  have : S' = S := funext fun n => funext fun i => propext (hS n i)
  rw [this]; exact h
theorem allL_I {b : List (List Int)} {k : Nat} (hk : k ≤ b.length) : LpI b (allL b k) fun n i => b.length - k < n ∧ i + n ≤ b.length := by
  induction k with
  | zero => rw [allL_zero]; intro n i h; omega
  | succ k ih =>
    have ih := ih (by omega)
    have row : ∀ i, i ≤ k + 1 → LpI b (rowL b (b.length - k) (allL b k) i) fun n i' => (b.length - k < n ∧ i' + n ≤ b.length) ∨ (n = b.length - k ∧ i' < i) := by
      intro i
      induction i with
      | zero => intro _; rw [rowL_zero]; exact ih.congr fun n i => ⟨fun h => h.elim id fun h => by omega, .inl⟩
      | succ i ih2 =>
        intro hi
        rw [rowL_succ]
        refine (ih2 (by omega)).step (fun n' i' => ?_) fun n' i' h => ?_
        · constructor
          · rintro (h | h)
            · exact .inl (.inl h)
            · by_cases hii : i' < i
              · exact .inl (.inr ⟨h.1, hii⟩)
              · exact .inr ⟨h.1, by omega⟩
          · rintro ((h | h) | h)
            · exact .inl h
            · exact .inr ⟨h.1, by omega⟩
            · exact .inr ⟨h.1, by omega⟩
        · rcases h with h | h
          · exact .inl h.1
          · exact .inr ⟨h.1.symm, h.2⟩
    rw [allL_succ]
    refine (row (k + 1) (Nat.le_refl _)).congr fun n i => ?_
    constructor
    · rintro ⟨h1, h2⟩
      by_cases hn : b.length - k < n
      · exact .inl ⟨hn, h2⟩
      · exact .inr ⟨by omega, by omega⟩
    · rintro (h | h)
      · exact ⟨by omega, h.2⟩
      · exact ⟨by omega, by omega⟩
theorem best_loop {b : List (List Int)} {least : Nat} (h1 : 1 ≤ least) (h2 : least ≤ b.length) : ∃ f c j, allL b (b.length - least + 1) = some (f, c, j) ∧ least ≤ c ∧ f + c ≤ b.length ∧ j = lpD b c f ∧
    ∀ n i, least ≤ n → i + n ≤ b.length → j ≤ lpD b n i ∧ (lpD b n i = j → n < c ∨ (n = c ∧ f ≤ i)) := by
  obtain ⟨f, c, j, h⟩ := allL_some (b := b) (k := b.length - least)
  have I := allL_I (b := b) (k := b.length - least + 1) (by omega)
  rw [h] at I
  obtain ⟨i1, i2, i3⟩ := I
  exact ⟨f, c, j, h, by omega, i1.2, i2, fun n i hn hi => i3 n i ⟨by omega, hi⟩⟩
theorem least_of {P : Nat → Bool} {n : Nat} : (∃ i, i < n ∧ P i = true) → ∃ i, i < n ∧ P i = true ∧ ∀ j, j < i → P j = false := by
  induction n with
  | zero => rintro ⟨i, h, _⟩; omega
  | succ n ih =>
    rintro ⟨i, hi, hp⟩
    by_cases h : ∃ i, i < n ∧ P i = true
    · obtain ⟨i, h1, h2, h3⟩ := ih h
      exact ⟨i, by omega, h2, h3⟩
    · have hin : i = n := by
        by_cases hin : i < n
        · exact absurd ⟨i, hin, hp⟩ h
        · omega
      subst hin
      refine ⟨i, by omega, hp, fun j hj => ?_⟩
      cases hh : P j with
      | false => rfl
      | true => exact absurd ⟨j, hj, hh⟩ h
theorem per_spec {b : List (List Int)} (hb : 1 ≤ b.length) : ∃ p : Nat, findN (perP b) (b.length + 1) = p ∧ 1 ≤ p ∧ p ≤ b.length ∧ (∀ i, i + p < b.length → fr b i = fr b (i + p)) ∧ ∀ q, 1 ≤ q → q ≤ b.length → perB b q = true → p ≤ q := by
  have hl : perP b b.length = true := by
    have : perB b b.length = true := by unfold perB; rw [Nat.sub_self]; exact allN_true fun i hi => by omega
    unfold perP; rw [this]; simp; omega
  obtain ⟨p, h1, h2, h3⟩ := least_of (P := perP b) (n := b.length + 1) ⟨b.length, by omega, hl⟩
  have h2' := h2
  unfold perP at h2'
  rw [Bool.and_eq_true, decide_eq_true_eq] at h2'
  refine ⟨p, findN_some h1 h3 h2, h2'.1, by omega, fun i hi => ?_, fun q q1 q2 q3 => ?_⟩
  · have := allN_get (p := fun i => decide (fr b i = fr b (p + i))) h2'.2 (i := i) (by omega)
    rw [Nat.add_comm i p]
    exact of_decide_eq_true this
  · rcases Nat.lt_or_ge q p with h | h
    · have := h3 q h
      unfold perP at this
      rw [q3, Bool.and_true, decide_eq_false_iff_not] at this
      omega
    · exact h
theorem fr_app {a b : List (List Int)} {i : Nat} : fr (a ++ b) i = if i < a.length then fr a i else fr b (i - a.length) := by
  unfold fr at0
  rw [List.getD_eq_getElem?_getD, List.getElem?_append]
  split
  · rw [List.getD_eq_getElem?_getD]
  · rw [List.getD_eq_getElem?_getD]
theorem per_twice {l : List (List Int)} : perB (l ++ l) l.length = true := allN_true fun i hi => by
  have hi : i < l.length := by simp at hi; omega
  rw [decide_eq_true_eq, fr_app, if_pos hi, fr_app, if_neg (by omega), Nat.add_sub_cancel_left]
theorem mv_app {l : ML} {a : Int × Int} {i : Nat} : mv (l ++ [a]) i = if i < l.length then mv l i else if i = l.length then a else default := by
  unfold mv at0
  rw [List.getD_eq_getElem?_getD, List.getElem?_append]
  split
  · rw [List.getD_eq_getElem?_getD]
  · rename_i h
    split
    · rename_i h2; subst h2; simp
    · rw [List.getElem?_eq_none (by simp; omega)]; rfl
theorem nth_snoc {l : List Int} {a : Int} {i : Nat} (hi : i < l.length + 1) : nth (l ++ [a]) i = if i < l.length then nth l i else a := by
  unfold nth
  rw [List.getD_eq_getElem?_getD, List.getElem?_append]
  split
  · rw [List.getD_eq_getElem?_getD]
  · rw [show i - l.length = 0 by omega]; rfl
theorem mcJ_get {b c : List (List Int)} {m p : Nat} (h : 0 ≤ mcJ b c m p) : ∃ j : Nat, mcJ b c m p = j ∧ j < (farM m).length ∧ cpP b c (mv (farM m) j) p = true := by
  have e := findN_ge (p := fun j => cpP b c (mv (farM m) j) p) (n := (farM m).length)
  have h' : decide (0 ≤ findN (fun j => cpP b c (mv (farM m) j) p) (farM m).length) = true := decide_eq_true h
  rw [e] at h'
  obtain ⟨i, hi, hp⟩ : ∃ i, i < (farM m).length ∧ cpP b c (mv (farM m) i) p = true := by
    unfold anyN at h'
    obtain ⟨i, hi, hp⟩ := List.any_eq_true.1 h'
    exact ⟨i, by simpa using hi, hp⟩
  obtain ⟨j, j1, j2, j3⟩ := least_of (P := fun j => cpP b c (mv (farM m) j) p) ⟨i, hi, hp⟩
  exact ⟨j, findN_some j1 j3 j2, j1, j2⟩
theorem mcK_get {b c : List (List Int)} {m k : Nat} : ∀ n, n < (mcK b c m k).1.length → ∃ p j : Nat, p < k ∧ nth (mcK b c m k).1 n = p ∧ j < (farM m).length ∧ mv (mcK b c m k).2 n = mv (farM m) j ∧ cpP b c (mv (farM m) j) p = true := by
  induction k with
  | zero => intro n hn; rw [mcK_zero] at hn; simp at hn
  | succ k ih =>
    intro n hn
    have hl := (mcK_len (b := b) (c := c) (m := m) (k := k)).2
    rw [mcK_succ] at hn ⊢
    unfold mcS at hn ⊢
    split at hn
    · rename_i h
      rw [if_pos h]
      have hn : n < (mcK b c m k).1.length + 1 := by simpa using hn
      obtain ⟨j, e1, e2, e3⟩ := mcJ_get h
      simp only [nth_snoc hn, mv_app, hl]
      by_cases hnk : n < (mcK b c m k).1.length
      · rw [if_pos hnk, if_pos hnk]
        obtain ⟨p, j, h1, h2⟩ := ih n hnk
        exact ⟨p, j, by omega, h2⟩
      · rw [if_neg hnk, if_neg hnk, if_pos (by omega)]
        exact ⟨k, j, by omega, rfl, e2, by rw [e1]; rfl, e3⟩
    · rename_i h
      rw [if_neg h]
      obtain ⟨p, j, h1, h2⟩ := ih n hn
      exact ⟨p, j, by omega, h2⟩
theorem mcK_has {b c : List (List Int)} {m k p j : Nat} (hp : p < k) (hj : mcJ b c m p = j) : ∃ n, n < (mcK b c m k).1.length ∧ nth (mcK b c m k).1 n = p ∧ mv (mcK b c m k).2 n = mv (farM m) j := by
  induction k with
  | zero => omega
  | succ k ih =>
    have hl := (mcK_len (b := b) (c := c) (m := m) (k := k)).2
    rw [mcK_succ]
    unfold mcS
    by_cases hpk : p < k
    · obtain ⟨n, h1, h2, h3⟩ := ih hpk
      split
      · refine ⟨n, by simp; omega, ?_⟩
        simp only [nth_snoc (show n < (mcK b c m k).1.length + 1 by omega), mv_app, hl, if_pos h1]
        exact ⟨h2, h3⟩
      · exact ⟨n, h1, h2, h3⟩
    · have : p = k := by omega
      subst this
      rw [if_pos (by omega)]
      refine ⟨(mcK b c m p).1.length, by simp, ?_⟩
      simp only [nth_snoc (Nat.lt_succ_self _), mv_app, hl, if_neg (Nat.lt_irrefl _), if_true, hj]
      exact ⟨trivial, rfl⟩
theorem far_zero : farM ((0 : Nat) : Int) = [(0, 0)] := by decide +kernel
theorem far_first : mv (farM ((1 : Nat) : Int)) 0 = (0, 0) ∧ 0 < (farM ((1 : Nat) : Int)).length ∧ ∀ j, j < (farM ((1 : Nat) : Int)).length → -1 ≤ (mv (farM ((1 : Nat) : Int)) j).1 ∧ (mv (farM ((1 : Nat) : Int)) j).1 ≤ 1 ∧ -1 ≤ (mv (farM ((1 : Nat) : Int)) j).2 ∧ (mv (farM ((1 : Nat) : Int)) j).2 ≤ 1 := by decide +kernel
theorem mcJ_zero {b c : List (List Int)} {p : Nat} (h : cpP b c (0, 0) p = true) : mcJ b c 0 p = 0 ∧ mcJ b c 1 p = 0 := by
  constructor
  · exact findN_some (i := 0) (by rw [far_zero]; decide) (fun j hj => by omega) (by rw [far_zero]; exact h)
  · exact findN_some (i := 0) far_first.2.1 (fun j hj => by omega) (by rw [far_first.1]; exact h)
/- Small functions. -/
theorem call95 {pu : Bool} {H : Heap} {a b : List Int} (ha : VF a) (hb : VF b) : Call tab pu 95 [iv .u16 a, iv .u16 b] H = some (tup [.int .i64 (difF a b), .int .i64 0], H) := by
  refine Call_wp t95 (.inr rfl) rfl ?_
  obtain ⟨H1, hH1⟩ : ∃ H1, H1 = H ++ [(⟨cs .u16 a, 1, 0, false⟩ : Blk)] := ⟨_, rfl⟩
  obtain ⟨H2, hH2⟩ : ∃ H2, H2 = H1 ++ [(⟨cs .u16 b, 1, 0, false⟩ : Blk)] := ⟨_, rfl⟩
  have p1 : Pre H H1 := by rw [hH1]; exact Pre.one
  have p2 : Pre H1 H2 := by rw [hH2]; exact Pre.one
  have r1 : rd H2 H.length 0 0 12 = some (cs .u16 a) := p2.rd (by rw [hH1]; exact rd_last rfl (by simp [ha.W.len]))
  have r2 : rd H2 H1.length 0 0 12 = some (cs .u16 b) := by rw [hH2]; exact rd_last rfl (by simp [hb.W.len])
  simp [c95, k95, ha.W.len, hb.W.len, ← hH1, ← hH2, call327 ha hb r1 r2, call325 ha.W.len hb.W.len r1 r2, (p1.trans p2).take]
theorem call125 {pu : Bool} {H : Heap} {a b : List Int} (ha : VF a) (hb : VF b) : Call tab pu 125 [iv .u16 a, iv .u16 b] H = some (tup [.int .i64 (difF a b), .int .i64 0], H) := by
  refine Call_wp t125 (.inr rfl) rfl ?_
  have hc := two351 (H := H) ha.W hb.W
  obtain ⟨G, hG⟩ : ∃ G, G = H ++ [(⟨bkC [a, b], 12, 0, false⟩ : Blk)] := ⟨_, rfl⟩
  have p1 : Pre H G := by rw [hG]; exact Pre.one
  rw [← hG, ha.ok, hb.ok] at hc
  have hf := fill_two ha.W.len hb.W.len
  simp [c125, k125, ha.W.len, hb.W.len, zs_cs, hf, ← hG, hc, call324 ha.W hb.W ha.ok hb.ok, p1.take]
theorem call130 {pu : Bool} {G : Heap} {x y : Value} {l : List Int} (hx : SlR G x 1 l.length (cs .i64 l)) (hy : SlR G y 1 l.length (cs .i64 l)) (hn : l.length ≤ 1000000) : Call tab pu 130 [x, y] G = some (.bool true, G) := by
  refine Call_wp t130 (.inr rfl) rfl ?_
  simp [c130, k130, call356 hx hy hn]
theorem eqMvV {a : Int × Int} : eqV (.a (rb 2 (some .i8))) (agg (mvC a)) (agg (mvC a)) = some true := by
  simp [eqV, agg, mvC, rb, eqCells]
theorem call131 {pu : Bool} {G : Heap} {x y : Value} {l : ML} (hx : SlR G x 2 l.length (mvsC l)) (hy : SlR G y 2 l.length (mvsC l)) (hn : l.length ≤ 1000000) : Call tab pu 131 [x, y] G = some (.bool true, G) := by
  refine Call_wp t131 (.inr rfl) rfl ?_
  simp [c131, k131, hx.lenV, hy.lenV]
  refine WP_forH 5 l.length _ rfl (by omega) (fun i e => e 0 = x ∧ e 1 = y) ?_ ?_ (by simp) (by simp)
  · rintro i e hi hii e4 h5 ⟨h0, h1⟩
    obtain ⟨q, off, ver, ha, hr⟩ := hx.get1 hi
    obtain ⟨q', off', ver', ha', hr'⟩ := hy.get1 hi
    rw [mvsC_elem hi] at hr hr'
    have q1 := eqMvV (a := mv l i)
    simp only [mvC] at hr hr' q1
    simp [b131_1, h5, h0, h1, hii, hx.lenV, ha, hr, ha', hr', q1, e4]
  · rintro e h5 ⟨h0, h1⟩
    simp [b131_1, h5, h0, hx.lenV]
theorem call132 {pu : Bool} {H : Heap} {f : List Int} {dx dy : Int} (hf : VF f) (hx : -12 ≤ dx ∧ dx ≤ 12) (hy : -12 ≤ dy ∧ dy ≤ 12) : Call tab pu 132 [iv .u16 f, .int .i64 dx, .int .i64 dy] H = some (tup [iv .u16 (shF f dx dy), .int .i64 0], H) := by
  have c1 : ∀ pu, Call tab pu 357 [iv .u16 f, .int .i64 dx, .int .i64 dy] H = some (.int .i64 0, H) := fun pu => by
    refine Call_wp t357 (.inr rfl) rfl ?_
    simp [c357, k357, hf.W.len, call234 hf.W.len, hf.ok, call295, hx, hy]
  refine Call_wp t132 (.inr rfl) rfl ?_
  have c2 := call358 (pu := true) (H := H) (dx := dx) (dy := dy) hf.W hf.ok (by omega) (by omega)
  have s3 := stc_zr (k := .u16) (n := 12) (l := shF f dx dy) shF_length
  simp [c132, k132, hf.W.len, c1, c2, zs_cs, agg_cs, shF_length, s3]
/-- What is left of a text behind some of its parts. -/
def tailC : Nat → Cd → Cd
  | 0, c => c
  | n + 1, .seq _ b => tailC n b
  | _, c => c
def anB (p : Nat → Bool) (n : Nat) : Bool := anyN p n
theorem anB_succ {p : Nat → Bool} {n : Nat} : anB p (n + 1) = (anB p n || p n) := by
  unfold anB anyN; rw [List.range_succ, List.any_append]; simp
theorem anB_true {p : Nat → Bool} {n i : Nat} (hi : i < n) (h : p i = true) : anB p n = true := by
  unfold anB anyN; exact List.any_eq_true.2 ⟨i, by simpa using hi, h⟩
/-- What ends a law well. -/
def QL (n0 : Nat) (H : Heap) : Ex → Env → Heap → Prop := fun x e' H' => (∀ i, x ≠ .exit i) ∧ (resVs e' H' [.t 4]).map (finish n0 H') = some (.bool true, H)
theorem eqMv0 {w : Int × Int} : eqV (.a (rb 2 (some .i8))) (agg (mvC w)) (agg [.int .i8 0, .int .i8 0]) = some (decide (w = (0, 0))) := by
  obtain ⟨a, b⟩ := w
  by_cases h1 : a = 0
  · by_cases h2 : b = 0
    · simp [eqV, agg, mvC, rb, eqCells, h1, h2]
    · simp [eqV, agg, mvC, rb, eqCells, h1, h2]
  · simp [eqV, agg, mvC, rb, eqCells, h1]
structure C1 (G : Heap) (x cx l1 l2 l3 : Value) (b c : List (List Int)) (frm : Nat) : Prop where
  bk : Bk G x b
  ck : Bk G cx c
  Vb : ∀ f ∈ b, VF f
  nb : b.length ≤ 1000
  c1 : 1 ≤ c.length
  cb : frm + c.length ≤ b.length
  sub : ∀ i, i < c.length → fr c i = fr b (frm + i)
  s1 : SlR G l1 1 (mcK b c 0 (mcN b c)).1.length (cs .i64 (mcK b c 0 (mcN b c)).1)
  s2 : SlR G l2 1 (mcK b c 1 (mcN b c)).1.length (cs .i64 (mcK b c 1 (mcN b c)).1)
  s3 : SlR G l3 2 (mcK b c 1 (mcN b c)).1.length (mvsC (mcK b c 1 (mcN b c)).2)
theorem C1.V {G : Heap} {x cx l1 l2 l3 : Value} {b c : List (List Int)} {frm : Nat} (h : C1 G x cx l1 l2 l3 b c frm) {i : Nat} (hi : i < c.length) : VF (fr c i) := by
  rw [h.sub i hi]
  have := h.cb
  exact h.Vb _ (at0_mem (by omega))
theorem C1.cw {G : Heap} {x cx l1 l2 l3 : Value} {b c : List (List Int)} {frm : Nat} (h : C1 G x cx l1 l2 l3 b c frm) : BkW c := fun f hf => by
  obtain ⟨i, hi, rfl⟩ := List.getElem_of_mem hf
  have e : fr c i = c[i] := Option.some.inj ((at0_get hi).symm.trans (List.getElem?_eq_getElem hi))
  rw [← e]; exact (h.V hi).W
theorem still_V {f : List Int} (h : VF f) : shF f 0 0 = f := shF_still h.W h.ok
/-- Copies, as told: at p, where all pages are the same. -/
theorem C1.own {G : Heap} {x cx l1 l2 l3 : Value} {b c : List (List Int)} {frm : Nat} (h : C1 G x cx l1 l2 l3 b c frm) {k : Nat} (hk : k < (mcK b c 0 (mcN b c)).1.length) :
    ∃ p : Nat, nth (mcK b c 0 (mcN b c)).1 k = p ∧ p + c.length ≤ b.length ∧ ∃ n, n < (mcK b c 1 (mcN b c)).1.length ∧ nth (mcK b c 1 (mcN b c)).1 n = p ∧ mv (mcK b c 1 (mcN b c)).2 n = (0, 0) := by
  obtain ⟨p, j, h1, h2, h3, h4, h5⟩ := mcK_get k hk
  have hj : j = 0 := by rw [far_zero] at h3; simp at h3; exact h3
  subst hj
  rw [far_zero] at h5
  have hc : cpP b c (0, 0) p = true := h5
  have hp : p + c.length ≤ b.length := by
    have := h.cb
    unfold mcN at h1; omega
  obtain ⟨n, n1, n2, n3⟩ := mcK_has (j := 0) h1 (mcJ_zero hc).2
  rw [far_first.1] at n3
  exact ⟨p, h2, hp, n, n1, n2, n3⟩
theorem C1.found {G : Heap} {x cx l1 l2 l3 : Value} {b c : List (List Int)} {frm : Nat} (h : C1 G x cx l1 l2 l3 b c frm) : ∃ k, k < (mcK b c 0 (mcN b c)).1.length ∧ nth (mcK b c 0 (mcN b c)).1 k = frm := by
  have hcp : cpP b c (0, 0) frm = true := allN_true fun i hi => by
    rw [decide_eq_true_eq, still_V (h.V hi), h.sub i hi]
  have := h.cb
  obtain ⟨n, n1, n2, _⟩ := mcK_has (b := b) (c := c) (m := 0) (k := mcN b c) (p := frm) (j := 0) (by unfold mcN; omega) (mcJ_zero hcp).1
  exact ⟨n, n1, n2⟩
theorem C1.moved {G : Heap} {x cx l1 l2 l3 : Value} {b c : List (List Int)} {frm : Nat} (h : C1 G x cx l1 l2 l3 b c frm) {n : Nat} (hn : n < (mcK b c 1 (mcN b c)).1.length) :
    ∃ p : Nat, nth (mcK b c 1 (mcN b c)).1 n = p ∧ p < b.length ∧ (-1 ≤ (mv (mcK b c 1 (mcN b c)).2 n).1 ∧ (mv (mcK b c 1 (mcN b c)).2 n).1 ≤ 1) ∧ (-1 ≤ (mv (mcK b c 1 (mcN b c)).2 n).2 ∧ (mv (mcK b c 1 (mcN b c)).2 n).2 ≤ 1) ∧
      shF (fr c 0) (mv (mcK b c 1 (mcN b c)).2 n).1 (mv (mcK b c 1 (mcN b c)).2 n).2 = fr b p := by
  obtain ⟨p, j, h1, h2, h3, h4, h5⟩ := mcK_get n hn
  have hr := far_first.2.2 j h3
  have hc := h.c1
  have := h.cb
  have e := allN_get (p := fun i => decide (fr b (p + i) = shF (fr c i) (mv (farM ((1 : Nat) : Int)) j).1 (mv (farM ((1 : Nat) : Int)) j).2)) h5 (i := 0) hc
  rw [decide_eq_true_eq, Nat.add_zero] at e
  rw [h4]
  exact ⟨p, h2, by unfold mcN at h1; omega, ⟨hr.1, hr.2.1⟩, ⟨hr.2.2.1, hr.2.2.2⟩, e.symm⟩
end Fb
