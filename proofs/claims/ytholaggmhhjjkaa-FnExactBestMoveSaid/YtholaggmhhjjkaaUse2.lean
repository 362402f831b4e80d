/- What each function computes. -/
import Derived.Test.YtholaggmhhjjkaaUse1
set_option linter.unusedVariables false
set_option linter.unusedSimpArgs false
namespace Fb
open Go
theorem call370 {pu : Bool} {H : Heap} {x : Value} {f g : List Int} {ms : ML} (hw : FrW f) (hk : okF f = true) (hwg : FrW g) (hkg : okF g = true) (hx : SlR H x 2 ms.length (mvsC ms)) (hn : 1 ≤ ms.length) (hn9 : ms.length ≤ 1000) (hs : ∀ i, i < ms.length → smallM (mv ms i) = true) (h00 : mv ms 0 = (0, 0)) :
    Call tab pu 370 [iv .u16 f, iv .u16 g, x] H = some (tup [agg (mvC (bsM f g ms (ms.length - 1)).1), .int .i64 (bsM f g ms (ms.length - 1)).2], H) := by
  refine Call_wp t370 (.inr rfl) rfl ?_
  obtain ⟨q, off, ver, ha, hr⟩ := hx.get1 (i := 0) (by omega)
  rw [mvsC_elem (by omega), h00] at hr
  obtain ⟨y, hy, hY⟩ := hx.lo (lo := 1) (k' := .i64) hn
  have hc := call514 (pu := true) (H := H) hw hk (hs 0 (by omega))
  rw [h00, shF_zero hw hk] at hc
  have hd := call324 (pu := true) (H := H) hw hwg hk hkg
  simp at ha hy
  simp [c370, k370, ha, hr, hw.len, hwg.len, hc, hd, stM, stM2, ldM, mvC_len, hy, hY.lenV]
  refine WP_forH 26 (ms.length - 1) ((ms.length - 1 : Nat) : Int) rfl (by omega) (fun i e => e 3 = iv .u16 f ∧ e 4 = iv .u16 g ∧ e 24 = y ∧ e 25 = .int .i64 ((ms.length - 1 : Nat) : Int) ∧ e 6 = agg [.int .i8 0, .int .i8 0] ∧ e 8 = agg (mvC (bsM f g ms i).1) ∧ e 9 = .int .i64 (bsM f g ms i).2) ?_ ?_ (by simp) (by simp [bsM_zero])
  · rintro i e hi hii e4 h26 ⟨h3, h4, h24, h25, h6, h8, h9⟩
    have hi1 : i + 1 < ms.length := by omega
    obtain ⟨q2, off2, ver2, ha2, hr2⟩ := hY.get1 (i := i) hi
    have hel : elem ((mvsC ms).drop (1 * 2)) 2 i = mvC (mv ms (i + 1)) := by rw [elem_drop, Nat.add_comm, mvsC_elem hi1]
    rw [hel] at hr2
    have hsm := hs _ hi1
    have hsu := bsM_succ (f := f) (g := g) (ms := ms) (i := i)
    have hc2 := call514 (pu := true) (H := H) hw hk hsm
    have hd2 := call324 (pu := true) (H := H) (a := shF f (mv ms (i + 1)).1 (mv ms (i + 1)).2) dotsF_W hwg dotsF_ok hkg
    generalize bsM f g ms i = t at *
    have hsl : (shF f (mv ms (i + 1)).1 (mv ms (i + 1)).2).length = 12 := shF_length
    generalize shF f (mv ms (i + 1)).1 (mv ms (i + 1)).2 = F at *
    by_cases hlt : difF F g < t.2
    · rw [if_pos hlt] at hsu
      simp [b370_1, h26, h3, h4, h24, h25, h6, h8, h9, hii, ha2, hr2, stM, stM2, ldM, mvC_len, hw.len, hwg.len, hc2, hd2, hlt, hsu, e4]
    · rw [if_neg hlt] at hsu
      simp [b370_1, h26, h3, h4, h24, h25, h6, h8, h9, hii, ha2, hr2, stM, stM2, ldM, mvC_len, hw.len, hwg.len, hc2, hd2, hlt, hsu, e4]
  · rintro e h26 ⟨h3, h4, h24, h25, h6, h8, h9⟩
    simp [b370_1, h26, h25, h6, h8, h9, stM, stM2, ldM, mvC_len, fin_mi]
theorem call372 {pu : Bool} {H : Heap} {P Q o o' v v' m : Nat} {f g : List Int} (hw : FrW f) (hwg : FrW g) (h1 : rd H P o v 12 = some (cs .u16 f)) (h2 : rd H Q o' v' 12 = some (cs .u16 g)) (hm : m ≤ 4) :
    Call tab pu 372 [adr P o v, adr Q o' v', .int .i64 (m : Int)] H = some (tup [agg (mvC (bsM f g (farM m) ((farM m).length - 1)).1), .int .i64 (bsM f g (farM m) ((farM m).length - 1)).2], H) := by
  refine Call_wp t372 (.inr rfl) rfl ?_
  obtain ⟨hs, hn, hn9, h00⟩ := farM_ok hm
  have h354 := call354 (pu := true) (H := H) hm
  obtain ⟨ms, hms⟩ : ∃ ms, ms = farM m := ⟨_, rfl⟩
  rw [← hms] at hs hn hn9 h00 h354 ⊢
  obtain ⟨G1, hG1⟩ : ∃ G1, G1 = H ++ [(⟨mvsC ms, 2, 0, false⟩ : Blk)] := ⟨_, rfl⟩
  rw [← hG1] at h354
  have p1 : Pre H G1 := by rw [hG1]; exact Pre.one
  have hx : SlR G1 (slc H.length 0 0 ms.length ms.length) 2 ms.length (mvsC ms) := by
    rw [hG1]
    exact (own_new (H := H) (esz := 2) (n := ms.length) (vs := mvsC ms) (by rw [mvsC_length])).sl
  have hd := call325 (pu := true) hw.len hwg.len (p1.rd h1) (p1.rd h2)
  have hfz : fill [.int .i8 0, .int .i8 0] [] = some (mvC (0, 0)) := rfl
  simp [c372, k372, h354, hfz, stM, stM2, ldM, mvC_len, hd]
  refine WP_from 11 1 ms.length _ rfl (fun i e G => e 0 = adr P o v ∧ e 1 = adr Q o' v' ∧ e 8 = slc H.length 0 0 ms.length ms.length ∧ e 6 = agg [.int .i8 0, .int .i8 0] ∧ e 9 = agg (mvC (bsM f g ms (i - 1)).1) ∧ e 10 = .int .i64 (bsM f g ms (i - 1)).2 ∧ Pre G1 G) (by omega) hn ?_ ?_ (by simp) ⟨by simp, by simp, by simp, by simp, by simp [bsM_zero], by simp [bsM_zero], .refl⟩
  · rintro i e G h1i hi hii e4 h11 ⟨h0, h1e, h8, h6, h9, h10, pG⟩
    obtain ⟨k, rfl⟩ : ∃ k, i = k + 1 := ⟨i - 1, by omega⟩
    obtain ⟨q2, off2, ver2, ha2, hr2⟩ := (hx.pre pG).get1 hi
    rw [mvsC_elem hi] at hr2
    have hsm := hs _ hi
    obtain ⟨b1, b2⟩ := smallM_ok hsm
    have hsu := bsM_succ (f := f) (g := g) (ms := ms) (i := k)
    rw [show k + 1 - 1 = k from rfl] at h9 h10
    rw [show k + 1 + 1 - 1 = k + 1 from rfl]
    have w1 : IntKind.wrap .i64 (mv ms (k + 1)).1 = (mv ms (k + 1)).1 := wrap64 (by omega)
    have w2 : IntKind.wrap .i64 (mv ms (k + 1)).2 = (mv ms (k + 1)).2 := wrap64 (by omega)
    have hr2' := hr2
    have r0 := rd_part hr2 (o := 0) (m := 1) (by omega)
    have r1 := rd_part hr2 (o := 1) (m := 1) (by omega)
    simp [mvC] at r0 r1
    obtain ⟨Ga, hGa⟩ : ∃ Ga, Ga = G ++ [(⟨cs .u16 (zr 12 0), 1, 0, false⟩ : Blk)] := ⟨_, rfl⟩
    have pa : Pre G Ga := by rw [hGa]; exact Pre.one
    have pHa := (p1.trans pG).trans pa
    have h355 := call355 (pu := true) (H := Ga) (dx := (mv ms (k + 1)).1) (dy := (mv ms (k + 1)).2) hw (pHa.rd h1) (by omega) (by omega)
    generalize bsM f g ms k = t at *
    have hFW : FrW (shF f (mv ms (k + 1)).1 (mv ms (k + 1)).2) := dotsF_W
    generalize shF f (mv ms (k + 1)).1 (mv ms (k + 1)).2 = F at *
    obtain ⟨Gb, hGb⟩ : ∃ Gb, Gb = G ++ [(⟨cs .u16 F, 1, 0, false⟩ : Blk)] := ⟨_, rfl⟩
    have hwr : wr H.length false Ga G.length 0 0 (cs .u16 F) = some Gb := by
      rw [hGa, wr_last (b := ⟨cs .u16 (zr 12 0), 1, 0, false⟩) rfl rfl (p1.trans pG).len (by simp [hFW.len]), hGb]
    have pb : Pre G Gb := by rw [hGb]; exact Pre.one
    have rF : rd Gb G.length 0 0 12 = some (cs .u16 F) := by rw [hGb]; exact rd_last rfl (by simp [hFW.len])
    have hd2 := call325 (pu := true) hFW.len hwg.len rF (((p1.trans pG).trans pb).rd h2)
    have hidx : ((k + 1 : Nat) : Int) = (k : Int) + 1 := by omega
    by_cases hlt : difF F g < t.2
    · rw [if_pos hlt] at hsu
      simp [b372_1, h11, h0, h1e, h8, h6, h9, h10, hii, ha2, r0, r1, hr2, pb.rd hr2, w1, w2, ← hGa, zs_cs, h355, hwr, hFW.len, hd2, hlt, stM2, mvC_len, e4, hsu, wbOf, -idxAV_slc, -Int.natCast_add]
      exact pG.trans pb
    · rw [if_neg hlt] at hsu
      simp [b372_1, h11, h0, h1e, h8, h6, h9, h10, hii, ha2, r0, r1, hr2, pb.rd hr2, w1, w2, ← hGa, zs_cs, h355, hwr, hFW.len, hd2, hlt, stM2, mvC_len, e4, hsu, wbOf, -idxAV_slc, -Int.natCast_add]
      exact pG.trans pb
  · rintro e G h11 ⟨h0, h1e, h8, h6, h9, h10, pG⟩
    simp [b372_1, h11, h8, h6, h9, h10, stM, stM2, ldM, mvC_len, fin_mi, (p1.trans pG).take]
theorem fill_two {f g : List Int} (hw : f.length = 12) (hwg : g.length = 12) : fill (rep 2 (cs .u16 (zr 12 0))) [(0, 12, iv .u16 f), (12, 12, iv .u16 g)] = some (bkC [f, g]) := by
  have l1 : (cs .u16 f).length = 12 := by simp [hw]
  have l2 : (cs .u16 g).length = 12 := by simp [hwg]
  have lz : (cs .u16 (zr 12 0)).length = 12 := by simp
  have e0 : rep 2 (cs .u16 (zr 12 0)) = cs .u16 (zr 12 0) ++ cs .u16 (zr 12 0) := by simp [rep]
  rw [e0]
  generalize cs IntKind.u16 (zr 12 0) = Z at *
  show (if (cs .u16 f).length = 12 ∧ 0 + 12 ≤ (Z ++ Z).length then fill (splice (Z ++ Z) 0 (cs .u16 f)) [(12, 12, iv .u16 g)] else none) = _
  rw [if_pos ⟨l1, by simp [lz]⟩]
  have e1 : splice (Z ++ Z) 0 (cs .u16 f) = cs .u16 f ++ Z := by
    unfold splice
    rw [l1, List.take_zero, List.nil_append, List.drop_append_of_le_length (by omega), List.drop_eq_nil_of_le (by omega), List.nil_append]
  rw [e1]
  show (if (cs .u16 g).length = 12 ∧ 12 + 12 ≤ (cs .u16 f ++ Z).length then fill (splice (cs .u16 f ++ Z) 12 (cs .u16 g)) [] else none) = _
  rw [if_pos ⟨l2, by simp [lz, hw]⟩]
  have e2 : splice (cs .u16 f ++ Z) 12 (cs .u16 g) = cs .u16 f ++ cs .u16 g := by
    unfold splice
    rw [l2, List.take_append_of_le_length (by omega), List.take_of_length_le (by omega), List.drop_eq_nil_of_le (by simp [lz, hw]), List.append_nil]
  rw [e2]
  simp [fill, bkC, rowsC, frC]
/-- Two frames in a list of their own, held against the rule. -/
theorem two351 {H : Heap} {f g : List Int} (hw : FrW f) (hwg : FrW g) : Call tab true 351 [slc H.length 0 0 2 2] (H ++ [⟨bkC [f, g], 12, 0, false⟩]) = some (.bool (okF f && okF g), H ++ [⟨bkC [f, g], 12, 0, false⟩]) := by
  have hBW : BkW [f, g] := by
    intro x hx
    rcases List.mem_cons.1 hx with rfl | hx
    · exact hw
    · rcases List.mem_cons.1 hx with rfl | hx
      · exact hwg
      · cases hx
  have hbk : Bk (H ++ [⟨bkC [f, g], 12, 0, false⟩]) (slc H.length 0 0 2 2) [f, g] := (own_new (H := H) (esz := 12) (n := 2) (vs := bkC [f, g]) (by rw [bkC_length hBW]; rfl)).sl
  have hc := call351 (pu := true) hbk hBW (by simp)
  have hok : okFs [f, g] = (okF f && okF g) := by simp [okFs]
  rw [hok] at hc
  exact hc
def bmC (f g : List Int) (m : Int) : Int := if (okF f && okF g) = true then if in1 m 0 4 = true then 0 else 2 else 1
def bmM (f g : List Int) (m : Int) : (Int × Int) × Int := if bmC f g m = 0 then bsM f g (farM m) ((farM m).length - 1) else ((0, 0), 0)
def bmR (f g : List Int) (m : Int) : Value := tup [agg (mvC (bmM f g m).1), .int .i64 (bmM f g m).2, .int .i64 (bmC f g m)]
theorem call369 {pu : Bool} {H : Heap} {m : Int} : Call tab pu 369 [.int .i64 m] H = some (.bool (in1 m 0 4), H) := by
  refine Call_wp t369 (.inr rfl) rfl ?_
  simp [c369, k369, in295]
theorem call353 {pu : Bool} {H : Heap} {m : Int} : Call tab pu 353 [.int .i64 m] H = some (.bool (in1 m 0 4), H) := by
  refine Call_wp t353 (.inr rfl) rfl ?_
  simp [c353, k353, in304]
theorem in1_nat {m : Int} (h : in1 m 0 4 = true) : ∃ n : Nat, m = n ∧ n ≤ 4 := by
  simp [in1] at h
  obtain ⟨n, rfl⟩ := Int.eq_ofNat_of_zero_le h.1
  exact ⟨n, rfl, by omega⟩
theorem call148 {pu : Bool} {H : Heap} {f g : List Int} {m : Int} (hw : FrW f) (hwg : FrW g) : Call tab pu 148 [iv .u16 f, iv .u16 g, .int .i64 m] H = some (bmR f g m, H) := by
  refine Call_wp t148 (.inr rfl) rfl ?_
  have hc := two351 (H := H) hw hwg
  obtain ⟨G, hG⟩ : ∃ G, G = H ++ [(⟨bkC [f, g], 12, 0, false⟩ : Blk)] := ⟨_, rfl⟩
  rw [← hG] at hc
  have pG : Pre H G := by rw [hG]; exact Pre.one
  have hfz : fill [.int .i8 0, .int .i8 0] [] = some (mvC (0, 0)) := rfl
  cases k1 : okF f && okF g with
  | false =>
    have hC : bmC f g m = 1 := by simp only [bmC, k1]; rfl
    simp [c148, k148, hw.len, hwg.len, zs_cs, fill_two hw.len hwg.len, ← hG, hc, k1, hfz, stM, ldM, mvC_len, fin_mii, pG.take, bmR, bmM, hC]
  | true =>
    cases k2 : in1 m 0 4 with
    | false =>
      have hC : bmC f g m = 2 := by simp only [bmC, k1, k2]; rfl
      simp [c148, k148, hw.len, hwg.len, zs_cs, fill_two hw.len hwg.len, ← hG, hc, k1, call369, k2, hfz, stM, ldM, mvC_len, fin_mii, pG.take, bmR, bmM, hC]
    | true =>
      have hC : bmC f g m = 0 := by simp only [bmC, k1, k2]; rfl
      simp only [Bool.and_eq_true] at k1
      obtain ⟨n, rfl, hn⟩ := in1_nat k2
      obtain ⟨hs, h1, h9, h00⟩ := farM_ok hn
      have h371 := call371 (pu := true) (H := G) hn
      obtain ⟨ms, hms⟩ : ∃ ms, ms = farM n := ⟨_, rfl⟩
      rw [← hms] at hs h1 h9 h00 h371
      obtain ⟨G1, hG1⟩ : ∃ G1, G1 = G ++ [(⟨mvsC ms, 2, 0, false⟩ : Blk)] := ⟨_, rfl⟩
      rw [← hG1] at h371
      have p1 : Pre G G1 := by rw [hG1]; exact Pre.one
      have hx : SlR G1 (slc G.length 0 0 ms.length ms.length) 2 ms.length (mvsC ms) := by
        rw [hG1]
        exact (own_new (H := G) (esz := 2) (n := ms.length) (vs := mvsC ms) (by rw [mvsC_length])).sl
      have h370 := call370 (pu := true) hw k1.1 hwg k1.2 hx h1 h9 hs h00
      have hB : bmM f g n = bsM f g ms (ms.length - 1) := by rw [bmM, if_pos hC, hms]
      simp [c148, k148, hw.len, hwg.len, zs_cs, fill_two hw.len hwg.len, ← hG, hc, k1, call369, k2, h371, h370, stM, ldM, mvC_len, fin_mii, (pG.trans p1).take, bmR, hB, hC]
theorem call149 {pu : Bool} {H : Heap} {f g : List Int} {m : Int} (hw : FrW f) (hwg : FrW g) : Call tab pu 149 [iv .u16 f, iv .u16 g, .int .i64 m] H = some (bmR f g m, H) := by
  refine Call_wp t149 (.inr rfl) rfl ?_
  obtain ⟨G, hG⟩ : ∃ G, G = H ++ [(⟨cs .u16 f, 1, 0, false⟩ : Blk), ⟨cs .u16 g, 1, 0, false⟩] := ⟨_, rfl⟩
  have hGG : G = H ++ [(⟨cs .u16 f, 1, 0, false⟩ : Blk)] ++ [⟨cs .u16 g, 1, 0, false⟩] := by rw [hG]; simp
  have hP : Pre H G := by rw [hGG]; exact Pre.one.app
  have r1 : rd G H.length 0 0 12 = some (cs .u16 f) := by rw [hGG]; exact rd_app (rd_last rfl (by simp [hw.len]))
  have r2 : rd G (H.length + 1) 0 0 12 = some (cs .u16 g) := by
    have := rd_last (H := H ++ [(⟨cs .u16 f, 1, 0, false⟩ : Blk)]) (b := ⟨cs .u16 g, 1, 0, false⟩) (n := 12) rfl (by simp [hwg.len])
    rw [← hGG, List.length_append] at this
    exact this
  have c1 := call359 (pu := true) hw.len r1
  have c2 := call359 (pu := true) hwg.len r2
  have c3 : Call tab true 327 [adr H.length 0 0, adr (H.length + 1) 0 0] G = some (.int .i64 (if (okF f && okF g) = true then 0 else 1), G) := by
    refine Call_wp t327 (.inr rfl) rfl ?_
    cases k1 : okF f with
    | false => simp [c327, k327, c1, k1, skip]
    | true =>
      cases k2 : okF g with
      | false => simp [c327, k327, c1, k1, c2, k2]
      | true => simp [c327, k327, c1, k1, c2, k2]
  have hfz : fill [.int .i8 0, .int .i8 0] [] = some (mvC (0, 0)) := rfl
  cases k1 : okF f && okF g with
  | false =>
    have hC : bmC f g m = 1 := by simp only [bmC, k1]; rfl
    rw [k1, if_neg (by decide)] at c3
    simp [c149, k149, hw.len, hwg.len, ← hG, c3, hfz, stM, ldM, mvC_len, fin_mii, hP.take, bmR, bmM, hC]
  | true =>
    rw [k1, if_pos rfl] at c3
    cases k2 : in1 m 0 4 with
    | false =>
      have hC : bmC f g m = 2 := by simp only [bmC, k1, k2]; rfl
      simp [c149, k149, hw.len, hwg.len, ← hG, c3, call353, k2, hfz, stM, ldM, mvC_len, fin_mii, hP.take, bmR, bmM, hC]
    | true =>
      have hC : bmC f g m = 0 := by simp only [bmC, k1, k2]; rfl
      obtain ⟨n, rfl, hn⟩ := in1_nat k2
      have h372 := call372 (pu := true) hw hwg r1 r2 hn
      have hB : bmM f g n = bsM f g (farM n) ((farM n).length - 1) := by rw [bmM, if_pos hC]
      simp [c149, k149, hw.len, hwg.len, ← hG, c3, call353, k2, h372, stM, ldM, mvC_len, fin_mii, hP.take, bmR, hB, hC]
theorem call34 {H : Heap} {f g : List Int} {m : Int} (hw : FrW f) (hwg : FrW g) : Call tab false 34 [iv .u16 f, iv .u16 g, .int .i64 m] H = some (.bool true, H) := by
  refine Call_wp t34 (.inl rfl) rfl ?_
  have h1 := call149 (pu := true) (H := H) (m := m) hw hwg
  have h2 := call148 (pu := true) (H := H) (m := m) hw hwg
  unfold bmR at h1 h2
  simp [c34, k34, hw.len, hwg.len, call134, h1, h2, stM, ldM, mvC_len, call188]
end Fb
