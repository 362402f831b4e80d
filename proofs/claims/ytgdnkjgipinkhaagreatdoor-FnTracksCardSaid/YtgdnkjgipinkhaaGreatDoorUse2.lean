/- What each function computes. -/
import Derived.Test.YtgdnkjgipinkhaaGreatDoorUse1
set_option linter.unusedVariables false
set_option linter.unusedSimpArgs false
namespace Fb
open Go
theorem szI_max {a : Int} : (if -a < a then a else -a) = szI a := by unfold szI; split <;> split <;> omega
theorem call510 {pu : Bool} {H : Heap} {a : Int × Int} (h : smallM a = true) : Call tab pu 510 [agg (mvC a)] H = some (.int .i64 (mkey a), H) := by
  refine Call_wp t510 (.inr rfl) rfl ?_
  obtain ⟨h1, h2⟩ := smallM_ok h
  have w1 : IntKind.wrap .i64 a.1 = a.1 := wrap64 (by omega)
  have w2 : IntKind.wrap .i64 a.2 = a.2 := wrap64 (by omega)
  have w4 : IntKind.wrap .i64 (-a.1) = -a.1 := wrap64 (by omega)
  have w5 : IntKind.wrap .i64 (-a.2) = -a.2 := wrap64 (by omega)
  have z1 := szI_ok (a := a.1) (by omega)
  have z2 := szI_ok (a := a.2) (by omega)
  have w3 : IntKind.wrap .i64 (szI a.1 + szI a.2) = mkey a := by rw [wrap64 (by omega)]; rfl
  have c1 := call549 (pu := true) (H := H) (a := a.1) (b := -a.1)
  have c2 := call549 (pu := true) (H := H) (a := a.2) (b := -a.2)
  rw [szI_max] at c1 c2
  simp [c510, k510, mvC, ldc, w1, w2, w4, w5, c1, c2, w3]
/-- The moves, nearest first, while they are being gathered. -/
def farD (m d : Nat) : ML := (List.range d).flatMap fun (d : Nat) => (gridM m).filter fun a => decide (mkey a = d)
def farP (m d k : Nat) : ML := farD m d ++ (gridK m k).filter fun a => decide (mkey a = d)
theorem farP_zero {m d : Nat} : farP m d 0 = farD m d := by simp [farP, gridK]
theorem farP_succ {m d k : Nat} : farP m d (k + 1) = if mkey (grE m k) = d then farP m d k ++ [grE m k] else farP m d k := by
  unfold farP
  rw [gridK_succ, List.filter_append]
  by_cases h : mkey (grE m k) = d
  · rw [if_pos h]; simp [h]
  · rw [if_neg h]; simp [h]
theorem farP_all {m d : Nat} (hm : m ≤ 4) : farP m d ((2 * m + 1) * (2 * m + 1)) = farD m (d + 1) := by
  unfold farP farD
  rw [gridK_all m (by omega), List.range_succ, List.flatMap_append]; simp
theorem farD_all {m : Nat} : farD m (2 * m + 1) = farM m := by
  unfold farD farM
  have : (2 * (m : Int) + 1).toNat = 2 * m + 1 := by omega
  rw [this]
theorem farP_len {m d k : Nat} (hm : m ≤ 4) (hd : d ≤ 2 * m) (hk : k ≤ (2 * m + 1) * (2 * m + 1)) : (farP m d k).length ≤ 1000 := by
  have hN : 2 * m + 1 ≤ 9 := by omega
  have h0 : (2 * m + 1) * (2 * m + 1) ≤ 81 := Nat.mul_le_mul hN hN
  have h1 : ∀ d, d ≤ 9 → (farD m d).length ≤ d * 81 := by
    intro d
    induction d with
    | zero => intro _; simp [farD]
    | succ d ih =>
      intro hd
      have := ih (by omega)
      have e : farD m (d + 1) = farD m d ++ (gridM m).filter fun a => decide (mkey a = d) := by unfold farD; rw [List.range_succ, List.flatMap_append]; simp
      have h2 := List.length_filter_le (fun a => decide (mkey a = (d : Int))) (gridM m)
      have h3 := gridM_len hm
      rw [e, List.length_append]
      omega
  have h2 := h1 d (by omega)
  have h3 := List.length_filter_le (fun a => decide (mkey a = (d : Int))) (gridK m k)
  rw [gridK_len] at h3
  unfold farP
  rw [List.length_append]
  omega
theorem grE_small {m i j : Nat} (hm : m ≤ 4) (hi : i < 2 * m + 1) (hj : j < 2 * m + 1) : smallM ((i : Int) - m, (j : Int) - m) = true := by
  simp [smallM]; omega
theorem call354 {pu : Bool} {H : Heap} {m : Nat} (hm : m ≤ 4) : Call tab pu 354 [.int .i64 (m : Int)] H = some (slc H.length 0 0 (farM m).length (farM m).length, H ++ [⟨mvsC (farM m), 2, 0, false⟩]) := by
  refine Call_wp t354 (.inr rfl) rfl ?_
  obtain ⟨N, hN⟩ : ∃ N, N = 2 * m + 1 := ⟨_, rfl⟩
  have w0 : IntKind.wrap .i64 (-(m : Int)) = -(m : Int) := wrap64 (by omega)
  have w1 : IntKind.wrap .i64 (2 * (m : Int)) = 2 * (m : Int) := wrap64 (by omega)
  simp [c354, k354, fill, rep]
  refine WK_loop (fun d e G => e 0 = .int .i64 m ∧ e 4 = .int .i64 (d : Int) ∧ ∃ g, e 3 = g ∧ Gr H G g 2 (farD m d).length (mvsC (farD m d))) N ?_ (Nat.zero_le _) ⟨by simp, by simp, by simp; exact Gr.new .refl⟩
  rintro d e G _ hd ⟨h0, h4, g, h3, hg⟩
  by_cases hdN : d = N
  · rw [hdN] at h4 hg
    have n1 : ¬ ((N : Int) ≤ 2 * m) := by omega
    rw [hN, farD_all] at hg
    have hfin := hg.fin mvsC_flat
    simp [b354_3, h0, h4, h3, w1, n1, hfin]
  · have n1 : (d : Int) ≤ 2 * m := by omega
    have e9 : IntKind.wrap .i64 ((d : Int) + 1) = ((d + 1 : Nat) : Int) := by rw [wrap64 (by omega)]; omega
    simp [b354_3, h0, h4, h3, w1, n1, w0]
    refine WK_loop (fun i e G => e 0 = .int .i64 m ∧ e 4 = .int .i64 (d : Int) ∧ e 5 = .int .i64 ((i : Int) - m) ∧ ∃ g, e 3 = g ∧ Gr H G g 2 (farP m d (i * N)).length (mvsC (farP m d (i * N)))) N ?_ (Nat.zero_le _) ⟨by simp [h0], by simp [h4], by simp, g, by simp [h3], by rw [Nat.zero_mul, farP_zero]; exact hg⟩
    rintro i e G _ hi ⟨h0, h4, h5, g, h3, hg⟩
    by_cases hiN : i = N
    · rw [hiN] at h5 hg
      have n2 : ¬ ((N : Int) - m ≤ m) := by omega
      have hfa := farP_all (m := m) (d := d) hm
      rw [← hN] at hfa
      rw [hfa] at hg
      simp [b354_2, h0, h4, h5, h3, n2, e9]
      exact ⟨by omega, hg⟩
    · have n2 : (i : Int) - m ≤ m := by omega
      have e10 : IntKind.wrap .i64 ((i : Int) - m + 1) = ((i + 1 : Nat) : Int) - m := by rw [wrap64 (by omega)]; omega
      have w2 : IntKind.wrap .i8 ((i : Int) - m) = (i : Int) - m := wrap8 (by omega)
      simp [b354_2, h0, h4, h5, h3, n2, w0]
      refine WK_loop (fun j e G => e 0 = .int .i64 m ∧ e 4 = .int .i64 (d : Int) ∧ e 5 = .int .i64 ((i : Int) - m) ∧ e 6 = .int .i64 ((j : Int) - m) ∧ ∃ g, e 3 = g ∧ Gr H G g 2 (farP m d (i * N + j)).length (mvsC (farP m d (i * N + j)))) N ?_ (Nat.zero_le _) ⟨by simp [h0], by simp [h4], by simp [h5], by simp, g, by simp [h3], hg⟩
      rintro j e G _ hj ⟨h0, h4, h5, h6, g, h3, hg⟩
      by_cases hjN : j = N
      · rw [hjN] at h6 hg
        have n3 : ¬ ((N : Int) - m ≤ m) := by omega
        simp [b354_1, h0, h4, h5, h6, h3, n3, e10]
        exact ⟨by omega, by rw [Nat.succ_mul]; exact hg⟩
      · have n3 : (j : Int) - m ≤ m := by omega
        have e11 : IntKind.wrap .i64 ((j : Int) - m + 1) = ((j + 1 : Nat) : Int) - m := by rw [wrap64 (by omega)]; omega
        have w3 : IntKind.wrap .i8 ((j : Int) - m) = (j : Int) - m := wrap8 (by omega)
        have hij : i * N + j < N * N := by
          have := mul_next (esz := N) (show i < N by omega)
          omega
        have hle := farP_len (m := m) (d := d) (k := i * N + j) hm (by omega) (by rw [← hN]; omega)
        have hsu := farP_succ (m := m) (d := d) (k := i * N + j)
        have hge : grE m (i * N + j) = ((i : Int) - m, (j : Int) - m) := by rw [hN]; exact grE_at (by omega)
        rw [hge] at hsu
        have hc := call510 (pu := true) (H := G) (a := ((i : Int) - m, (j : Int) - m)) (grE_small hm (by omega) (by omega))
        have hfa : fill [.int .i8 0, .int .i8 0] [(0, 1, .int .i8 ((i : Int) - m)), (1, 1, .int .i8 ((j : Int) - m))] = some (mvC ((i : Int) - m, (j : Int) - m)) := rfl
        have hst : stc (agg [.int .i8 0, .int .i8 0]) 0 (mvC ((i : Int) - m, (j : Int) - m)) = some (agg (mvC ((i : Int) - m, (j : Int) - m))) := stc2c
        have hld : ldc 2 true (agg (mvC ((i : Int) - m, (j : Int) - m))) 0 = some (agg (mvC ((i : Int) - m, (j : Int) - m))) := ldc2c
        by_cases hk : mkey ((i : Int) - m, (j : Int) - m) = d
        · rw [if_pos hk] at hsu
          rw [hk] at hc
          obtain ⟨x', G', hpush, hx'⟩ := hg.push (c := mvC ((i : Int) - m, (j : Int) - m)) (bytes := 2) rfl (room2 (by omega)) (wb := false)
          rw [mvsC_one, ← hsu] at hx'
          have hl : (farP m d (i * N + j)).length + 1 = (farP m d (i * N + j + 1)).length := by rw [hsu]; simp
          rw [hl] at hx'
          have hf1 := fill_one (z := [.int .i8 0, .int .i8 0]) (v := agg (mvC ((i : Int) - m, (j : Int) - m))) (esz := 2) rfl rfl
          simp [b354_1, h0, h4, h5, h6, h3, n3, w2, w3, hfa, hst, hld, mvC_len, hc, hf1, hpush, wbOf, e11]
          exact ⟨by omega, hx'⟩
        · rw [if_neg hk] at hsu
          have hk' : (mkey ((i : Int) - m, (j : Int) - m) == (d : Int)) = false := by simpa using hk
          simp [b354_1, h0, h4, h5, h6, h3, n3, w2, w3, hfa, hst, hld, mvC_len, hc, hk', e11]
          exact ⟨by omega, by rw [← Nat.add_assoc, hsu]; exact hg⟩
/- The best of them. -/
theorem shF_zero {f : List Int} (hw : FrW f) (hk : okF f = true) : shF f 0 0 = f := by
  refine list12 shF_length hw.len fun y hy => ?_
  have hu := hw.nth hy
  obtain ⟨n, hn⟩ := Int.eq_ofNat_of_zero_le hu.1
  have hr : okRow (nth f y) = true := List.all_eq_true.1 (show f.all okRow = true from hk) _ (nth_mem (by rw [hw.len]; exact hy))
  have h9 : n ≤ 4095 := by
    have : nth f y ≤ 4095 := by simpa [okRow] using hr
    omega
  have := mvR_shl (f := f) (d := 0) (y := y) (n := n) (dy := 0) hy (by omega) (by rw [← hn]; congr 1)
  unfold mvR at this
  rw [hn]
  rw [show ((0 : Nat) : Int) = 0 from rfl] at this
  rw [this]
  have : n * 2 ^ 0 % 4096 = n := by omega
  rw [this]
def bsM (f g : List Int) (ms : ML) (k : Nat) : (Int × Int) × Int :=
  itN (fun i s => if difF (shF f (mv ms (i + 1)).1 (mv ms (i + 1)).2) g < s.2 then (mv ms (i + 1), difF (shF f (mv ms (i + 1)).1 (mv ms (i + 1)).2) g) else s) ((0, 0), difF f g) k
theorem bsM_zero {f g : List Int} {ms : ML} : bsM f g ms 0 = ((0, 0), difF f g) := itN_zero
theorem bsM_succ {f g : List Int} {ms : ML} {i : Nat} : bsM f g ms (i + 1) = if difF (shF f (mv ms (i + 1)).1 (mv ms (i + 1)).2) g < (bsM f g ms i).2 then (mv ms (i + 1), difF (shF f (mv ms (i + 1)).1 (mv ms (i + 1)).2) g) else bsM f g ms i := itN_succ
theorem stM {v w : Value} {m : Int × Int} : stc (agg [v, w]) 0 (mvC m) = some (agg (mvC m)) := stc2c
theorem stM2 {m m' : Int × Int} : stc (agg (mvC m')) 0 (mvC m) = some (agg (mvC m)) := stc2c
theorem ldM {m : Int × Int} : ldc 2 true (agg (mvC m)) 0 = some (agg (mvC m)) := ldc2c
theorem ldM1 {m : Int × Int} : ldc 1 false (agg (mvC m)) 0 = some (.int .i8 m.1) := ldc2
theorem ldM2 {m : Int × Int} : ldc 1 false (agg (mvC m)) 1 = some (.int .i8 m.2) := ldc2b
theorem old1_M {n0 : Nat} {m : Int × Int} : old1 n0 (agg (mvC m)) = true := by
  show (mvC m).toArray.toList.all (old0 n0) = true
  simp [mvC]
theorem fin_mi {n0 : Nat} {H : Heap} {m : Int × Int} {c : Int} : finish n0 H [agg (mvC m), .int .i64 c] = (tup [agg (mvC m), .int .i64 c], H.take n0) := finish_vs (by simp [old1_M])
theorem fin_mii {n0 : Nat} {H : Heap} {m : Int × Int} {c d : Int} : finish n0 H [agg (mvC m), .int .i64 c, .int .i64 d] = (tup [agg (mvC m), .int .i64 c, .int .i64 d], H.take n0) := finish_vs (by simp [old1_M])
theorem farM_ok' : ∀ m : Nat, m < 5 → ((farM m).all smallM && decide (1 ≤ (farM m).length) && decide ((farM m).length ≤ 1000) && decide (mv (farM m) 0 = (0, 0))) = true := by decide +kernel
theorem farM_ok {m : Nat} (hm : m ≤ 4) : (∀ i, i < (farM m).length → smallM (mv (farM m) i) = true) ∧ 1 ≤ (farM m).length ∧ (farM m).length ≤ 1000 ∧ mv (farM m) 0 = (0, 0) := by
  have := farM_ok' m (by omega)
  simp only [Bool.and_eq_true, decide_eq_true_eq] at this
  exact ⟨fun i hi => List.all_eq_true.1 this.1.1.1 _ (at0_mem hi), this.1.1.2, this.1.2, this.2⟩
theorem call514 {pu : Bool} {H : Heap} {f : List Int} {a : Int × Int} (hw : FrW f) (hk : okF f = true) (ha : smallM a = true) : Call tab pu 514 [iv .u16 f, agg (mvC a)] H = some (iv .u16 (shF f a.1 a.2), H) := by
  refine Call_wp t514 (.inr rfl) rfl ?_
  obtain ⟨h1, h2⟩ := smallM_ok ha
  have w1 : IntKind.wrap .i64 a.1 = a.1 := wrap64 (by omega)
  have w2 : IntKind.wrap .i64 a.2 = a.2 := wrap64 (by omega)
  have hc := call358 (pu := true) (H := H) (dx := a.1) (dy := a.2) hw hk (by omega) (by omega)
  simp [c514, k514, hw.len, mvC, ldc2, ldc2b, w1, w2, hc, zs_cs, agg_cs, stc_zr, shF_length]
theorem call370 {pu : Bool} {H : Heap} {x : Value} {f g : List Int} {ms : ML} (hw : FrW f) (hk : okF f = true) (hwg : FrW g) (hkg : okF g = true) (hx : SlR H x 2 ms.length (mvsC ms)) (hn : 1 ≤ ms.length) (hn9 : ms.length ≤ 1000) (hs : ∀ i, i < ms.length → smallM (mv ms i) = true) (h00 : mv ms 0 = (0, 0)) :
    Call tab pu 370 [iv .u16 f, iv .u16 g, x] H = some (tup [agg (mvC (bsM f g ms (ms.length - 1)).1), .int .i64 (bsM f g ms (ms.length - 1)).2], H) := by
  refine Call_wp t370 (.inr rfl) rfl ?_
  obtain ⟨q, off, ver, ha, hr⟩ := hx.get1 (i := 0) (by omega)
  rw [mvsC_elem (by omega), h00] at hr
  obtain ⟨y, hy, hY⟩ := hx.lo (lo := 1) (k' := .i64) hn
  have hc := call514 (pu := true) (H := H) hw hk (hs 0 (by omega))
  rw [h00, shF_zero hw hk] at hc
  have hd := call324 (pu := true) (H := H) hw hwg hk hkg
  simp at ha hy
  simp [c370, k370, ha, hr, hw.len, hwg.len, hc, hd, stM, stM2, ldM, mvC_len, hy, hY.lenV]
  refine WP_forH 26 (ms.length - 1) ((ms.length - 1 : Nat) : Int) rfl (by omega) (fun i e => e 3 = iv .u16 f ∧ e 4 = iv .u16 g ∧ e 24 = y ∧ e 25 = .int .i64 ((ms.length - 1 : Nat) : Int) ∧ e 6 = agg [.int .i8 0, .int .i8 0] ∧ e 8 = agg (mvC (bsM f g ms i).1) ∧ e 9 = .int .i64 (bsM f g ms i).2) ?_ ?_ (by simp) (by simp [bsM_zero])
  · rintro i e hi hii e4 h26 ⟨h3, h4, h24, h25, h6, h8, h9⟩
    have hi1 : i + 1 < ms.length := by omega
    obtain ⟨q2, off2, ver2, ha2, hr2⟩ := hY.get1 (i := i) hi
    have hel : elem ((mvsC ms).drop (1 * 2)) 2 i = mvC (mv ms (i + 1)) := by rw [elem_drop, Nat.add_comm, mvsC_elem hi1]
    rw [hel] at hr2
    have hsm := hs _ hi1
    have hsu := bsM_succ (f := f) (g := g) (ms := ms) (i := i)
    have hc2 := call514 (pu := true) (H := H) hw hk hsm
    have hd2 := call324 (pu := true) (H := H) (a := shF f (mv ms (i + 1)).1 (mv ms (i + 1)).2) dotsF_W hwg dotsF_ok hkg
    generalize bsM f g ms i = t at *
    have hsl : (shF f (mv ms (i + 1)).1 (mv ms (i + 1)).2).length = 12 := shF_length
    generalize shF f (mv ms (i + 1)).1 (mv ms (i + 1)).2 = F at *
    by_cases hlt : difF F g < t.2
    · rw [if_pos hlt] at hsu
      simp [b370_1, h26, h3, h4, h24, h25, h6, h8, h9, hii, ha2, hr2, stM, stM2, ldM, mvC_len, hw.len, hwg.len, hc2, hd2, hlt, hsu, e4]
    · rw [if_neg hlt] at hsu
      simp [b370_1, h26, h3, h4, h24, h25, h6, h8, h9, hii, ha2, hr2, stM, stM2, ldM, mvC_len, hw.len, hwg.len, hc2, hd2, hlt, hsu, e4]
  · rintro e h26 ⟨h3, h4, h24, h25, h6, h8, h9⟩
    simp [b370_1, h26, h25, h6, h8, h9, stM, stM2, ldM, mvC_len, fin_mi]
theorem call372 {pu : Bool} {H : Heap} {P Q o o' v v' m : Nat} {f g : List Int} (hw : FrW f) (hwg : FrW g) (h1 : rd H P o v 12 = some (cs .u16 f)) (h2 : rd H Q o' v' 12 = some (cs .u16 g)) (hm : m ≤ 4) :
    Call tab pu 372 [adr P o v, adr Q o' v', .int .i64 (m : Int)] H = some (tup [agg (mvC (bsM f g (farM m) ((farM m).length - 1)).1), .int .i64 (bsM f g (farM m) ((farM m).length - 1)).2], H) := by
  refine Call_wp t372 (.inr rfl) rfl ?_
  obtain ⟨hs, hn, hn9, h00⟩ := farM_ok hm
  have h354 := call354 (pu := true) (H := H) hm
  obtain ⟨ms, hms⟩ : ∃ ms, ms = farM m := ⟨_, rfl⟩
  rw [← hms] at hs hn hn9 h00 h354 ⊢
  obtain ⟨G1, hG1⟩ : ∃ G1, G1 = H ++ [(⟨mvsC ms, 2, 0, false⟩ : Blk)] := ⟨_, rfl⟩
  rw [← hG1] at h354
  have p1 : Pre H G1 := by rw [hG1]; exact Pre.one
  have hx : SlR G1 (slc H.length 0 0 ms.length ms.length) 2 ms.length (mvsC ms) := by
    rw [hG1]
    exact (own_new (H := H) (esz := 2) (n := ms.length) (vs := mvsC ms) (by rw [mvsC_length])).sl
  have hd := call325 (pu := true) hw.len hwg.len (p1.rd h1) (p1.rd h2)
  have hfz : fill [.int .i8 0, .int .i8 0] [] = some (mvC (0, 0)) := rfl
  simp [c372, k372, h354, hfz, stM, stM2, ldM, mvC_len, hd]
  refine WP_from 11 1 ms.length _ rfl (fun i e G => e 0 = adr P o v ∧ e 1 = adr Q o' v' ∧ e 8 = slc H.length 0 0 ms.length ms.length ∧ e 6 = agg [.int .i8 0, .int .i8 0] ∧ e 9 = agg (mvC (bsM f g ms (i - 1)).1) ∧ e 10 = .int .i64 (bsM f g ms (i - 1)).2 ∧ Pre G1 G) (by omega) hn ?_ ?_ (by simp) ⟨by simp, by simp, by simp, by simp, by simp [bsM_zero], by simp [bsM_zero], .refl⟩
  · rintro i e G h1i hi hii e4 h11 ⟨h0, h1e, h8, h6, h9, h10, pG⟩
    obtain ⟨k, rfl⟩ : ∃ k, i = k + 1 := ⟨i - 1, by omega⟩
    obtain ⟨q2, off2, ver2, ha2, hr2⟩ := (hx.pre pG).get1 hi
    rw [mvsC_elem hi] at hr2
    have hsm := hs _ hi
    obtain ⟨b1, b2⟩ := smallM_ok hsm
    have hsu := bsM_succ (f := f) (g := g) (ms := ms) (i := k)
    rw [show k + 1 - 1 = k from rfl] at h9 h10
    rw [show k + 1 + 1 - 1 = k + 1 from rfl]
    have w1 : IntKind.wrap .i64 (mv ms (k + 1)).1 = (mv ms (k + 1)).1 := wrap64 (by omega)
    have w2 : IntKind.wrap .i64 (mv ms (k + 1)).2 = (mv ms (k + 1)).2 := wrap64 (by omega)
    have hr2' := hr2
    have r0 := rd_part hr2 (o := 0) (m := 1) (by omega)
    have r1 := rd_part hr2 (o := 1) (m := 1) (by omega)
    simp [mvC] at r0 r1
    obtain ⟨Ga, hGa⟩ : ∃ Ga, Ga = G ++ [(⟨cs .u16 (zr 12 0), 1, 0, false⟩ : Blk)] := ⟨_, rfl⟩
    have pa : Pre G Ga := by rw [hGa]; exact Pre.one
    have pHa := (p1.trans pG).trans pa
    have h355 := call355 (pu := true) (H := Ga) (dx := (mv ms (k + 1)).1) (dy := (mv ms (k + 1)).2) hw (pHa.rd h1) (by omega) (by omega)
    generalize bsM f g ms k = t at *
    have hFW : FrW (shF f (mv ms (k + 1)).1 (mv ms (k + 1)).2) := dotsF_W
    generalize shF f (mv ms (k + 1)).1 (mv ms (k + 1)).2 = F at *
    obtain ⟨Gb, hGb⟩ : ∃ Gb, Gb = G ++ [(⟨cs .u16 F, 1, 0, false⟩ : Blk)] := ⟨_, rfl⟩
    have hwr : wr H.length false Ga G.length 0 0 (cs .u16 F) = some Gb := by
      rw [hGa, wr_last (b := ⟨cs .u16 (zr 12 0), 1, 0, false⟩) rfl rfl (p1.trans pG).len (by simp [hFW.len]), hGb]
    have pb : Pre G Gb := by rw [hGb]; exact Pre.one
    have rF : rd Gb G.length 0 0 12 = some (cs .u16 F) := by rw [hGb]; exact rd_last rfl (by simp [hFW.len])
    have hd2 := call325 (pu := true) hFW.len hwg.len rF (((p1.trans pG).trans pb).rd h2)
    have hidx : ((k + 1 : Nat) : Int) = (k : Int) + 1 := by omega
    by_cases hlt : difF F g < t.2
    · rw [if_pos hlt] at hsu
      simp [b372_1, h11, h0, h1e, h8, h6, h9, h10, hii, ha2, r0, r1, hr2, pb.rd hr2, w1, w2, ← hGa, zs_cs, h355, hwr, hFW.len, hd2, hlt, stM2, mvC_len, e4, hsu, wbOf, -idxAV_slc, -Int.natCast_add]
      exact pG.trans pb
    · rw [if_neg hlt] at hsu
      simp [b372_1, h11, h0, h1e, h8, h6, h9, h10, hii, ha2, r0, r1, hr2, pb.rd hr2, w1, w2, ← hGa, zs_cs, h355, hwr, hFW.len, hd2, hlt, stM2, mvC_len, e4, hsu, wbOf, -idxAV_slc, -Int.natCast_add]
      exact pG.trans pb
  · rintro e G h11 ⟨h0, h1e, h8, h6, h9, h10, pG⟩
    simp [b372_1, h11, h8, h6, h9, h10, stM, stM2, ldM, mvC_len, fin_mi, (p1.trans pG).take]
theorem fill_two {f g : List Int} (hw : f.length = 12) (hwg : g.length = 12) : fill (rep 2 (cs .u16 (zr 12 0))) [(0, 12, iv .u16 f), (12, 12, iv .u16 g)] = some (bkC [f, g]) := by
  have l1 : (cs .u16 f).length = 12 := by simp [hw]
  have l2 : (cs .u16 g).length = 12 := by simp [hwg]
  have lz : (cs .u16 (zr 12 0)).length = 12 := by simp
  have e0 : rep 2 (cs .u16 (zr 12 0)) = cs .u16 (zr 12 0) ++ cs .u16 (zr 12 0) := by simp [rep]
  rw [e0]
  generalize cs IntKind.u16 (zr 12 0) = Z at *
  show (if (cs .u16 f).length = 12 ∧ 0 + 12 ≤ (Z ++ Z).length then fill (splice (Z ++ Z) 0 (cs .u16 f)) [(12, 12, iv .u16 g)] else none) = _
  rw [if_pos ⟨l1, by simp [lz]⟩]
  have e1 : splice (Z ++ Z) 0 (cs .u16 f) = cs .u16 f ++ Z := by
    unfold splice
    rw [l1, List.take_zero, List.nil_append, List.drop_append_of_le_length (by omega), List.drop_eq_nil_of_le (by omega), List.nil_append]
  rw [e1]
  show (if (cs .u16 g).length = 12 ∧ 12 + 12 ≤ (cs .u16 f ++ Z).length then fill (splice (cs .u16 f ++ Z) 12 (cs .u16 g)) [] else none) = _
  rw [if_pos ⟨l2, by simp [lz, hw]⟩]
  have e2 : splice (cs .u16 f ++ Z) 12 (cs .u16 g) = cs .u16 f ++ cs .u16 g := by
    unfold splice
    rw [l2, List.take_append_of_le_length (by omega), List.take_of_length_le (by omega), List.drop_eq_nil_of_le (by simp [lz, hw]), List.append_nil]
  rw [e2]
  simp [fill, bkC, rowsC, frC]
/-- Two frames in a list of their own, held against the rule. -/
theorem two351 {H : Heap} {f g : List Int} (hw : FrW f) (hwg : FrW g) : Call tab true 351 [slc H.length 0 0 2 2] (H ++ [⟨bkC [f, g], 12, 0, false⟩]) = some (.bool (okF f && okF g), H ++ [⟨bkC [f, g], 12, 0, false⟩]) := by
  have hBW : BkW [f, g] := by
    intro x hx
    rcases List.mem_cons.1 hx with rfl | hx
    · exact hw
    · rcases List.mem_cons.1 hx with rfl | hx
      · exact hwg
      · cases hx
  have hbk : Bk (H ++ [⟨bkC [f, g], 12, 0, false⟩]) (slc H.length 0 0 2 2) [f, g] := (own_new (H := H) (esz := 12) (n := 2) (vs := bkC [f, g]) (by rw [bkC_length hBW]; rfl)).sl
  have hc := call351 (pu := true) hbk hBW (by simp)
  have hok : okFs [f, g] = (okF f && okF g) := by simp [okFs]
  rw [hok] at hc
  exact hc
def bmC (f g : List Int) (m : Int) : Int := if (okF f && okF g) = true then if in1 m 0 4 = true then 0 else 2 else 1
def bmM (f g : List Int) (m : Int) : (Int × Int) × Int := if bmC f g m = 0 then bsM f g (farM m) ((farM m).length - 1) else ((0, 0), 0)
def bmR (f g : List Int) (m : Int) : Value := tup [agg (mvC (bmM f g m).1), .int .i64 (bmM f g m).2, .int .i64 (bmC f g m)]
theorem call369 {pu : Bool} {H : Heap} {m : Int} : Call tab pu 369 [.int .i64 m] H = some (.bool (in1 m 0 4), H) := by
  refine Call_wp t369 (.inr rfl) rfl ?_
  simp [c369, k369, in295]
theorem call353 {pu : Bool} {H : Heap} {m : Int} : Call tab pu 353 [.int .i64 m] H = some (.bool (in1 m 0 4), H) := by
  refine Call_wp t353 (.inr rfl) rfl ?_
  simp [c353, k353, in304]
theorem in1_nat {m : Int} (h : in1 m 0 4 = true) : ∃ n : Nat, m = n ∧ n ≤ 4 := by
  simp [in1] at h
  obtain ⟨n, rfl⟩ := Int.eq_ofNat_of_zero_le h.1
  exact ⟨n, rfl, by omega⟩
theorem call148 {pu : Bool} {H : Heap} {f g : List Int} {m : Int} (hw : FrW f) (hwg : FrW g) : Call tab pu 148 [iv .u16 f, iv .u16 g, .int .i64 m] H = some (bmR f g m, H) := by
  refine Call_wp t148 (.inr rfl) rfl ?_
  have hc := two351 (H := H) hw hwg
  obtain ⟨G, hG⟩ : ∃ G, G = H ++ [(⟨bkC [f, g], 12, 0, false⟩ : Blk)] := ⟨_, rfl⟩
  rw [← hG] at hc
  have pG : Pre H G := by rw [hG]; exact Pre.one
  have hfz : fill [.int .i8 0, .int .i8 0] [] = some (mvC (0, 0)) := rfl
  cases k1 : okF f && okF g with
  | false =>
    have hC : bmC f g m = 1 := by simp only [bmC, k1]; rfl
    simp [c148, k148, hw.len, hwg.len, zs_cs, fill_two hw.len hwg.len, ← hG, hc, k1, hfz, stM, ldM, mvC_len, fin_mii, pG.take, bmR, bmM, hC]
  | true =>
    cases k2 : in1 m 0 4 with
    | false =>
      have hC : bmC f g m = 2 := by simp only [bmC, k1, k2]; rfl
      simp [c148, k148, hw.len, hwg.len, zs_cs, fill_two hw.len hwg.len, ← hG, hc, k1, call369, k2, hfz, stM, ldM, mvC_len, fin_mii, pG.take, bmR, bmM, hC]
    | true =>
      have hC : bmC f g m = 0 := by simp only [bmC, k1, k2]; rfl
      simp only [Bool.and_eq_true] at k1
      obtain ⟨n, rfl, hn⟩ := in1_nat k2
      obtain ⟨hs, h1, h9, h00⟩ := farM_ok hn
      have h371 := call371 (pu := true) (H := G) hn
      obtain ⟨ms, hms⟩ : ∃ ms, ms = farM n := ⟨_, rfl⟩
      rw [← hms] at hs h1 h9 h00 h371
      obtain ⟨G1, hG1⟩ : ∃ G1, G1 = G ++ [(⟨mvsC ms, 2, 0, false⟩ : Blk)] := ⟨_, rfl⟩
      rw [← hG1] at h371
      have p1 : Pre G G1 := by rw [hG1]; exact Pre.one
      have hx : SlR G1 (slc G.length 0 0 ms.length ms.length) 2 ms.length (mvsC ms) := by
        rw [hG1]
        exact (own_new (H := G) (esz := 2) (n := ms.length) (vs := mvsC ms) (by rw [mvsC_length])).sl
      have h370 := call370 (pu := true) hw k1.1 hwg k1.2 hx h1 h9 hs h00
      have hB : bmM f g n = bsM f g ms (ms.length - 1) := by rw [bmM, if_pos hC, hms]
      simp [c148, k148, hw.len, hwg.len, zs_cs, fill_two hw.len hwg.len, ← hG, hc, k1, call369, k2, h371, h370, stM, ldM, mvC_len, fin_mii, (pG.trans p1).take, bmR, hB, hC]
theorem call149 {pu : Bool} {H : Heap} {f g : List Int} {m : Int} (hw : FrW f) (hwg : FrW g) : Call tab pu 149 [iv .u16 f, iv .u16 g, .int .i64 m] H = some (bmR f g m, H) := by
  refine Call_wp t149 (.inr rfl) rfl ?_
  obtain ⟨G, hG⟩ : ∃ G, G = H ++ [(⟨cs .u16 f, 1, 0, false⟩ : Blk), ⟨cs .u16 g, 1, 0, false⟩] := ⟨_, rfl⟩
  have hGG : G = H ++ [(⟨cs .u16 f, 1, 0, false⟩ : Blk)] ++ [⟨cs .u16 g, 1, 0, false⟩] := by rw [hG]; simp
  have hP : Pre H G := by rw [hGG]; exact Pre.one.app
  have r1 : rd G H.length 0 0 12 = some (cs .u16 f) := by rw [hGG]; exact rd_app (rd_last rfl (by simp [hw.len]))
  have r2 : rd G (H.length + 1) 0 0 12 = some (cs .u16 g) := by
    have := rd_last (H := H ++ [(⟨cs .u16 f, 1, 0, false⟩ : Blk)]) (b := ⟨cs .u16 g, 1, 0, false⟩) (n := 12) rfl (by simp [hwg.len])
    rw [← hGG, List.length_append] at this
    exact this
  have c1 := call359 (pu := true) hw.len r1
  have c2 := call359 (pu := true) hwg.len r2
  have c3 : Call tab true 327 [adr H.length 0 0, adr (H.length + 1) 0 0] G = some (.int .i64 (if (okF f && okF g) = true then 0 else 1), G) := by
    refine Call_wp t327 (.inr rfl) rfl ?_
    cases k1 : okF f with
    | false => simp [c327, k327, c1, k1, skip]
    | true =>
      cases k2 : okF g with
      | false => simp [c327, k327, c1, k1, c2, k2]
      | true => simp [c327, k327, c1, k1, c2, k2]
  have hfz : fill [.int .i8 0, .int .i8 0] [] = some (mvC (0, 0)) := rfl
  cases k1 : okF f && okF g with
  | false =>
    have hC : bmC f g m = 1 := by simp only [bmC, k1]; rfl
    rw [k1, if_neg (by decide)] at c3
    simp [c149, k149, hw.len, hwg.len, ← hG, c3, hfz, stM, ldM, mvC_len, fin_mii, hP.take, bmR, bmM, hC]
  | true =>
    rw [k1, if_pos rfl] at c3
    cases k2 : in1 m 0 4 with
    | false =>
      have hC : bmC f g m = 2 := by simp only [bmC, k1, k2]; rfl
      simp [c149, k149, hw.len, hwg.len, ← hG, c3, call353, k2, hfz, stM, ldM, mvC_len, fin_mii, hP.take, bmR, bmM, hC]
    | true =>
      have hC : bmC f g m = 0 := by simp only [bmC, k1, k2]; rfl
      obtain ⟨n, rfl, hn⟩ := in1_nat k2
      have h372 := call372 (pu := true) hw hwg r1 r2 hn
      have hB : bmM f g n = bsM f g (farM n) ((farM n).length - 1) := by rw [bmM, if_pos hC]
      simp [c149, k149, hw.len, hwg.len, ← hG, c3, call353, k2, h372, stM, ldM, mvC_len, fin_mii, hP.take, bmR, hB, hC]
/- Tracks. -/
def trM (b : List (List Int)) (m i : Nat) : Int × Int := (bsM (fr b i) (fr b (i + 1)) (farM m) ((farM m).length - 1)).1
def trL (b : List (List Int)) (m k : Nat) : ML := (List.range k).map (trM b m)
theorem trL_succ {b : List (List Int)} {m k : Nat} : trL b m (k + 1) = trL b m k ++ [trM b m k] := by simp [trL, List.range_succ]
theorem trL_len {b : List (List Int)} {m k : Nat} : (trL b m k).length = k := by simp [trL]
theorem trL_push {b : List (List Int)} {m k : Nat} : mvsC (trL b m k) ++ mvC (trM b m k) = mvsC (trL b m (k + 1)) := by rw [mvsC_one, trL_succ]
def tkC (b : List (List Int)) (m : Int) : Int := if okB b = true then if in1 m 0 4 = true then 0 else 2 else 1
def tkL (b : List (List Int)) (m : Int) : ML := if tkC b m = 0 then trL b m.toNat (b.length - 1) else []
theorem own_nil {H : Heap} {esz : Nat} : Own H (.slice none 0 0) none H.length esz 0 [] := ⟨by simp, rfl, rfl⟩
theorem call151 {pu : Bool} {b : List (List Int)} {m : Int} (hw : BkW b) (hn : b.length ≤ 1000000) {H : Heap} {x : Value} (h : Bk H x b) :
    ∃ r G' β, Call tab pu 151 [x, .int .i64 m] H = some (tup [r, .int .i64 (tkC b m)], G') ∧ Pre H G' ∧ Own G' r β H.length 2 (tkL b m).length (mvsC (tkL b m)) := by
  have h1 := call316 (pu := true) h hw (by omega)
  cases k1 : okB b with
  | false =>
    have hc : tkC b m = 1 := by simp [tkC, k1]
    refine ⟨.slice none 0 0, H, none, Call_wp t151 (.inr rfl) rfl ?_, .refl, by rw [tkL, if_neg (by rw [hc]; decide)]; exact own_nil⟩
    simp [c151, k151, h1, k1, finish_nil2, hc]
  | true =>
    cases k2 : in1 m 0 4 with
    | false =>
      have hc : tkC b m = 2 := by simp [tkC, k1, k2]
      refine ⟨.slice none 0 0, H, none, Call_wp t151 (.inr rfl) rfl ?_, .refl, by rw [tkL, if_neg (by rw [hc]; decide)]; exact own_nil⟩
      simp [c151, k151, h1, k1, call369, k2, finish_nil2, hc]
    | true =>
      have hc : tkC b m = 0 := by simp [tkC, k1, k2]
      obtain ⟨hok, hl⟩ := okB_fs2 k1
      obtain ⟨n, rfl, hm⟩ := in1_nat k2
      obtain ⟨hs, hn1, hn9, h00⟩ := farM_ok hm
      have hL : tkL b n = trL b n (b.length - 1) := by rw [tkL, if_pos hc, Int.toNat_natCast]
      have hlen : (tkL b n).length = b.length - 1 := by rw [hL, trL_len]
      obtain ⟨G1, hG1⟩ : ∃ G1, G1 = H ++ [(⟨[], 2, 0, false⟩ : Blk)] := ⟨_, rfl⟩
      have p1 : Pre H G1 := by rw [hG1]; exact Pre.one
      have h371 := call371 (pu := true) (H := G1) hm
      obtain ⟨ms, hms⟩ : ∃ ms, ms = farM n := ⟨_, rfl⟩
      rw [← hms] at hs hn1 hn9 h00 h371
      have hl1 : G1.length = H.length + 1 := by rw [hG1]; simp
      rw [hl1] at h371
      obtain ⟨G2, hG2⟩ : ∃ G2, G2 = G1 ++ [(⟨mvsC ms, 2, 0, false⟩ : Blk)] := ⟨_, rfl⟩
      rw [← hG2] at h371
      have p2 : Pre G1 G2 := by rw [hG2]; exact Pre.one
      have g2 : G2[H.length + 1]? = some ⟨mvsC ms, 2, 0, false⟩ := by rw [hG2, ← hl1]; exact get_last
      have gr : GrB H G2 H.length (slc H.length 0 0 0 0) 2 0 [] := ⟨0, rfl, by rw [hG2, List.getElem?_append_left (by omega), hG1]; exact get_last, Nat.le_refl _, rfl, p1.trans p2⟩
      refine ⟨slc H.length 0 0 (b.length - 1) (b.length - 1), H ++ [⟨mvsC (tkL b n), 2, 0, false⟩], some H.length, Call_wp t151 (.inr rfl) rfl ?_, Pre.one, by rw [hlen]; exact own_new (by rw [mvsC_length, hlen])⟩
      simp [c151, k151, h1, k1, call369, k2, fill, rep, ← hG1, h371]
      refine WP_from 8 1 (max 1 b.length) _ rfl (fun i e G => e 0 = x ∧ e 7 = slc (H.length + 1) 0 0 ms.length ms.length ∧ G[H.length + 1]? = some ⟨mvsC ms, 2, 0, false⟩ ∧ ∃ g, e 6 = g ∧ GrB H G H.length g 2 (i - 1) (mvsC (trL b n (i - 1)))) (by omega) (by omega) ?_ ?_ (by simp) ⟨by simp, by simp, g2, _, by simp, gr⟩
      · rintro i e G h1i hi hii e4 h8 ⟨h0, h7, gm, g, h6, hg⟩
        obtain ⟨k, rfl⟩ : ∃ k, i = k + 1 := ⟨i - 1, by omega⟩
        have hk : k + 1 < b.length := by omega
        rw [show k + 1 - 1 = k from rfl] at hg
        rw [show k + 1 + 1 - 1 = k + 1 from rfl]
        have hPG : Pre H G := by obtain ⟨_, _, _, _, _, p⟩ := hg; exact p
        obtain ⟨q, off, ver, ha, hr⟩ := Bk.get (SlR.pre hPG h) hw (i := k) (by omega)
        obtain ⟨q2, off2, ver2, ha2, hr2⟩ := Bk.get (SlR.pre hPG h) hw hk
        have hx : SlR G (slc (H.length + 1) 0 0 ms.length ms.length) 2 ms.length (mvsC ms) :=
          ⟨by rw [mvsC_length], .inr ⟨_, 0, 0, _, rfl, Nat.le_refl _, by rw [rd_at gm rfl (by simp only [mvsC_length]; omega)]; simp only [List.drop_zero]; rw [List.take_of_length_le (by simp [mvsC_length])], _, gm, rfl, rfl⟩⟩
        have h370 := call370 (pu := true) (hw.fr (i := k) (by omega)) (okFs_get hok (i := k) (by omega)) (hw.fr hk) (okFs_get hok hk) hx hn1 hn9 hs h00
        have htr : trM b n k = (bsM (fr b k) (fr b (k + 1)) ms (ms.length - 1)).1 := by rw [trM, hms]
        rw [← htr] at h370
        have hf1 := fill_one (z := [.int .i8 0, .int .i8 0]) (v := agg (mvC (trM b n k))) (esz := 2) rfl rfl
        obtain ⟨g', G', hpush, hg', hkeep⟩ := hg.push (c := mvC (trM b n k)) (bytes := 2) rfl (room2 (by omega)) (wb := false)
        rw [trL_push] at hg'
        have gm' : G'[H.length + 1]? = some ⟨mvsC ms, 2, 0, false⟩ := by rw [hkeep _ (by omega) (List.getElem?_eq_some_iff.1 gm).1]; exact gm
        have e5 : IntKind.wrap .i64 ((k + 1 : Nat) - 1 : Int) = (k : Int) := by rw [wrap64 (by omega)]; omega
        have hlt : ((k + 1 : Nat) : Int) < b.length := by omega
        simp [b151_1, h8, h0, h7, h6, SlR.lenV h, hlt, e5, ha, hr, ha2, hr2, agg_cs, h370, stM, ldM, mvC_len, hf1, hpush, wbOf, e4, -Int.natCast_add]
        exact ⟨gm', hg'⟩
      · rintro e G h8 ⟨h0, h7, gm, g, h6, hg⟩
        have n1 : ¬ (((max 1 b.length : Nat) : Int) < b.length) := by omega
        have e1 : max 1 b.length - 1 = b.length - 1 := by omega
        rw [e1, ← hL] at hg
        have hfin := hg.gr.fin2 (c := 0) mvsC_flat
        simp [b151_1, h8, h0, h6, SlR.lenV h, n1, hfin, hc]
theorem call374 {pu : Bool} {H : Heap} {x : Value} {b : List (List Int)} {m : Int} (hw : BkW b) (hn : b.length ≤ 1000000) (h : Bk H x b) : Call tab pu 374 [x, .int .i64 m] H = some (.int .i64 (tkC b m), H) := by
  refine Call_wp t374 (.inr rfl) rfl ?_
  have h1 := call318 (pu := true) h hw (by omega)
  cases k1 : okB b with
  | false => simp [c374, k374, h1, k1, tkC]
  | true =>
    cases k2 : in1 m 0 4 with
    | false => simp [c374, k374, h1, k1, call353, k2, tkC]
    | true => simp [c374, k374, h1, k1, call353, k2, tkC]
theorem call375 {pu : Bool} {b : List (List Int)} {m : Nat} (hw : BkW b) (hn : b.length ≤ 40) (hm : m ≤ 4) {H : Heap} {x : Value} (h : Bk H x b) :
    Call tab pu 375 [x, .int .i64 (m : Int)] H = some (slc H.length 0 0 (b.length - 1) (b.length - 1), H ++ [⟨mvsC (trL b m (b.length - 1)), 2, 0, false⟩]) := by
  refine Call_wp t375 (.inr rfl) rfl ?_
  simp [c375, k375, fill, rep]
  refine WP_from 6 1 (max 1 b.length) _ rfl (fun i e G => e 0 = x ∧ e 1 = .int .i64 m ∧ ∃ g, e 5 = g ∧ Gr H G g 2 (i - 1) (mvsC (trL b m (i - 1)))) (by omega) (by omega) ?_ ?_ (by simp) ⟨by simp, by simp, _, by simp, Gr.new .refl⟩
  · rintro i e G h1i hi hii e4 h6 ⟨h0, h1, g, h5, hg⟩
    obtain ⟨k, rfl⟩ : ∃ k, i = k + 1 := ⟨i - 1, by omega⟩
    have hk : k + 1 < b.length := by omega
    rw [show k + 1 - 1 = k from rfl] at hg
    rw [show k + 1 + 1 - 1 = k + 1 from rfl]
    have hPG := hg.pre
    obtain ⟨q, off, ver, ha, hr⟩ := Bk.get (SlR.pre hPG h) hw (i := k) (by omega)
    obtain ⟨q2, off2, ver2, ha2, hr2⟩ := Bk.get (SlR.pre hPG h) hw hk
    have h372 := call372 (pu := true) (hw.fr (i := k) (by omega)) (hw.fr hk) hr hr2 hm
    have htr : trM b m k = (bsM (fr b k) (fr b (k + 1)) (farM m) ((farM m).length - 1)).1 := rfl
    rw [← htr] at h372
    have hf1 := fill_one (z := [.int .i8 0, .int .i8 0]) (v := agg (mvC (trM b m k))) (esz := 2) rfl rfl
    obtain ⟨g', G', hpush, hg'⟩ := hg.push (c := mvC (trM b m k)) (bytes := 2) rfl (room2 (by omega)) (wb := false)
    rw [trL_push] at hg'
    have e5 : IntKind.wrap .i64 ((k + 1 : Nat) - 1 : Int) = (k : Int) := by rw [wrap64 (by omega)]; omega
    have hlt : ((k + 1 : Nat) : Int) < b.length := by omega
    simp [b375_1, h6, h0, h1, h5, SlR.lenV h, hlt, e5, ha, ha2, h372, stM, ldM, mvC_len, hf1, hpush, wbOf, e4, -Int.natCast_add]
    exact hg'
  · rintro e G h6 ⟨h0, h1, g, h5, hg⟩
    have n1 : ¬ (((max 1 b.length : Nat) : Int) < b.length) := by omega
    have e1 : max 1 b.length - 1 = b.length - 1 := by omega
    rw [e1] at hg
    have hfin := hg.fin mvsC_flat
    simp [b375_1, h6, h0, h5, SlR.lenV h, n1, hfin]
theorem call152 {pu : Bool} {b : List (List Int)} {m : Int} (hw : BkW b) (hn : b.length ≤ 1000000) {H : Heap} {x : Value} (h : Bk H x b) :
    ∃ r G' β, Call tab pu 152 [x, .int .i64 m] H = some (tup [r, .int .i64 (tkC b m)], G') ∧ Pre H G' ∧ Own G' r β H.length 2 (tkL b m).length (mvsC (tkL b m)) := by
  have h1 := call374 (pu := true) (m := m) hw hn h
  by_cases hc : tkC b m = 0
  · have k1 : okB b = true := by
      cases k : okB b with
      | true => rfl
      | false => simp [tkC, k] at hc
    have k2 : in1 m 0 4 = true := by
      cases k : in1 m 0 4 with
      | true => rfl
      | false => simp [tkC, k1, k] at hc
    obtain ⟨hok, hl⟩ := okB_fs2 k1
    obtain ⟨n, rfl, hm⟩ := in1_nat k2
    have hL : tkL b n = trL b n (b.length - 1) := by rw [tkL, if_pos hc, Int.toNat_natCast]
    have hlen : (tkL b n).length = b.length - 1 := by rw [hL, trL_len]
    have h2 := call375 (pu := true) hw hl hm h
    rw [← hL] at h2
    have gr : Gr H (H ++ [⟨mvsC (tkL b n), 2, 0, false⟩]) (slc H.length 0 0 (b.length - 1) (b.length - 1)) 2 (b.length - 1) (mvsC (tkL b n)) := ⟨_, _, rfl, get_last, Nat.le_refl _, by rw [mvsC_length, hlen], Pre.one⟩
    have hfin := gr.fin2 (c := 0) mvsC_flat
    refine ⟨slc H.length 0 0 (b.length - 1) (b.length - 1), H ++ [⟨mvsC (tkL b n), 2, 0, false⟩], some H.length, Call_wp t152 (.inr rfl) rfl ?_, Pre.one, by rw [hlen]; exact own_new (by rw [mvsC_length, hlen])⟩
    simp [c152, k152, h1, hc, h2, hfin]
  · have hb : (tkC b m != 0) = true := by simpa using hc
    have hfin := (Gr.new (H := H) (esz := 2) .refl).fin2 (c := tkC b m) (by intro v hv; simp at hv)
    refine ⟨slc H.length 0 0 0 0, H ++ [⟨[], 2, 0, false⟩], some H.length, Call_wp t152 (.inr rfl) rfl ?_, Pre.one, by rw [tkL, if_neg hc]; exact own_new (n := 0) rfl⟩
    simp [c152, k152, h1, hb, fill, rep, hfin]
def tinyM (a : Int × Int) : Bool := decide (-4 ≤ a.1 ∧ a.1 ≤ 4) && decide (-4 ≤ a.2 ∧ a.2 ≤ 4)
theorem tinyM_ok {a : Int × Int} (h : tinyM a = true) : (-4 ≤ a.1 ∧ a.1 ≤ 4) ∧ -4 ≤ a.2 ∧ a.2 ≤ 4 := by simpa [tinyM] using h
theorem farM_tiny : ∀ m : Nat, m < 5 → (farM m).all tinyM = true := by decide +kernel
theorem bsM_tiny {f g : List Int} {ms : ML} (h : ∀ i, i < ms.length → tinyM (mv ms i) = true) {k : Nat} (hk : k + 1 ≤ ms.length) : tinyM (bsM f g ms k).1 = true := by
  induction k with
  | zero => rw [bsM_zero]; rfl
  | succ k ih =>
    rw [bsM_succ]
    split
    · exact h _ (by omega)
    · exact ih (by omega)
theorem trM_tiny {b : List (List Int)} {m i : Nat} (hm : m ≤ 4) : tinyM (trM b m i) = true := by
  obtain ⟨_, h1, _, _⟩ := farM_ok hm
  exact bsM_tiny (fun i hi => List.all_eq_true.1 (farM_tiny m (by omega)) _ (at0_mem hi)) (by omega)
theorem trL_mv {b : List (List Int)} {m k i : Nat} (hi : i < k) : mv (trL b m k) i = trM b m i := by
  unfold mv at0 trL
  rw [List.getD_eq_getElem?_getD, List.getElem?_map, List.getElem?_range hi]; rfl
theorem mv_take {l : ML} {k i : Nat} (h : i < k) : mv (l.take k) i = mv l i := by
  unfold mv at0
  rw [List.getD_eq_getElem?_getD, List.getD_eq_getElem?_getD, List.getElem?_take, if_pos h]
theorem eastN_take {l : ML} {k : Nat} : ∀ i, i ≤ k → eastN (l.take k) i = eastN l i := by
  intro i
  induction i with
  | zero => intro _; simp [eastN, itN_zero]
  | succ i ih =>
    intro h
    rw [eastN, eastN, itN_succ, itN_succ, ← eastN, ← eastN, ih (by omega), mv_take (by omega)]
theorem southN_take {l : ML} {k : Nat} : ∀ i, i ≤ k → southN (l.take k) i = southN l i := by
  intro i
  induction i with
  | zero => intro _; simp [southN, itN_zero]
  | succ i ih =>
    intro h
    rw [southN, southN, itN_succ, itN_succ, ← southN, ← southN, ih (by omega), mv_take (by omega)]
theorem mvsC_take {l : ML} {k : Nat} : (mvsC l).take (k * 2) = mvsC (l.take k) := by
  induction l generalizing k with
  | nil => simp [mvsC, rowsC]
  | cons a r ih =>
    cases k with
    | zero => simp [mvsC, rowsC]
    | succ k =>
      have := ih (k := k)
      show (mvC a ++ mvsC r).take ((k + 1) * 2) = mvC a ++ mvsC (r.take k)
      rw [← this, show (k + 1) * 2 = (mvC a).length + k * 2 by rw [mvC_len]; omega, List.take_length_add_append]
theorem eastN_tiny {l : ML} (h : ∀ i, i < l.length → tinyM (mv l i) = true) {k : Nat} (hk : k ≤ l.length) : -4 * (k : Int) ≤ eastN l k ∧ eastN l k ≤ 4 * (k : Int) := by
  induction k with
  | zero => rw [eastN, itN_zero]; omega
  | succ k ih =>
    have h1 := ih (by omega)
    have h2 := (tinyM_ok (h k (by omega))).1
    rw [eastN, itN_succ, ← eastN]; omega
theorem southN_tiny {l : ML} (h : ∀ i, i < l.length → tinyM (mv l i) = true) {k : Nat} (hk : k ≤ l.length) : -4 * (k : Int) ≤ southN l k ∧ southN l k ≤ 4 * (k : Int) := by
  induction k with
  | zero => rw [southN, itN_zero]; omega
  | succ k ih =>
    have h1 := ih (by omega)
    have h2 := (tinyM_ok (h k (by omega))).2
    rw [southN, itN_succ, ← southN]; omega
def fbF (b : List (List Int)) (L : ML) (i : Nat) : List Int := shF (fr b i) (-eastN L i) (-southN L i)
def fbL (b : List (List Int)) (L : ML) (k : Nat) : List (List Int) := (List.range k).map (fbF b L)
theorem fbL_succ {b : List (List Int)} {L : ML} {k : Nat} : bkC (fbL b L (k + 1)) = bkC (fbL b L k) ++ cs .u16 (fbF b L k) := by
  unfold fbL
  rw [List.range_succ, List.map_append]
  show rowsC frC (_ ++ _) = _
  rw [rowsC_app]
  simp [bkC, rowsC, frC]
theorem fbL_len {b : List (List Int)} {L : ML} {k : Nat} : (fbL b L k).length = k := by simp [fbL]
theorem fbL_W {b : List (List Int)} {L : ML} {k : Nat} : ∀ f ∈ fbL b L k, f.length = 12 := by
  intro f hf
  unfold fbL at hf
  rw [List.mem_map] at hf
  obtain ⟨i, _, rfl⟩ := hf
  exact shF_length
def fwL (b : List (List Int)) (m : Int) : List (List Int) := if tkC b m = 0 then fbL b (tkL b m) b.length else []
theorem tk_ok {b : List (List Int)} {m : Int} (h : tkC b m = 0) : okB b = true ∧ ∃ n : Nat, m = n ∧ n ≤ 4 := by
  have k1 : okB b = true := by
    cases k : okB b with
    | true => rfl
    | false => simp [tkC, k] at h
  have k2 : in1 m 0 4 = true := by
    cases k : in1 m 0 4 with
    | true => rfl
    | false => simp [tkC, k1, k] at h
  exact ⟨k1, in1_nat k2⟩
theorem fwL_W {b : List (List Int)} {m : Int} : ∀ f ∈ fwL b m, f.length = 12 := by
  unfold fwL
  split
  · exact fbL_W
  · intro f hf; cases hf
theorem call155 {pu : Bool} {b : List (List Int)} {m : Int} (hw : BkW b) (hn : b.length ≤ 1000000) {H : Heap} {x : Value} (h : Bk H x b) :
    ∃ r G' β, Call tab pu 155 [x, .int .i64 m] H = some (tup [r, .int .i64 (tkC b m)], G') ∧ Pre H G' ∧ Own G' r β H.length 12 (fwL b m).length (bkC (fwL b m)) := by
  obtain ⟨r, G1, β, h1, p1, o1⟩ := call151 (pu := true) (m := m) hw hn h
  by_cases hc : tkC b m = 0
  · obtain ⟨k1, n, rfl, hm⟩ := tk_ok hc
    obtain ⟨hok, hl⟩ := okB_fs2 k1
    have hL : tkL b n = trL b n (b.length - 1) := by rw [tkL, if_pos hc, Int.toNat_natCast]
    have hLl : (tkL b n).length = b.length - 1 := by rw [hL, trL_len]
    have hti : ∀ i, i < (tkL b n).length → tinyM (mv (tkL b n) i) = true := fun i hi => by
      rw [hL, trL_mv (by omega)]; exact trM_tiny hm
    have hF : fwL b n = fbL b (tkL b n) b.length := by rw [fwL, if_pos hc]
    have hFl : (fwL b n).length = b.length := by rw [hF, fbL_len]
    have hcells : (bkC (fwL b n)).length = b.length * 12 := by
      rw [← hFl]
      exact rows_length (f := frC) (esz := 12) fun f hf => by
        have := fwL_W f hf
        simp [frC, this]
    generalize hLL : tkL b n = L at *
    refine ⟨slc H.length 0 0 b.length b.length, H ++ [⟨bkC (fwL b n), 12, 0, false⟩], some H.length, Call_wp t155 (.inr rfl) rfl ?_, Pre.one, by rw [hFl]; exact own_new hcells⟩
    obtain ⟨G2, hG2⟩ : ∃ G2, G2 = G1 ++ [(⟨[], 12, 0, false⟩ : Blk)] := ⟨_, rfl⟩
    have p2 : Pre G1 G2 := by rw [hG2]; exact Pre.one
    have hG1l := p1.len
    have gr : GrB H G2 G1.length (slc G1.length 0 0 0 0) 12 0 [] := ⟨0, rfl, by rw [hG2]; exact get_last, hG1l, rfl, p1.trans p2⟩
    simp [c155, k155, h1, hc, fill, rep, ← hG2, SlR.lenV h]
    have hβ : ∀ q, β = some q → q < G1.length := fun q hq => by subst hq; exact o1.lt.2
    refine WP_count 26 b.length _ rfl (fun i e G => e 6 = r ∧ e 24 = x ∧ e 25 = .int .i64 b.length ∧ Own G r β H.length 2 L.length (mvsC L) ∧ ∃ g, e 8 = g ∧ GrB H G G1.length g 12 i (bkC (fbL b L i))) (by omega) ?_ ?_ (by simp) ⟨by simp, by simp, by simp, o1.pre p2, _, by simp, gr⟩
    · rintro i e G _ hi hii e4 h26 ⟨h6, h24, h25, ho, g, h8, hg⟩
      have hPG : Pre H G := by obtain ⟨_, _, _, _, _, p⟩ := hg; exact p
      obtain ⟨q, off, ver, ha, hr⟩ := Bk.get (SlR.pre hPG h) hw hi
      obtain ⟨y, hy, hY⟩ := ho.sl.hi (hi := i) (k' := .i64) (by omega)
      rw [mvsC_take] at hY
      have hTl : (L.take i).length = i := by simp; omega
      have hY' : SlR G y 2 (L.take i).length (mvsC (L.take i)) := by rw [hTl]; exact hY
      have b1 := eastN_tiny hti (k := i) (by omega)
      have b2 := southN_tiny hti (k := i) (by omega)
      have h71 := call71 (pu := true) hY' (by omega) (fun j hj => by
        rw [mv_take (by omega)]
        have := tinyM_ok (hti j (by omega))
        exact ⟨by constructor <;> omega, by constructor <;> omega⟩)
      rw [sumR, hTl, eastN_take i (Nat.le_refl i), southN_take i (Nat.le_refl i)] at h71
      have w1 : IntKind.wrap .i64 (-eastN L i) = -eastN L i := wrap64 (by omega)
      have w2 : IntKind.wrap .i64 (-southN L i) = -southN L i := wrap64 (by omega)
      have h358 := call358 (pu := true) (H := G) (dx := -eastN L i) (dy := -southN L i) (hw.fr hi) (okFs_get hok hi) (by omega) (by omega)
      have hFd : shF (fr b i) (-eastN L i) (-southN L i) = fbF b L i := rfl
      rw [hFd] at h358
      have hFl2 : (fbF b L i).length = 12 := shF_length
      have hff := fillF hFl2
      obtain ⟨g', G', hpush, hg', hkeep⟩ := hg.push (c := cs .u16 (fbF b L i)) (bytes := 24) (by simp [hFl2]) (room24 (by omega)) (wb := false)
      rw [← fbL_succ] at hg'
      have ho' := ho.agree (G' := G') fun q hq => hkeep q (by have := hβ q hq; omega) (by subst hq; exact ho.lt.2)
      have hfl := (hw.fr hi).len
      simp [b155_1, h26, h6, h24, h25, h8, hii, ha, hr, zs_cs, agg_cs, hfl, stc_zr, hy, h71, w1, w2, h358, hff, hpush, wbOf, e4]
      exact ⟨ho', hg'⟩
    · rintro e G _ h26 ⟨h6, h24, h25, ho, g, h8, hg⟩
      rw [← hF] at hg
      have hfin := hg.gr.fin2 (c := 0) bkC_flat
      simp [b155_1, h26, h25, h8, hfin, hc]
  · have hb : (tkC b m != 0) = true := by simpa using hc
    refine ⟨.slice none 0 0, H, none, Call_wp t155 (.inr rfl) rfl ?_, .refl, by rw [fwL, if_neg hc]; exact own_nil⟩
    simp [c155, k155, h1, hb, finish_nil2, p1.take]
theorem call156 {pu : Bool} {b : List (List Int)} {m : Int} (hw : BkW b) (hn : b.length ≤ 1000000) {H : Heap} {x : Value} (h : Bk H x b) :
    ∃ r G' β, Call tab pu 156 [x, .int .i64 m] H = some (tup [r, .int .i64 (tkC b m)], G') ∧ Pre H G' ∧ Own G' r β H.length 12 (fwL b m).length (bkC (fwL b m)) := by
  have h1 := call374 (pu := true) (m := m) hw hn h
  by_cases hc : tkC b m = 0
  · obtain ⟨k1, n, rfl, hm⟩ := tk_ok hc
    obtain ⟨hok, hl⟩ := okB_fs2 k1
    have hL : tkL b n = trL b n (b.length - 1) := by rw [tkL, if_pos hc, Int.toNat_natCast]
    have hLl : (tkL b n).length = b.length - 1 := by rw [hL, trL_len]
    have hti : ∀ i, i < (tkL b n).length → tinyM (mv (tkL b n) i) = true := fun i hi => by
      rw [hL, trL_mv (by omega)]; exact trM_tiny hm
    have hF : fwL b n = fbL b (tkL b n) b.length := by rw [fwL, if_pos hc]
    have hFl : (fwL b n).length = b.length := by rw [hF, fbL_len]
    have hcells : (bkC (fwL b n)).length = b.length * 12 := by
      rw [← hFl]
      exact rows_length (f := frC) (esz := 12) fun f hf => by
        have := fwL_W f hf
        simp [frC, this]
    have h375 := call375 (pu := true) hw hl hm h
    rw [← hL] at h375
    obtain ⟨G1, hG1⟩ : ∃ G1, G1 = H ++ [(⟨mvsC (tkL b n), 2, 0, false⟩ : Blk)] := ⟨_, rfl⟩
    rw [← hG1] at h375
    have p1 : Pre H G1 := by rw [hG1]; exact Pre.one
    have hl1 : G1.length = H.length + 1 := by rw [hG1]; simp
    generalize hLL : tkL b n = L at *
    refine ⟨slc H.length 0 0 b.length b.length, H ++ [⟨bkC (fwL b n), 12, 0, false⟩], some H.length, Call_wp t156 (.inr rfl) rfl ?_, Pre.one, by rw [hFl]; exact own_new hcells⟩
    have g1 : G1[H.length]? = some ⟨mvsC L, 2, 0, false⟩ := by rw [hG1]; exact get_last
    obtain ⟨G2, hG2⟩ : ∃ G2, G2 = G1 ++ [(⟨[], 12, 0, false⟩ : Blk)] := ⟨_, rfl⟩
    have p2 : Pre G1 G2 := by rw [hG2]; exact Pre.one
    have g2 : G2[H.length]? = some ⟨mvsC L, 2, 0, false⟩ := by rw [p2.get (by omega)]; exact g1
    have gr : GrB H G2 G1.length (slc G1.length 0 0 0 0) 12 0 [] := ⟨0, rfl, by rw [hG2]; exact get_last, p1.len, rfl, p1.trans p2⟩
    simp [c156, k156, h1, hc, h375, fill, rep, ← hG2]
    refine WP_count 11 b.length _ rfl (fun i e G => e 0 = x ∧ e 7 = slc H.length 0 0 (b.length - 1) (b.length - 1) ∧ e 9 = .int .i64 (eastN L (i - 1)) ∧ e 10 = .int .i64 (southN L (i - 1)) ∧ G[H.length]? = some ⟨mvsC L, 2, 0, false⟩ ∧ ∃ g, e 8 = g ∧ GrB H G G1.length g 12 i (bkC (fbL b L i))) (by omega) ?_ ?_ (by simp) ⟨by simp, by simp, by simp [eastN, itN_zero], by simp [southN, itN_zero], g2, _, by simp, gr⟩
    · rintro i e G _ hi hii e4 h11 ⟨h0, h7, h9, h10, gm, g, h8, hg⟩
      have hPG : Pre H G := by obtain ⟨_, _, _, _, _, p⟩ := hg; exact p
      obtain ⟨q, off, ver, ha, hr⟩ := Bk.get (SlR.pre hPG h) hw hi
      have b1 := eastN_tiny hti (k := i) (by omega)
      have b2 := southN_tiny hti (k := i) (by omega)
      have w1 : IntKind.wrap .i64 (-eastN L i) = -eastN L i := wrap64 (by omega)
      have w2 : IntKind.wrap .i64 (-southN L i) = -southN L i := wrap64 (by omega)
      have h355 := call355 (pu := true) (H := G) (dx := -eastN L i) (dy := -southN L i) (hw.fr hi) hr (by omega) (by omega)
      have hFd : shF (fr b i) (-eastN L i) (-southN L i) = fbF b L i := rfl
      rw [hFd] at h355
      have hFl2 : (fbF b L i).length = 12 := shF_length
      have hff := fillF hFl2
      obtain ⟨g', G', hpush, hg', hkeep⟩ := hg.push (c := cs .u16 (fbF b L i)) (bytes := 24) (by simp [hFl2]) (room24 (by omega)) (wb := false)
      rw [← fbL_succ] at hg'
      have gm' : G'[H.length]? = some ⟨mvsC L, 2, 0, false⟩ := by rw [hkeep _ (by omega) (List.getElem?_eq_some_iff.1 gm).1]; exact gm
      by_cases hi0 : i = 0
      · subst hi0
        have z1 : eastN L 0 = 0 := by simp [eastN, itN_zero]
        have z2 : southN L 0 = 0 := by simp [southN, itN_zero]
        rw [show 0 - 1 = 0 from rfl] at h9 h10
        rw [z1] at h9 h355 w1
        rw [z2] at h10 h355 w2
        simp at h355 ha hii h11 e4 w1 w2
        simp [b156_1, h11, h0, h7, h9, h10, h8, SlR.lenV h, hii, ha, w1, w2, h355, zs_cs, agg_cs, hff, hpush, wbOf, e4, z1, z2]
        exact ⟨gm', hg'⟩
      · obtain ⟨k, rfl⟩ : ∃ k, i = k + 1 := ⟨i - 1, by omega⟩
        rw [show k + 1 - 1 = k from rfl] at h9 h10
        have hx : SlR G (slc H.length 0 0 (b.length - 1) (b.length - 1)) 2 (b.length - 1) (mvsC L) :=
          ⟨by rw [mvsC_length, hLl], .inr ⟨_, 0, 0, _, rfl, Nat.le_refl _, by rw [rd_at gm rfl (by simp only [mvsC_length]; omega)]; simp only [List.drop_zero]; rw [List.take_of_length_le (by simp [mvsC_length]; omega)], _, gm, rfl, rfl⟩⟩
        obtain ⟨q2, off2, ver2, ha2, hr2⟩ := hx.get1 (i := k) (by omega)
        rw [mvsC_elem (by omega)] at hr2
        have r0 := rd_part hr2 (o := 0) (m := 1) (by omega)
        have r1 := rd_part hr2 (o := 1) (m := 1) (by omega)
        simp [mvC] at r0 r1
        have t := tinyM_ok (hti k (by omega))
        have b3 := eastN_tiny hti (k := k) (by omega)
        have b4 := southN_tiny hti (k := k) (by omega)
        have e5 : IntKind.wrap .i64 (((k + 1 : Nat) : Int) - 1) = (k : Int) := by rw [wrap64 (by omega)]; omega
        have z1 : eastN L (k + 1) = eastN L k + (mv L k).1 := itN_succ
        have z2 : southN L (k + 1) = southN L k + (mv L k).2 := itN_succ
        have w3 : IntKind.wrap .i64 (eastN L k + (mv L k).1) = eastN L (k + 1) := by rw [wrap64 (by omega), z1]
        have w4 : IntKind.wrap .i64 (southN L k + (mv L k).2) = southN L (k + 1) := by rw [wrap64 (by omega), z2]
        have w5 : IntKind.wrap .i64 (mv L k).1 = (mv L k).1 := wrap64 (by omega)
        have w6 : IntKind.wrap .i64 (mv L k).2 = (mv L k).2 := wrap64 (by omega)
        have hpos : (0 : Int) < ((k + 1 : Nat) : Int) := by omega
        simp [b156_1, h11, h0, h7, h9, h10, h8, SlR.lenV h, hii, hpos, e5, ha, ha2, r0, r1, w5, w6, w3, w4, w1, w2, h355, zs_cs, agg_cs, hff, hpush, wbOf, e4, -idxAV_slc, -Int.natCast_add]
        exact ⟨gm', hg'⟩
    · rintro e G _ h11 ⟨h0, h7, h9, h10, gm, g, h8, hg⟩
      rw [← hF] at hg
      have hfin := hg.gr.fin2 (c := 0) bkC_flat
      simp [b156_1, h11, h0, h8, SlR.lenV h, hfin, hc]
  · have hb : (tkC b m != 0) = true := by simpa using hc
    have hfin := (Gr.new (H := H) (esz := 12) .refl).fin2 (c := tkC b m) (by intro v hv; simp at hv)
    refine ⟨slc H.length 0 0 0 0, H ++ [⟨[], 12, 0, false⟩], some H.length, Call_wp t156 (.inr rfl) rfl ?_, Pre.one, by rw [fwL, if_neg hc]; exact own_new (n := 0) rfl⟩
    simp [c156, k156, h1, hb, fill, rep, hfin]
theorem SlR.cells {H : Heap} {x : Value} {esz n : Nat} {vs : List Value} (h : SlR H x esz n vs) : cellsOf x = [x] := by
  rcases h.is with ⟨rfl, _⟩ | ⟨b, off, ver, cap, rfl, _⟩ <;> rfl
def cpP (b c : List (List Int)) (a : Int × Int) (p : Nat) : Bool := allN (fun i => decide (fr b (p + i) = shF (fr c i) a.1 a.2)) c.length
/-- Which move is the first one that makes a copy at p. -/
def mcJ (b c : List (List Int)) (m p : Nat) : Int := findN (fun j => cpP b c (mv (farM m) j) p) (farM m).length
def mcS (b c : List (List Int)) (m p : Nat) (s : List Int × ML) : List Int × ML := if 0 ≤ mcJ b c m p then (s.1 ++ [(p : Int)], s.2 ++ [mv (farM m) (mcJ b c m p).toNat]) else s
def mcK (b c : List (List Int)) (m k : Nat) : List Int × ML := itN (mcS b c m) ([], []) k
theorem mcK_zero {b c : List (List Int)} {m : Nat} : mcK b c m 0 = ([], []) := itN_zero
theorem mcK_succ {b c : List (List Int)} {m k : Nat} : mcK b c m (k + 1) = mcS b c m k (mcK b c m k) := itN_succ
theorem mcK_len {b c : List (List Int)} {m k : Nat} : (mcK b c m k).1.length ≤ k ∧ (mcK b c m k).2.length = (mcK b c m k).1.length := by
  induction k with
  | zero => rw [mcK_zero]; simp
  | succ k ih =>
    rw [mcK_succ, mcS]
    split
    · simp [ih.2]; omega
    · exact ⟨by omega, ih.2⟩
def mcC (b c : List (List Int)) (m : Int) : Int := if (okB b && okB c) = true then if (in1 m 0 4 && !((c.length : Int) == 0)) = true then 0 else 2 else 1
/-- How many places there are. -/
def mcN (b c : List (List Int)) : Nat := b.length + 1 - c.length
def mcR (b c : List (List Int)) (m : Int) : List Int × ML := if mcC b c m = 0 then mcK b c m.toNat (mcN b c) else ([], [])
theorem GrB.pr {H G : Heap} {b : Nat} {x : Value} {esz n : Nat} {vs : List Value} (g : GrB H G b x esz n vs) : Pre H G := by obtain ⟨_, _, _, _, _, p⟩ := g; exact p
/-- What 352 hands back. -/
def RsM (H : Heap) (r : Value × Heap) (q : List Int × ML) (c : Int) : Prop :=
  (c ≠ 0 ∧ r = (tup [.slice none 0 0, .slice none 0 0, .int .i64 c], H)) ∨
  (c = 0 ∧ r = (tup [slc H.length 0 0 q.1.length q.1.length, slc (H.length + 1) 0 0 q.1.length q.1.length, .int .i64 c], H ++ [⟨cs .i64 q.1, 1, 0, false⟩, ⟨mvsC q.2, 2, 0, false⟩]))
theorem rowsC_drop {α : Type} {f : α → List Value} {esz : Nat} {l : List α} (hf : ∀ a ∈ l, (f a).length = esz) {k : Nat} : (rowsC f l).drop (k * esz) = rowsC f (l.drop k) := by
  induction l generalizing k with
  | nil => simp [rowsC]
  | cons a r ih =>
    cases k with
    | zero => simp
    | succ k =>
      have h1 := hf a (by simp)
      have := ih (k := k) (fun b hb => hf b (by simp [hb]))
      show (f a ++ rowsC f r).drop ((k + 1) * esz) = rowsC f (r.drop k)
      rw [← this, show (k + 1) * esz = (f a).length + k * esz by rw [h1, Nat.succ_mul]; omega, List.drop_length_add_append]
theorem rowsC_take {α : Type} {f : α → List Value} {esz : Nat} {l : List α} (hf : ∀ a ∈ l, (f a).length = esz) {k : Nat} : (rowsC f l).take (k * esz) = rowsC f (l.take k) := by
  induction l generalizing k with
  | nil => simp [rowsC]
  | cons a r ih =>
    cases k with
    | zero => simp [rowsC]
    | succ k =>
      have h1 := hf a (by simp)
      have := ih (k := k) (fun b hb => hf b (by simp [hb]))
      show (f a ++ rowsC f r).take ((k + 1) * esz) = f a ++ rowsC f (r.take k)
      rw [← this, show (k + 1) * esz = (f a).length + k * esz by rw [h1, Nat.succ_mul]; omega, List.take_length_add_append]
theorem frC_len {b : List (List Int)} (hw : BkW b) : ∀ a ∈ b, (frC a).length = 12 := fun a ha => by simp [frC, (hw a ha).len]
/-- A part of a book in memory. -/
theorem Bk.sub {H : Heap} {x : Value} {b : List (List Int)} (h : Bk H x b) (hw : BkW b) {lo n : Nat} (hn : lo + n ≤ b.length) {k k' : IntKind} :
    ∃ y, slcAV H 12 x (some (.int k (lo : Int))) (some (.int k' ((lo + n : Nat) : Int))) none = some y ∧ Bk H y ((b.drop lo).take n) ∧ BkW ((b.drop lo).take n) := by
  obtain ⟨y, h1, h2⟩ := SlR.sub h (lo := lo) (hi := lo + n) (by omega) hn (k := k) (k' := k')
  have hW : BkW ((b.drop lo).take n) := fun f hf => hw f (List.mem_of_mem_drop (List.mem_of_mem_take hf))
  refine ⟨y, h1, ?_, hW⟩
  have e1 : lo + n - lo = n := by omega
  rw [e1] at h2
  have e2 : (bkC b).drop (lo * 12) = bkC (b.drop lo) := rowsC_drop (frC_len hw)
  have e3 : (bkC (b.drop lo)).take (n * 12) = bkC ((b.drop lo).take n) := rowsC_take (frC_len fun f hf => hw f (List.mem_of_mem_drop hf))
  rw [e2, e3] at h2
  have e4 : ((b.drop lo).take n).length = n := by simp; omega
  show SlR H y 12 ((b.drop lo).take n).length (bkC ((b.drop lo).take n))
  rw [e4]; exact h2
/-- Two lists of its own, and a code. -/
def RsD (H : Heap) (r : Value × Heap) (q : List Int × ML) (c : Int) : Prop := ∃ r1 r2 G β1 β2, r = (tup [r1, r2, .int .i64 c], G) ∧ Pre H G ∧ Own G r1 β1 H.length 1 q.1.length (cs .i64 q.1) ∧ Own G r2 β2 H.length 2 q.1.length (mvsC q.2) ∧ ∀ b, β1 = some b → β2 ≠ some b
theorem mcR_len {b c : List (List Int)} {m : Int} : (mcR b c m).2.length = (mcR b c m).1.length := by
  by_cases h : mcC b c m = 0
  · rw [mcR, if_pos h]; exact mcK_len.2
  · rw [mcR, if_neg h]; rfl
theorem two_own {H : Heap} {vs ws : List Value} {e1 e2 n1 n2 : Nat} (h1 : vs.length = n1 * e1) (h2 : ws.length = n2 * e2) :
    Own (H ++ [⟨vs, e1, 0, false⟩, ⟨ws, e2, 0, false⟩]) (slc H.length 0 0 n1 n1) (some H.length) H.length e1 n1 vs ∧ Own (H ++ [⟨vs, e1, 0, false⟩, ⟨ws, e2, 0, false⟩]) (slc (H.length + 1) 0 0 n2 n2) (some (H.length + 1)) H.length e2 n2 ws :=
  ⟨⟨h1, Nat.le_refl _, 0, n1, [], rfl, Nat.le_refl _, by simp⟩, ⟨h2, by omega, 0, n2, [], rfl, Nat.le_refl _, by simp⟩⟩
theorem RsM.d {b c : List (List Int)} {m : Int} {H : Heap} {r : Value × Heap} (h : RsM H r (mcR b c m) (mcC b c m)) : RsD H r (mcR b c m) (mcC b c m) := by
  rcases h with ⟨hc, rfl⟩ | ⟨hc, rfl⟩
  · refine ⟨_, _, H, none, none, rfl, .refl, ?_, ?_, by intro b h; cases h⟩
    · rw [mcR, if_neg hc]; exact own_nil
    · rw [mcR, if_neg hc]; exact own_nil
  · obtain ⟨o1, o2⟩ := two_own (H := H) (vs := cs .i64 (mcR b c m).1) (ws := mvsC (mcR b c m).2) (e1 := 1) (e2 := 2) (n1 := (mcR b c m).1.length) (n2 := (mcR b c m).1.length) (by simp) (by rw [mvsC_length, mcR_len])
    exact ⟨_, _, _, _, _, rfl, ⟨_, rfl⟩, o1, o2, by intro b h; cases h; simp⟩
structure Ly where
  f : List Int
  x : Int
  y : Int
  d : Int
instance : Inhabited Ly := ⟨⟨[], 0, 0, 0⟩⟩
structure LyW (s : Ly) : Prop where
  len : s.f.length = 24
  ok : ∀ n ∈ s.f, u16' n
  x : i8 s.x
  y : i8 s.y
  d : i8 s.d
def lyT (f : List Int) (a b c : Value) : List Value := cs .u16 f ++ [a, b, c]
def lyC (s : Ly) : List Value := lyT s.f (.int .i8 s.x) (.int .i8 s.y) (.int .i8 s.d)
def scC (l : List Ly) : List Value := rowsC lyC l
abbrev ScW (l : List Ly) : Prop := ∀ s ∈ l, LyW s
theorem lyT_len {f : List Int} {a b c : Value} (h : f.length = 24) : (lyT f a b c).length = 27 := by simp [lyT, h]
theorem lyC_len {s : Ly} (h : LyW s) : (lyC s).length = 27 := lyT_len h.len
theorem scC_elem {l : List Ly} (h : ScW l) {i : Nat} (hi : i < l.length) : elem (scC l) 27 i = lyC (at0 l i) := rows_elem (f := lyC) (esz := 27) (fun s hs => lyC_len (h s hs)) hi
theorem lyT_at {f : List Int} {a b c : Value} (h : f.length = 24) {k : Nat} : (lyT f a b c).drop (24 + k) = [a, b, c].drop k := by
  unfold lyT
  rw [show 24 + k = (cs .u16 f).length + k by simp [h], List.drop_length_add_append]
abbrev Sc (H : Heap) (x : Value) (l : List Ly) : Prop := SlR H x 27 l.length (scC l)
def inkL (s : Ly) : List Int := sub s.f 0 12
def mskL (s : Ly) : List Int := sub s.f 12 12
theorem LyW.ink {s : Ly} (h : LyW s) : FrW (inkL s) := ⟨sub_length (by rw [h.len]; omega), fun n hn => h.ok n (sub_mem hn)⟩
theorem LyW.msk {s : Ly} (h : LyW s) : FrW (mskL s) := ⟨sub_length (by rw [h.len]; omega), fun n hn => h.ok n (sub_mem hn)⟩
def okCel (s : Ly) : Bool := (okF (inkL s) && okF (mskL s)) && decide (mixF lessI (inkL s) (mskL s) = zr 12 0)
def okLy (s : Ly) : Bool := ((okCel s && in1 s.x (-12) 12) && in1 s.y (-12) 12) && in1 s.d 0 8
/- The spec's side, in memory. -/
theorem lyC_parts {s : Ly} (h : s.f.length = 24) : ((lyC s).drop 0).take 12 = cs .u16 (inkL s) ∧ ((lyC s).drop 12).take 12 = cs .u16 (mskL s) ∧ ((lyC s).drop 24).take 1 = [.int .i8 s.x] ∧ ((lyC s).drop 25).take 1 = [.int .i8 s.y] ∧ ((lyC s).drop 26).take 1 = [.int .i8 s.d] := by
  refine ⟨?_, ?_, ?_, ?_, ?_⟩
  · unfold lyC lyT inkL
    rw [List.drop_zero, List.take_append_of_le_length (by simp [h]), show (cs .u16 s.f).take 12 = ((cs .u16 s.f).drop 0).take 12 by simp, cs_sub]
  · unfold lyC lyT mskL
    rw [List.drop_append_of_le_length (by simp [h]), List.take_append_of_le_length (by simp [h]), cs_sub]
  · unfold lyC
    rw [show 24 = 24 + 0 from rfl, lyT_at h]; rfl
  · unfold lyC
    rw [show 25 = 24 + 1 from rfl, lyT_at h]; rfl
  · unfold lyC
    rw [show 26 = 24 + 2 from rfl, lyT_at h]; rfl
/-- A layer in memory. -/
structure LyR (H : Heap) (q off ver : Nat) (s : Ly) : Prop where
  ink : rd H q off ver 12 = some (cs .u16 (inkL s))
  msk : rd H q (off + 12) ver 12 = some (cs .u16 (mskL s))
  x : rd H q (off + 24) ver 1 = some [.int .i8 s.x]
  y : rd H q (off + 25) ver 1 = some [.int .i8 s.y]
  d : rd H q (off + 26) ver 1 = some [.int .i8 s.d]
theorem LyR.of {H : Heap} {q off ver : Nat} {s : Ly} (h : rd H q off ver 27 = some (lyC s)) (hf : s.f.length = 24) : LyR H q off ver s := by
  obtain ⟨h1, h2, h3, h4, h5⟩ := lyC_parts hf
  have g1 := rd_part h (o := 0) (m := 12) (by omega)
  rw [h1, Nat.add_zero] at g1
  exact ⟨g1, by rw [rd_part h (by omega), h2], by rw [rd_part h (by omega), h3], by rw [rd_part h (by omega), h4], by rw [rd_part h (by omega), h5]⟩
theorem LyR.pre {H G : Heap} {q off ver : Nat} {s : Ly} (p : Pre H G) (h : LyR H q off ver s) : LyR G q off ver s := ⟨p.rd h.ink, p.rd h.msk, p.rd h.x, p.rd h.y, p.rd h.d⟩
theorem Sc.get {H : Heap} {x : Value} {l : List Ly} (hs : Sc H x l) (hw : ScW l) {i : Nat} (hi : i < l.length) : ∃ q off ver, idxAV 27 x (.int .i64 (i : Int)) = some (adr q off ver) ∧ rd H q off ver 27 = some (lyC (at0 l i)) ∧ LyR H q off ver (at0 l i) := by
  obtain ⟨q, off, ver, h1, h2⟩ := SlR.get1 hs hi
  rw [scC_elem hw hi] at h2
  exact ⟨q, off, ver, h1, h2, LyR.of h2 (hw _ (at0_mem hi)).len⟩
theorem lessI_row {a b : Int} (ha : u16' a) (h1 : okRow a = true) : okRow (lessI a b) = true := by
  obtain ⟨n, rfl⟩ := Int.eq_ofNat_of_zero_le ha.1
  simp [okRow] at h1 ⊢
  have e0 : IntKind.bits .u16 = 16 := rfl
  unfold lessI bitsOf
  simp only []
  have e1 : (BitVec.ofInt (IntKind.bits .u16) (n : Int) &&& ~~~BitVec.ofInt (IntKind.bits .u16) b).toNat ≤ n := by
    rw [BitVec.toNat_and]
    refine Nat.le_trans Nat.and_le_left ?_
    rw [e0, BitVec.ofInt_natCast, BitVec.toNat_ofNat]
    exact Nat.mod_le _ _
  rw [wrapu16 (by omega)]; omega
theorem lessI_ok {a b : Int} : u16' (lessI a b) := by
  have e0 : IntKind.bits .u16 = 16 := rfl
  unfold lessI bitsOf
  simp only []
  have := (BitVec.ofInt (IntKind.bits .u16) a &&& ~~~BitVec.ofInt (IntKind.bits .u16) b).isLt
  rw [e0] at this ⊢
  rw [wrapu16 (by omega)]; omega
theorem join_sub {a b : List Int} (ha : a.length = 12) (hb : b.length = 12) : sub (a ++ b) 0 12 = a ∧ sub (a ++ b) 12 12 = b := by
  constructor
  · unfold sub
    rw [List.drop_zero, List.take_append_of_le_length (by omega), List.take_of_length_le (by omega)]
  · unfold sub
    rw [List.drop_append_of_le_length (by omega), List.drop_eq_nil_of_le (by omega), List.nil_append, List.take_of_length_le (by omega)]
/- Keys. -/
abbrev Ky := Int × Int × Int
def kyC (k : Ky) : List Value := [.int .i16 k.1, .int .i8 k.2.1, .int .i8 k.2.2]
def kysC (l : List Ky) : List Value := rowsC kyC l
theorem kysC_length {l : List Ky} : (kysC l).length = l.length * 3 := rows_length (f := kyC) (esz := 3) fun _ _ => rfl
def kyF : List Value := [.int .i16 (-30101), .int .i8 (-101), .int .i8 (-101)]
/- Parts. -/
structure Pt where
  f : List Int
  e : Int
  ks : List Ky
  len : f.length = 12
instance : Inhabited Pt := ⟨⟨zr 12 0, 0, [], rfl⟩⟩
structure PtW (s : Pt) : Prop where
  ok : ∀ n ∈ s.f, u16' n
  e : i8 s.e
  ks : ∀ k ∈ s.ks, (-32768 ≤ k.1 ∧ k.1 ≤ 32767) ∧ i8 k.2.1 ∧ i8 k.2.2
def ptT (f : List Int) (a b : Value) : List Value := cs .u16 f ++ [a, b]
def ptC (s : Pt) (y : Value) : List Value := ptT s.f (.int .i8 s.e) y
theorem ptT_at {f : List Int} {a b : Value} (h : f.length = 12) {k : Nat} : (ptT f a b).drop (12 + k) = [a, b].drop k := by
  unfold ptT
  rw [show 12 + k = (cs .u16 f).length + k by simp [h], List.drop_length_add_append]
/-- Keys of a part in memory. -/
abbrev Kr (G : Heap) (y : Value) (s : Pt) : Prop := SlR G y 3 s.ks.length (kysC s.ks)
abbrev KrC (G : Heap) (y : Value) (s : Pt) : Prop := IsCp G y 3 s.ks.length (kysC s.ks) kyF
/-- Parts in memory. -/
def PtS (G : Heap) (x : Value) (l : List Pt) : Prop := ∃ vs, SlR G x 14 l.length vs ∧ ∀ i, i < l.length → ∃ y, elem vs 14 i = ptC (at0 l i) y ∧ Kr G y (at0 l i)
theorem PtS.pre {H G : Heap} {x : Value} {l : List Pt} (p : Pre H G) (h : PtS H x l) : PtS G x l := by
  obtain ⟨vs, h1, h2⟩ := h
  exact ⟨vs, h1.pre p, fun i hi => by obtain ⟨y, h3, h4⟩ := h2 i hi; exact ⟨y, h3, h4.pre p⟩⟩
theorem PtS.lenV {G : Heap} {x : Value} {l : List Pt} (h : PtS G x l) : lenV x = some (.int .i64 l.length) := by
  obtain ⟨vs, h1, _⟩ := h; exact h1.lenV
theorem PtS.get {G : Heap} {x : Value} {l : List Pt} (h : PtS G x l) {i : Nat} (hi : i < l.length) : ∃ q off ver y, idxAV 14 x (.int .i64 (i : Int)) = some (adr q off ver) ∧ rd G q off ver 14 = some (ptC (at0 l i) y) ∧ Kr G y (at0 l i) := by
  obtain ⟨vs, h1, h2⟩ := h
  obtain ⟨q, off, ver, h3, h4⟩ := h1.get1 hi
  obtain ⟨y, h5, h6⟩ := h2 i hi
  rw [h5] at h4
  exact ⟨q, off, ver, y, h3, h4, h6⟩
/-- A copy of a part: what stands in the block, whatever stands in that block itself. -/
structure CqI (H G : Heap) (b : Nat) (flag : Bool) (s : Pt) (y : Value) : Prop where
  r : ∀ k, Kr (G.set b k) y s
  n : y = .slice none 0 0 ∨ old0 H.length y = false
  c : flag = false → (∀ k, KrC (G.set b k) y s) ∧ old0 H.length y = false
theorem CqI.set {H G : Heap} {b : Nat} {flag : Bool} {s : Pt} {y : Value} {k : Blk} (h : CqI H G b flag s y) : CqI H (G.set b k) b flag s y := ⟨fun k' => by rw [set_set]; exact h.r k', h.n, fun hf => ⟨fun k' => by rw [set_set]; exact (h.c hf).1 k', (h.c hf).2⟩⟩
theorem CqI.pre {H G G' : Heap} {b : Nat} {flag : Bool} {s : Pt} {y : Value} (h : CqI H G b flag s y) (p : Pre G G') (hb : b < G.length) : CqI H G' b flag s y :=
  ⟨fun k => (h.r k).pre (set_pre p hb), h.n, fun hf => ⟨fun k => ((h.c hf).1 k).pre (set_pre p hb), (h.c hf).2⟩⟩
def ptF : Pt := ⟨bkF, -101, [(-30101, -101, -101)], rfl⟩
/-- Steps copied, with room behind. -/
def CqS (G : Heap) (x : Value) (l : List Pt) : Prop := ∃ b ver vs, x = slc b 0 ver l.length (l.length + roomN l.length) ∧ G[b]? = some ⟨vs, 14, ver, false⟩ ∧ vs.length = (l.length + roomN l.length) * 14 ∧
  (∀ i, i < l.length → ∃ y, elem vs 14 i = ptC (at0 l i) y ∧ KrC G y (at0 l i)) ∧ ∀ i, l.length ≤ i → i < l.length + roomN l.length → ∃ y, elem vs 14 i = ptC ptF y ∧ Kr G y ptF
theorem CqS.sl {G : Heap} {x : Value} {l : List Pt} (h : CqS G x l) : PtS G x l := by
  obtain ⟨b, ver, vs, rfl, hg, hl, h1, h2⟩ := h
  have e1 : l.length * 14 ≤ vs.length := by omega
  refine ⟨vs.take (l.length * 14), ⟨by simp; omega, .inr ⟨b, 0, ver, _, rfl, by omega, by rw [rd_at hg rfl (by simp; omega)]; simp, _, hg, rfl, rfl⟩⟩, fun i hi => ?_⟩
  obtain ⟨y, h3, h4⟩ := h1 i hi
  exact ⟨y, by rw [elem_take hi, h3], h4.sl kysC_length rfl⟩
theorem CqS.pre {H G : Heap} {x : Value} {l : List Pt} (p : Pre H G) (h : CqS H x l) : CqS G x l := by
  obtain ⟨b, ver, vs, rfl, hg, hl, h1, h2⟩ := h
  refine ⟨b, ver, vs, rfl, by rw [p.get (List.getElem?_eq_some_iff.1 hg).1]; exact hg, hl, fun i hi => ?_, fun i hi hi2 => ?_⟩
  · obtain ⟨y, h3, h4⟩ := h1 i hi; exact ⟨y, h3, h4.pre p⟩
  · obtain ⟨y, h3, h4⟩ := h2 i hi hi2; exact ⟨y, h3, h4.pre p⟩
def ky (ks : List Ky) (i : Nat) : Ky := at0 ks i
def kyB (ks : List Ky) (j : Nat) : Bool := ((in1 (ky ks j).1 0 200 && in1 (ky ks j).2.1 (-24) 24) && in1 (ky ks j).2.2 (-24) 24) && (decide (j = 0) || decide ((ky ks (j - 1)).1 < (ky ks j).1))
def okTk (ks : List Ky) : Bool := allN (kyB ks) ks.length && in1 ks.length 1 20
def okPt (s : Pt) : Bool := (okF s.f && okTk s.ks) && in1 s.e 0 3
abbrev KyW (ks : List Ky) : Prop := ∀ k ∈ ks, (-32768 ≤ k.1 ∧ k.1 ≤ 32767) ∧ i8 k.2.1 ∧ i8 k.2.2
/-- A part in memory. -/
structure PtR (H : Heap) (q off ver : Nat) (s : Pt) (y : Value) : Prop where
  rf : rd H q off ver 12 = some (cs .u16 s.f)
  re : rd H q (off + 12) ver 1 = some [.int .i8 s.e]
  ry : rd H q (off + 13) ver 1 = some [y]
  rk : Kr H y s
theorem PtR.of {H : Heap} {q off ver : Nat} {s : Pt} {y : Value} (h : rd H q off ver 14 = some (ptC s y)) (hk : Kr H y s) : PtR H q off ver s y := by
  have hl := s.len
  have g1 := rd_part h (o := 0) (m := 12) (by omega)
  have g2 := rd_part h (o := 12) (m := 1) (by omega)
  have g3 := rd_part h (o := 13) (m := 1) (by omega)
  unfold ptC at g1 g2 g3
  rw [show 12 = 12 + 0 from rfl, ptT_at hl] at g2
  rw [show 13 = 12 + 1 from rfl, ptT_at hl] at g3
  rw [Nat.add_zero, List.drop_zero] at g1
  unfold ptT at g1
  rw [List.take_left' (by simp [hl])] at g1
  exact ⟨g1, g2, g3, hk⟩
theorem PtR.pre {H G : Heap} {q off ver : Nat} {s : Pt} {y : Value} (p : Pre H G) (h : PtR H q off ver s y) : PtR G q off ver s y := ⟨p.rd h.rf, p.rd h.re, p.rd h.ry, SlR.pre p h.rk⟩
structure TkV (ks : List Ky) : Prop where
  n1 : 1 ≤ ks.length
  n20 : ks.length ≤ 20
  r : ∀ i, i < ks.length → (0 ≤ (ky ks i).1 ∧ (ky ks i).1 ≤ 200) ∧ (-24 ≤ (ky ks i).2.1 ∧ (ky ks i).2.1 ≤ 24) ∧ -24 ≤ (ky ks i).2.2 ∧ (ky ks i).2.2 ≤ 24
  s : ∀ i, i + 1 < ks.length → (ky ks i).1 < (ky ks (i + 1)).1
theorem okTk_V {ks : List Ky} (h : okTk ks = true) : TkV ks := by
  simp only [okTk, Bool.and_eq_true] at h
  obtain ⟨h1, h2⟩ := h
  have hl : 1 ≤ ks.length ∧ ks.length ≤ 20 := by simp [in1] at h2; omega
  refine ⟨hl.1, hl.2, fun i hi => ?_, fun i hi => ?_⟩
  · have := allN_get (p := kyB ks) h1 hi
    simp only [kyB, Bool.and_eq_true, in1, decide_eq_true_eq] at this
    exact ⟨this.1.1.1, this.1.1.2, this.1.2⟩
  · have := allN_get (p := kyB ks) h1 hi
    simp only [kyB, Bool.and_eq_true, in1, decide_eq_true_eq, Bool.or_eq_true] at this
    rcases this.2 with h | h
    · omega
    · exact h
theorem PtW.fr {s : Pt} (h : PtW s) : FrW s.f := ⟨s.len, h.ok⟩
theorem bkC_push {l : List (List Int)} {f : List Int} : bkC l ++ cs .u16 f = bkC (l ++ [f]) := by rw [bkC, bkC, rowsC_app]; simp [rowsC, frC]
theorem cntN_zero : ∀ v, v < 4096 → (cntN v = 0 ↔ v = 0) := by
  have : (List.range 4096).all (fun v => decide (cntN v = 0 ↔ v = 0)) = true := by decide +kernel
  intro v hv
  simpa using List.all_eq_true.1 this v (by simpa using hv)
theorem dotL_zrows {f : List Int} (hw : FrW f) (hk : okF f = true) {j : Nat} (hj : j ≤ 12) : (dotL f (j * 12)).length = 0 ↔ ∀ i, i < j → nth f i = 0 := by
  induction j with
  | zero =>
    rw [Nat.zero_mul, dotL_zero]
    exact ⟨fun _ i hi => by omega, fun _ => rfl⟩
  | succ j ih =>
    have ih := ih (by omega)
    obtain ⟨n, hn, hlt⟩ := okF_row hk hw (y := j) (by omega)
    have h1 := dotL_row (f := f) (y := j) (x := 12) (by omega)
    rw [row_cnt hn] at h1
    have h2 := cntN_zero n hlt
    rw [Nat.succ_mul, h1]
    constructor
    · intro h i hi
      by_cases hij : i < j
      · exact ih.1 (by omega) i hij
      · rw [show i = j by omega, hn]
        have := h2.1 (by omega)
        omega
    · intro h
      have h3 := ih.2 fun i hi => h i (by omega)
      have h4 := h j (by omega)
      have := h2.2 (by omega)
      omega
theorem cntF_zero {f : List Int} (hw : FrW f) (hk : okF f = true) : 0 < cntF f ↔ ¬ ∀ i, i < 12 → nth f i = 0 := by
  have := dotL_zrows hw hk (Nat.le_refl 12)
  rw [← this, show 12 * 12 = 144 from rfl]
  unfold cntF
  omega
theorem Gr.base {H H' G : Heap} {x : Value} {esz n : Nat} {vs : List Value} (g : Gr H' G x esz n vs) (p : Pre H H') : Gr H G x esz n vs := by
  obtain ⟨b, ver, rfl, h1, h2, h3, h4⟩ := g
  exact ⟨b, ver, rfl, h1, Nat.le_trans p.len h2, h3, p.trans h4⟩
/-- A source: a block of three cells; its bytes are elder. At most k bytes were taken. -/
def srB (x : Value) (i sd : Int) : Blk := ⟨[x, .int .i64 i, .int .u64 sd], 1, 0, false⟩
def Src (G : Heap) (P k : Nat) : Prop := ∃ x bs i sd, G[P]? = some (srB x i sd) ∧ SlR (G.take P) x 1 bs.length (cs .u8 bs) ∧ (∀ b ∈ bs, 0 ≤ b ∧ b ≤ 255) ∧ bs.length ≤ 1000000 ∧ 0 ≤ i ∧ i ≤ k
theorem pre_take {G G' : Heap} {n : Nat} (p : Pre G G') (hn : n ≤ G.length) : G'.take n = G.take n := by
  obtain ⟨L, rfl⟩ := p
  rw [List.take_append_of_le_length hn]
theorem Pre.takes {G : Heap} {n : Nat} : Pre (G.take n) G := ⟨G.drop n, (List.take_append_drop n G).symm⟩
theorem Src.lt {G : Heap} {P k : Nat} (h : Src G P k) : P < G.length := by
  obtain ⟨x, bs, i, sd, h1, _⟩ := h
  exact (List.getElem?_eq_some_iff.1 h1).1
theorem Src.le {G : Heap} {P k k' : Nat} (h : Src G P k) (hk : k ≤ k') : Src G P k' := by
  obtain ⟨x, bs, i, sd, h1, h2, h3, h4, h5, h6⟩ := h
  exact ⟨x, bs, i, sd, h1, h2, h3, h4, h5, by omega⟩
theorem Src.pre {G G' : Heap} {P k : Nat} (p : Pre G G') (h : Src G P k) : Src G' P k := by
  have hl := h.lt
  obtain ⟨x, bs, i, sd, h1, h2, h3⟩ := h
  exact ⟨x, bs, i, sd, by rw [p.get hl]; exact h1, by rw [pre_take p (Nat.le_of_lt hl)]; exact h2, h3⟩
/-- Nothing but the source's block has changed. -/
structure Mv (P : Nat) (G G' : Heap) : Prop where
  len : G'.length = G.length
  get : ∀ j, j ≠ P → G'[j]? = G[j]?
theorem Mv.refl {P : Nat} {G : Heap} : Mv P G G := ⟨rfl, fun _ _ => rfl⟩
theorem Mv.trans {P : Nat} {G G' G'' : Heap} (h : Mv P G G') (h' : Mv P G' G'') : Mv P G G'' := ⟨h'.len.trans h.len, fun j hj => (h'.get j hj).trans (h.get j hj)⟩
theorem Mv.set {P : Nat} {G : Heap} {k : Blk} : Mv P G (G.set P k) := ⟨by simp, fun j hj => List.getElem?_set_ne (Ne.symm hj)⟩
theorem Mv.take {P : Nat} {G G' : Heap} (h : Mv P G G') {n0 : Nat} (hn : n0 ≤ P) : G'.take n0 = G.take n0 := by
  apply List.ext_getElem?
  intro i
  rw [List.getElem?_take, List.getElem?_take]
  split
  · rw [h.get i (by omega)]
  · rfl
theorem Src.mv {P k : Nat} {G G' : Heap} (h : Src G P k) (hP : G'[P]? = G[P]?) (hj : ∀ j, j < P → G'[j]? = G[j]?) : Src G' P k := by
  obtain ⟨x, bs, i, sd, h1, h2, h3⟩ := h
  refine ⟨x, bs, i, sd, by rw [hP]; exact h1, ?_, h3⟩
  have : G'.take P = G.take P := by
    apply List.ext_getElem?
    intro j
    rw [List.getElem?_take, List.getElem?_take]
    split
    · exact hj j ‹_›
    · rfl
  rw [this]; exact h2
theorem Src.take {P k n : Nat} {G : Heap} (h : Src G P k) (hn : P < n) : Src (G.take n) P k :=
  h.mv (by rw [List.getElem?_take, if_pos hn]) fun j hj => by rw [List.getElem?_take, if_pos (by omega)]
theorem nthI_ok {bs : List Int} (h : ∀ b ∈ bs, 0 ≤ b ∧ b ≤ 255) {i : Nat} (hi : i < bs.length) : 0 ≤ nth bs i ∧ nth bs i ≤ 255 := h _ (nth_mem hi)
theorem and255 {x : Int} : 0 ≤ bitsOf .and .u64 x 255 ∧ bitsOf .and .u64 x 255 ≤ 255 := by
  have e0 : IntKind.bits .u64 = 64 := rfl
  unfold bitsOf
  simp only []
  have : (BitVec.ofInt (IntKind.bits .u64) x &&& BitVec.ofInt (IntKind.bits .u64) 255).toNat ≤ 255 := by
    rw [BitVec.toNat_and]
    exact Nat.and_le_right
  rw [wrapu64 (by omega)]; omega
theorem call550 {G : Heap} {P k : Nat} (h : Src G P k) (hk : k ≤ 1000000000000) : ∃ v G', Call tab false 550 [adr P 0 0] G = some (.int .i64 v, G') ∧ 0 ≤ v ∧ v ≤ 255 ∧ Mv P G G' ∧ Src G' P (k + 1) := by
  have key : ∃ r, Call tab false 550 [adr P 0 0] G = some r ∧ ∃ v G', r = (.int .i64 v, G') ∧ 0 ≤ v ∧ v ≤ 255 ∧ Mv P G G' ∧ Src G' P (k + 1) := by
    have hl := h.lt
    obtain ⟨x, bs, i, sd, h1, h2, h3, h4, h5, h6⟩ := h
    have hx : SlR G x 1 bs.length (cs .u8 bs) := h2.pre Pre.takes
    refine Call_ex t550 (.inl rfl) rfl ?_
    have r0 : ∀ i sd, rd (G.set P (srB x i sd)) P 0 0 1 = some [x] := fun i sd => rd_at (ver := 0) (get_set (k' := srB x i sd) h1) rfl (by simp [srB])
    have r1 : ∀ i sd, rd (G.set P (srB x i sd)) P 1 0 1 = some [.int .i64 i] := fun i sd => rd_at (ver := 0) (get_set (k' := srB x i sd) h1) rfl (by simp [srB])
    have r2 : ∀ i sd, rd (G.set P (srB x i sd)) P 2 0 1 = some [.int .u64 sd] := fun i sd => rd_at (ver := 0) (get_set (k' := srB x i sd) h1) rfl (by simp [srB])
    have w1 : ∀ i sd i', wr G.length true (G.set P (srB x i sd)) P 1 0 [.int .i64 i'] = some (G.set P (srB x i' sd)) := fun i sd i' => by
      have := wr_at (n0 := G.length) (wb := true) (off := 1) (vs := [.int .i64 i']) (ver := 0) (get_set (k' := srB x i sd) h1) rfl rfl (by simp [may]) (by simp [srB])
      rw [set_set] at this; exact this
    have w2 : ∀ i sd sd', wr G.length true (G.set P (srB x i sd)) P 2 0 [.int .u64 sd'] = some (G.set P (srB x i sd')) := fun i sd sd' => by
      have := wr_at (n0 := G.length) (wb := true) (off := 2) (vs := [.int .u64 sd']) (ver := 0) (get_set (k' := srB x i sd) h1) rfl rfl (by simp [may]) (by simp [srB])
      rw [set_set] at this; exact this
    have e9 : IntKind.wrap .i64 (i + 1) = i + 1 := wrap64 (by omega)
    have r0' := r0 i sd; have r1' := r1 i sd; have w1' := w1 i sd
    rw [set_self h1] at r0' r1' w1'
    have hS : ∀ sd', Src (G.set P (srB x (i + 1) sd')) P (k + 1) := fun sd' => ⟨x, bs, i + 1, sd', get_set h1, by rw [Mv.set.take (Nat.le_refl P)]; exact h2, h3, h4, by omega, by omega⟩
    obtain ⟨m, rfl⟩ := Int.eq_ofNat_of_zero_le h5
    by_cases hlt : m < bs.length
    · obtain ⟨q, off, ver, ha, hr⟩ := hx.get1 hlt
      rw [elem_i hlt] at hr
      have hb := nthI_ok h3 hlt
      have u1 : IntKind.wrap .i64 (nth bs m) = nth bs m := wrap64 (by omega)
      have hle : (m : Int) + 1 ≤ bs.length := by omega
      simp [c550, k550, r0', r1', hx.lenV, hlt, ha, hr, w1', e9, r0, r1, r2, w2, u1, hle, wbOf]
      exact ⟨_, _, ⟨rfl, rfl⟩, hb.1, hb.2, .set, hS _⟩
    · have hle : ¬ (m : Int) + 1 ≤ bs.length := by omega
      have hlt' : ¬ (m : Int) < bs.length := by omega
      have u2 : ∀ y, IntKind.wrap .i64 (bitsOf .and .u64 y 255) = bitsOf .and .u64 y 255 := fun y => wrap64 (by have := and255 (x := y); omega)
      have u3 : ∀ y, shiftOf .shr .u64 y 40 = some (.int .u64 (y.fdiv (2 ^ 40))) := fun y => rfl
      simp [c550, k550, r0', r1', hx.lenV, hlt, hlt', w1', e9, r0, r1, r2, w2, hle, wbOf, u2, u3]
      exact ⟨_, _, ⟨rfl, rfl⟩, and255.1, and255.2, .set, hS _⟩
  obtain ⟨r, hc, v, G', rfl, h⟩ := key
  exact ⟨v, G', hc, h⟩
theorem call459 {G : Heap} {P k : Nat} {n : Int} (h : Src G P k) (hk : k ≤ 100000000000) (hn : 1 ≤ n ∧ n ≤ 1000000) : ∃ v G', Call tab false 459 [adr P 0 0, .int .i64 n] G = some (.int .i64 v, G') ∧ (0 ≤ v ∧ v < n) ∧ Mv P G G' ∧ Src G' P (k + 2) := by
  have key : ∃ r, Call tab false 459 [adr P 0 0, .int .i64 n] G = some r ∧ ∃ v G', r = (.int .i64 v, G') ∧ (0 ≤ v ∧ v < n) ∧ Mv P G G' ∧ Src G' P (k + 2) := by
    refine Call_ex t459 (.inl rfl) rfl ?_
    by_cases h1 : n ≤ 1
    · simp [c459, k459, h1]
      exact ⟨_, _, ⟨rfl, rfl⟩, ⟨by omega, by omega⟩, .refl, h.le (by omega)⟩
    have hn0 : n ≠ 0 := by omega
    obtain ⟨v, G1, c1, v0, v1, m1, s1⟩ := call550 h (by omega)
    have hmod : ∀ a : Int, 0 ≤ a → a.tmod n = a % n ∧ 0 ≤ a % n ∧ a % n < n := fun a ha => ⟨Int.tmod_eq_emod_of_nonneg ha, Int.emod_nonneg _ hn0, Int.emod_lt_of_pos _ (by omega)⟩
    by_cases h2 : n > 200
    · obtain ⟨w, G2, c2, w0, w1, m2, s2⟩ := call550 s1 (by omega)
      have e1 : IntKind.wrap .i64 (v * 256) = v * 256 := wrap64 (by omega)
      have e2 : IntKind.wrap .i64 (v * 256 + w) = v * 256 + w := wrap64 (by omega)
      obtain ⟨g1, g2, g3⟩ := hmod (v * 256 + w) (by omega)
      have e3 : IntKind.wrap .i64 ((v * 256 + w) % n) = (v * 256 + w) % n := wrap64 (by omega)
      have m := m1.trans m2
      simp [c459, k459, h1, h2, c1, c2, wbOf, e1, e2, hn0, g1, e3]
      exact ⟨_, _, ⟨rfl, rfl⟩, ⟨g2, g3⟩, by rw [List.take_of_length_le (by rw [m.len]; exact Nat.le_refl _)]; exact ⟨m, s2⟩⟩
    · obtain ⟨g1, g2, g3⟩ := hmod v v0
      have e3 : IntKind.wrap .i64 (v % n) = v % n := wrap64 (by omega)
      have h2' : ¬ 200 < n := h2
      simp [c459, k459, h1, h2', c1, wbOf, hn0, g1, e3]
      exact ⟨_, _, ⟨rfl, rfl⟩, ⟨g2, g3⟩, by rw [List.take_of_length_le (by rw [m1.len]; exact Nat.le_refl _)]; exact ⟨m1, s1.le (by omega)⟩⟩
  obtain ⟨r, hc, v, G', rfl, h⟩ := key
  exact ⟨v, G', hc, h⟩
theorem call513 {G : Heap} {P k : Nat} {n : Int} (h : Src G P k) (hk : k ≤ 100000000000) (hn : 1 ≤ n ∧ n ≤ 1000000) : ∃ b G', Call tab false 513 [adr P 0 0, .int .i64 n] G = some (.bool b, G') ∧ Mv P G G' ∧ Src G' P (k + 2) := by
  obtain ⟨v, G', c, _, m, s⟩ := call459 h hk hn
  refine ⟨v == 0, G', Call_wp t513 (.inl rfl) rfl ?_, m, s⟩
  simp [c513, k513, c, wbOf]
  exact List.take_of_length_le (by rw [m.len]; exact Nat.le_refl _)
theorem SlR.old {H : Heap} {x : Value} {esz n : Nat} {vs : List Value} (h : SlR H x esz n vs) : old0 H.length x = true := by
  rcases h.is with ⟨rfl, _⟩ | ⟨b, off, ver, cap, rfl, _, _, k, hk, _⟩
  · rfl
  · rw [old0_slc]
    simpa using (List.getElem?_eq_some_iff.1 hk).1
theorem finish_adr {H G : Heap} {b ver : Nat} {k : Blk} (hp : Pre H G) (hb : H.length ≤ b) (hk : G[b]? = some k) (hv : ver = k.ver) (hr : k.ro = false) (ho : k.cells.all (old0 H.length) = true) :
    finish H.length G [adr b 0 ver] = (adr H.length 0 0, H ++ [{ k with ver := 0 }]) := by
  have h1 : old1 H.length (adr b 0 ver) = false := by
    show (decide (b < H.length)) = false
    simpa using hb
  have : pack H.length G [adr b 0 ver] [] [] = some ([adr H.length 0 0], [{ k with ver := 0 }]) := by
    rw [pack, if_neg (by rw [h1]; decide)]
    show (match G[b]? with
      | some k => if ([] : List Nat).contains b = false ∧ ver = k.ver ∧ k.ro = false ∧ k.cells.all (old0 H.length) = true then _ else none
      | none => none) = _
    rw [hk]
    simp only []
    rw [if_pos ⟨by simp, hv, hr, ho⟩]
    rfl
  rw [finish_some this, hp.take]; rfl
/-- A source anew. -/
theorem call315 {pu : Bool} {H : Heap} {x : Value} {bs : List Int} (hx : SlR H x 1 bs.length (cs .u8 bs)) (hb : ∀ b ∈ bs, 0 ≤ b ∧ b ≤ 255) (hn : bs.length ≤ 1000000) :
    Call tab pu 315 [x] H = some (adr H.length 0 0, H ++ [srB x 0 0]) ∧ Src (H ++ [srB x 0 0]) H.length 0 := by
  constructor
  · refine Call_wp t315 (.inr rfl) rfl ?_
    have hc : cellsOf x = [x] := by
      rcases hx.is with ⟨rfl, _⟩ | ⟨b, off, ver, cap, rfl, _⟩ <;> rfl
    have hf : fill [.slice none 0 0, .int .i64 0, .int .u64 0] [(0, 1, x)] = some [x, .int .i64 0, .int .u64 0] := by
      show (if (cellsOf x).length = 1 ∧ 0 + 1 ≤ 3 then fill (splice [.slice none 0 0, .int .i64 0, .int .u64 0] 0 (cellsOf x)) [] else none) = _
      rw [hc]; rfl
    have hfin := finish_adr (H := H) (G := H ++ [srB x 0 0]) (b := H.length) (ver := 0) Pre.one (Nat.le_refl _) get_last rfl rfl (by simp [srB, hx.old])
    have e1 : ({ srB x 0 0 with ver := 0 } : Blk) = srB x 0 0 := rfl
    rw [e1] at hfin
    simp only [srB] at hfin ⊢
    simp [c315, k315, hf, hfin]
  · refine ⟨x, bs, 0, 0, get_last, ?_, hb, hn, by omega, by omega⟩
    rw [List.take_left' rfl]
    exact hx
theorem fl_step {T : Tab} {n0 : Nat} {wb : Bool} {e : Env} {H H' : Heap} {Q : Ex → Env → Heap → Prop} {fs : List Fr} {d : Option Nat} {o : Op1} {r : List Stm} {e0 : Env} {outs : List Nat} {fl : List Opd} {v : Value}
    (h : apart e ⟨none, d, o, fl⟩ = true) (hv : ev1 (Call T) n0 wb e H o = some (v, H')) (hs : stays e H H' ⟨none, d, o, fl⟩ = true) :
    OK' T n0 wb (⟨none, d, o, fl⟩ :: r) e H e0 outs fs Q ↔ OK' T n0 wb r (put e d v) H' e0 outs fs Q := by
  unfold OK' OPS
  simp only [ops, wanted, h, hv, hs, if_true]
theorem orI_ok {a b : Int} : u16' (orI a b) := by
  have e0 : IntKind.bits .u16 = 16 := rfl
  unfold orI bitsOf
  simp only []
  have : (BitVec.ofInt (IntKind.bits .u16) a ||| BitVec.ofInt (IntKind.bits .u16) b).toNat < 2 ^ 16 := by rw [e0]; exact BitVec.isLt _
  rw [wrapu16 (by omega)]; omega
theorem orI_row {a b : Int} (ha : u16' a) (hb : u16' b) (h1 : okRow a = true) (h2 : okRow b = true) : okRow (orI a b) = true := by
  obtain ⟨n, rfl⟩ := Int.eq_ofNat_of_zero_le ha.1
  obtain ⟨m, rfl⟩ := Int.eq_ofNat_of_zero_le hb.1
  simp [okRow] at h1 h2 ⊢
  have e0 : IntKind.bits .u16 = 16 := rfl
  unfold orI bitsOf
  simp only []
  have e1 : (BitVec.ofInt (IntKind.bits .u16) (n : Int) ||| BitVec.ofInt (IntKind.bits .u16) (m : Int)).toNat = n ||| m := by
    rw [BitVec.toNat_or, e0, BitVec.ofInt_natCast, BitVec.ofInt_natCast, BitVec.toNat_ofNat, BitVec.toNat_ofNat, Nat.mod_eq_of_lt (show n < 2 ^ 16 by omega), Nat.mod_eq_of_lt (show m < 2 ^ 16 by omega)]
  have e2 : n ||| m < 2 ^ 12 := Nat.or_lt_two_pow (show n < 2 ^ 12 by omega) (show m < 2 ^ 12 by omega)
  rw [e1, wrapu16 (by omega)]; omega
/-- A valid frame. -/
structure VF (f : List Int) : Prop where
  W : FrW f
  ok : okF f = true
theorem VF.row {f : List Int} (h : VF f) {i : Nat} (hi : i < 12) : u16' (nth f i) ∧ okRow (nth f i) = true := ⟨h.W.nth hi, List.all_eq_true.1 (show f.all okRow = true from h.ok) _ (nth_mem (by rw [h.W.len]; exact hi))⟩
theorem VF.set {f : List Int} {i : Nat} {r : Int} (h : VF f) (hr : u16' r) (ho : okRow r = true) : VF (f.set i r) :=
  ⟨⟨by simp [h.W.len], fun n hn => (List.mem_or_eq_of_mem_set hn).elim (h.W.ok n) (fun e => by rw [e]; exact hr)⟩,
    List.all_eq_true.2 fun n hn => (List.mem_or_eq_of_mem_set hn).elim (fun h1 => List.all_eq_true.1 (show f.all okRow = true from h.ok) n h1) (fun e => by rw [e]; exact ho)⟩
theorem VF.zero : VF (zr 12 0) := ⟨⟨by simp, fun n hn => by simp [zr] at hn; subst hn; exact ⟨by omega, by omega⟩⟩, by decide⟩
theorem VF.put {f : List Int} {x y : Nat} (h : VF f) (hx : x < 12) (hy : y < 12) : VF (putF f x y) := by
  have hb := bit_ok hx
  obtain ⟨h1, h2⟩ := h.row hy
  exact h.set (orI_ok (a := nth f y) (b := bit x)) (orI_row h1 ⟨by omega, by omega⟩ h2 (by simp [okRow]; omega))
/-- In a function that draws: the source and a frame of its own. -/
structure Loc (G G' : Heap) (P k : Nat) (f : List Int) : Prop where
  src : Src G' P k
  fr : G'[G.length]? = some ⟨cs .u16 f, 1, 0, false⟩
  V : VF f
  len : G'.length = G.length + 1
  get : ∀ j, j < G.length → j ≠ P → G'[j]? = G[j]?
  lt : P < G.length
theorem Loc.mv {G G' G'' : Heap} {P k k' : Nat} {f : List Int} (h : Loc G G' P k f) (m : Mv P G' G'') (s : Src G'' P k') : Loc G G'' P k' f := by
  have := h.lt
  exact ⟨s, by rw [m.get _ (by omega)]; exact h.fr, h.V, by rw [m.len]; exact h.len, fun j hj hp => by rw [m.get j hp]; exact h.get j hj hp, h.lt⟩
theorem Loc.le {G G' : Heap} {P k k' : Nat} {f : List Int} (h : Loc G G' P k f) (hk : k ≤ k') : Loc G G' P k' f := ⟨h.src.le hk, h.fr, h.V, h.len, h.get, h.lt⟩
theorem Loc.set {G G' : Heap} {P k : Nat} {f g : List Int} (h : Loc G G' P k f) (hg : VF g) : Loc G (G'.set G.length ⟨cs .u16 g, 1, 0, false⟩) P k g := by
  have := h.lt
  exact ⟨h.src.mv (List.getElem?_set_ne (by omega)) fun j hj => List.getElem?_set_ne (by omega), get_set h.fr, hg, by simp [h.len], fun j hj hp => by rw [List.getElem?_set_ne (by omega)]; exact h.get j hj hp, h.lt⟩
theorem Loc.pick {G G' : Heap} {P k : Nat} {f : List Int} {n : Int} (h : Loc G G' P k f) (hk : k ≤ 100000000000) (hn : 1 ≤ n ∧ n ≤ 1000000) : ∃ v G'', Call tab false 459 [adr P 0 0, .int .i64 n] G' = some (.int .i64 v, G'') ∧ (0 ≤ v ∧ v < n) ∧ Loc G G'' P (k + 2) f ∧ G''[G.length]? = G'[G.length]? := by
  obtain ⟨v, G'', c, hv, m, s⟩ := call459 h.src hk hn
  exact ⟨v, G'', c, hv, h.mv m s, m.get _ (by have := h.lt; omega)⟩
theorem Loc.done {G G' : Heap} {P k : Nat} {f : List Int} (h : Loc G G' P k f) : Mv P G (G'.take G.length) ∧ Src (G'.take G.length) P k :=
  ⟨⟨by simp [h.len], fun j hj => by
    rw [List.getElem?_take]
    split
    · exact h.get j ‹_› hj
    · exact (List.getElem?_eq_none (by omega)).symm⟩, h.src.take h.lt⟩
def XY (u v : Value) : Prop := ∃ x y : Nat, x < 12 ∧ y < 12 ∧ u = .int .i64 x ∧ v = .int .i64 y
theorem XY.mk {x y : Int} (hx : 0 ≤ x ∧ x < 12) (hy : 0 ≤ y ∧ y < 12) : XY (.int .i64 x) (.int .i64 y) := by
  obtain ⟨a, rfl⟩ := Int.eq_ofNat_of_zero_le hx.1
  obtain ⟨b, rfl⟩ := Int.eq_ofNat_of_zero_le hy.1
  exact ⟨a, b, by omega, by omega, rfl, rfl⟩
end Fb
