/- Runs with what goes on behind them told as a list: 'simp' then looks at the next step alone. -/
import Derived.Test.YtimijcjjmeemeaaWp
set_option linter.unusedVariables false
set_option linter.unusedSimpArgs false
namespace Fb
open Go
inductive Fr where
  | seq (b : Cd)
  | blk (i : Nat)
section
variable (T : Tab) (n0 : Nat) (wb : Bool)
def kRun : List Fr → (Ex → Env → Heap → Prop) → Ex → Env → Heap → Prop
  | [], Q => Q
  | .seq b :: fs, Q => andThen (fun e H => WP T n0 wb b e H (kRun fs Q)) (kRun fs Q)
  | .blk i :: fs, Q => inBlk i (kRun fs Q)
def KK (x : Ex) (fs : List Fr) (e : Env) (H : Heap) (Q : Ex → Env → Heap → Prop) : Prop := kRun T n0 wb fs Q x e H
def WK (c : Cd) (fs : List Fr) (e : Env) (H : Heap) (Q : Ex → Env → Heap → Prop) : Prop := WP T n0 wb c e H (kRun T n0 wb fs Q)
def CK (v : Value) (a b : Cd) (fs : List Fr) (e : Env) (H : Heap) (Q : Ex → Env → Heap → Prop) : Prop := match v with
  | .bool true => WK T n0 wb a fs e H Q
  | .bool false => WK T n0 wb b fs e H Q
  | _ => False
def OK' (ss : List Stm) (e : Env) (H : Heap) (e0 : Env) (outs : List Nat) (fs : List Fr) (Q : Ex → Env → Heap → Prop) : Prop :=
  OPS T n0 wb ss e H fun e1 H' => kRun T n0 wb fs Q .normal (mask e0 e1 outs) H'
def SK (o : Option (Value × Heap)) (d : Option Nat) (r : List Stm) (e : Env) (e0 : Env) (outs : List Nat) (fs : List Fr) (Q : Ex → Env → Heap → Prop) : Prop :=
  thn o fun v H' => OK' T n0 wb r (put e d v) H' e0 outs fs Q
def GK (v : Value) (w : Bool) (o : Op1) (d : Option Nat) (r : List Stm) (e : Env) (H : Heap) (e0 : Env) (outs : List Nat) (fs : List Fr) (Q : Ex → Env → Heap → Prop) : Prop :=
  if (match v with | .bool b => b == w | _ => false) = true then SK T n0 wb (ev1 (Call T) n0 wb e H o) d r e e0 outs fs Q else OK' T n0 wb r (skip o e d) H e0 outs fs Q
end
section
variable {T : Tab} {n0 : Nat} {wb : Bool} {e : Env} {H : Heap} {Q : Ex → Env → Heap → Prop} {fs : List Fr}
@[simp] theorem KK_nil {x : Ex} : KK T n0 wb x [] e H Q ↔ Q x e H := Iff.rfl
@[simp] theorem KK_ns {b : Cd} : KK T n0 wb .normal (.seq b :: fs) e H Q ↔ WK T n0 wb b fs e H Q := Iff.rfl
@[simp] theorem KK_es {i : Nat} {b : Cd} : KK T n0 wb (.exit i) (.seq b :: fs) e H Q ↔ KK T n0 wb (.exit i) fs e H Q := Iff.rfl
@[simp] theorem KK_rs {b : Cd} : KK T n0 wb .ret (.seq b :: fs) e H Q ↔ KK T n0 wb .ret fs e H Q := Iff.rfl
@[simp] theorem KK_nb {i : Nat} : KK T n0 wb .normal (.blk i :: fs) e H Q ↔ KK T n0 wb .normal fs e H Q := Iff.rfl
@[simp] theorem KK_eb {i j : Nat} : KK T n0 wb (.exit i) (.blk j :: fs) e H Q ↔ KK T n0 wb (if i = j then .normal else .exit i) fs e H Q := by
  show (if i = j then _ else _) ↔ _
  split <;> exact Iff.rfl
@[simp] theorem KK_rb {i : Nat} : KK T n0 wb .ret (.blk i :: fs) e H Q ↔ KK T n0 wb .ret fs e H Q := Iff.rfl
@[simp] theorem WK_skip : WK T n0 wb .skip fs e H Q ↔ KK T n0 wb .normal fs e H Q := WP_skip
@[simp] theorem WK_ret : WK T n0 wb .ret fs e H Q ↔ KK T n0 wb .ret fs e H Q := WP_ret
@[simp] theorem WK_exit {i : Nat} : WK T n0 wb (.exit i) fs e H Q ↔ KK T n0 wb (.exit i) fs e H Q := WP_exit
@[simp] theorem WK_seq {a b : Cd} : WK T n0 wb (.seq a b) fs e H Q ↔ WK T n0 wb a (.seq b :: fs) e H Q := WP_seq
@[simp] theorem WK_block {i : Nat} {b : Cd} : WK T n0 wb (.block i b) fs e H Q ↔ WK T n0 wb b (.blk i :: fs) e H Q := WP_block
@[simp] theorem WK_cond {c : Opd} {a b : Cd} : WK T n0 wb (.cond c a b) fs e H Q ↔ CK T n0 wb (c.ev e) a b fs e H Q := WP_cond
@[simp] theorem CK_true {a b : Cd} : CK T n0 wb (.bool true) a b fs e H Q ↔ WK T n0 wb a fs e H Q := Iff.rfl
@[simp] theorem CK_false {a b : Cd} : CK T n0 wb (.bool false) a b fs e H Q ↔ WK T n0 wb b fs e H Q := Iff.rfl
@[simp] theorem WK_reg {outs : List Nat} {ss : List Stm} : WK T n0 wb (.reg outs ss) fs e H Q ↔ OK' T n0 wb ss e H e outs fs Q := WP_reg
@[simp] theorem OK_nil {e0 : Env} {outs : List Nat} : OK' T n0 wb [] e H e0 outs fs Q ↔ KK T n0 wb .normal fs (mask e0 e outs) H Q := OPS_nil
@[simp] theorem OK_plain {d : Option Nat} {o : Op1} {r : List Stm} {e0 : Env} {outs : List Nat} : OK' T n0 wb (⟨none, d, o, []⟩ :: r) e H e0 outs fs Q ↔ SK T n0 wb (ev1 (Call T) n0 wb e H o) d r e e0 outs fs Q := OPS_plain
@[simp] theorem OK_guard {j : Nat} {w : Bool} {d : Option Nat} {o : Op1} {r : List Stm} {e0 : Env} {outs : List Nat} : OK' T n0 wb (⟨some (j, w), d, o, []⟩ :: r) e H e0 outs fs Q ↔ GK T n0 wb (e j) w o d r e H e0 outs fs Q := OPS_guard
@[simp] theorem SK_some {v : Value} {d : Option Nat} {r : List Stm} {e0 : Env} {outs : List Nat} : SK T n0 wb (some (v, H)) d r e e0 outs fs Q ↔ OK' T n0 wb r (put e d v) H e0 outs fs Q := Iff.rfl
@[simp] theorem SK_none {d : Option Nat} {r : List Stm} {e0 : Env} {outs : List Nat} : SK T n0 wb none d r e e0 outs fs Q ↔ False := Iff.rfl
@[simp] theorem GK_tt {o : Op1} {d : Option Nat} {r : List Stm} {e0 : Env} {outs : List Nat} : GK T n0 wb (.bool true) true o d r e H e0 outs fs Q ↔ SK T n0 wb (ev1 (Call T) n0 wb e H o) d r e e0 outs fs Q := Iff.rfl
@[simp] theorem GK_ff {o : Op1} {d : Option Nat} {r : List Stm} {e0 : Env} {outs : List Nat} : GK T n0 wb (.bool false) false o d r e H e0 outs fs Q ↔ SK T n0 wb (ev1 (Call T) n0 wb e H o) d r e e0 outs fs Q := Iff.rfl
@[simp] theorem GK_tf {o : Op1} {d : Option Nat} {r : List Stm} {e0 : Env} {outs : List Nat} : GK T n0 wb (.bool true) false o d r e H e0 outs fs Q ↔ OK' T n0 wb r (skip o e d) H e0 outs fs Q := Iff.rfl
@[simp] theorem GK_ft {o : Op1} {d : Option Nat} {r : List Stm} {e0 : Env} {outs : List Nat} : GK T n0 wb (.bool false) true o d r e H e0 outs fs Q ↔ OK' T n0 wb r (skip o e d) H e0 outs fs Q := Iff.rfl
@[simp] theorem GK_u {w : Bool} {o : Op1} {d : Option Nat} {r : List Stm} {e0 : Env} {outs : List Nat} : GK T n0 wb U w o d r e H e0 outs fs Q ↔ OK' T n0 wb r (skip o e d) H e0 outs fs Q := Iff.rfl
theorem Call_wp {pu : Bool} {f : Nat} {F : Fn} (hT : T f = some (.fn F)) (hp : pu = false ∨ F.kind = .pure) {xs : List Value} {r : Value × Heap} (hn : xs.length = F.np)
    (h : WK T H.length (wbOf F.kind) F.body [] (ini xs) H fun x e' H' => (∀ i, x ≠ .exit i) ∧ (resVs e' H' F.res).map (finish H.length H') = some r) :
    Call T pu f xs H = some r := Call_wp0 hT hp hn h
/-- Behind one round of a loop. -/
def rnd (T : Tab) (n0 : Nat) (wb : Bool) (P : Env → Heap → Prop) (fs : List Fr) (Q : Ex → Env → Heap → Prop) : Ex → Env → Heap → Prop := andThen P (kRun T n0 wb fs Q)
@[simp] theorem rnd_n {P : Env → Heap → Prop} : rnd T n0 wb P fs Q .normal e H ↔ P e H := Iff.rfl
@[simp] theorem rnd_e {P : Env → Heap → Prop} {i : Nat} : rnd T n0 wb P fs Q (.exit i) e H ↔ KK T n0 wb (.exit i) fs e H Q := Iff.rfl
@[simp] theorem rnd_r {P : Env → Heap → Prop} : rnd T n0 wb P fs Q .ret e H ↔ KK T n0 wb .ret fs e H Q := Iff.rfl
theorem WK.frame {c : Cd} (h : WK T n0 wb c fs e H Q) : WP T n0 wb c e H fun x e' H' => KK T n0 wb x fs e' H' Q ∧ ∀ s, s ∉ outsAll c → e' s = e s := WP.frame h
theorem WK.mono {c : Cd} {fs' : List Fr} {Q' : Ex → Env → Heap → Prop} (h : WK T n0 wb c fs e H Q) (hq : ∀ x e' H', KK T n0 wb x fs e' H' Q → KK T n0 wb x fs' e' H' Q') : WK T n0 wb c fs' e H Q' := WP.mono h hq
/-- A loop: what holds at its head, round by round, and how many rounds there are at most. -/
theorem WK_loop {b : Cd} (I : Nat → Env → Heap → Prop) (n : Nat)
    (round : ∀ i e' H', (∀ s, s ∉ outsAll b → e' s = e s) → i ≤ n → I i e' H' → WK T n0 wb b [] e' H' (rnd T n0 wb (fun e1 H1 => i < n ∧ I (i + 1) e1 H1) fs Q))
    {i : Nat} (hi : i ≤ n) (h0 : I i e H) : WK T n0 wb (.loop b) fs e H Q := WP_loop I n round hi h0
/-- A loop that counts from 0 to n. -/
theorem WP_count {b : Cd} (v n : Nat) (m : Int) (hm : (n : Int) = m) (I : Nat → Env → Heap → Prop) (hn : n < 9223372036854775807)
    (round : ∀ i e' H', (∀ s, s ∉ outsAll b → e' s = e s) → i < n → (i : Int) < m → IntKind.wrap .i64 ((i : Int) + 1) = (i : Int) + 1 → e' v = .int .i64 (i : Int) → I i e' H' →
      WK T n0 wb b [] e' H' (rnd T n0 wb (fun e1 H1 => e1 v = .int .i64 ((i : Int) + 1) ∧ I (i + 1) e1 H1) fs Q))
    (last : ∀ e' H', (∀ s, s ∉ outsAll b → e' s = e s) → e' v = .int .i64 m → I n e' H' → WK T n0 wb b [] e' H' (rnd T n0 wb (fun _ _ => False) fs Q))
    (hv : e v = .int .i64 0) (h0 : I 0 e H) : WK T n0 wb (.loop b) fs e H Q := by
  subst hm
  refine WK_loop (fun i e' H' => e' v = .int .i64 (i : Int) ∧ I i e' H') n ?_ (Nat.zero_le _) ⟨hv, h0⟩
  rintro i e' H' hf hi ⟨h1, h2⟩
  by_cases hlt : i < n
  · refine (round i e' H' hf hlt (by omega) (wrap64 (by omega)) h1 h2).mono fun x e1 H1 h => ?_
    cases x with
    | normal => exact ⟨hlt, by rw [h.1]; rfl, h.2⟩
    | exit j => exact h
    | ret => exact h
  · obtain rfl : i = n := by omega
    refine (last e' H' hf h1 h2).mono fun x e1 H1 h => ?_
    cases x with
    | normal => exact h.elim
    | exit j => exact h
    | ret => exact h
/-- A loop that counts from a to n. -/
theorem WP_from {b : Cd} (v a n : Nat) (m : Int) (hm : (n : Int) = m) (I : Nat → Env → Heap → Prop) (hn : n < 9223372036854775807) (han : a ≤ n)
    (round : ∀ i e' H', a ≤ i → i < n → (i : Int) < m → IntKind.wrap .i64 ((i : Int) + 1) = (i : Int) + 1 → e' v = .int .i64 (i : Int) → I i e' H' →
      WK T n0 wb b [] e' H' (rnd T n0 wb (fun e1 H1 => e1 v = .int .i64 ((i : Int) + 1) ∧ I (i + 1) e1 H1) fs Q))
    (last : ∀ e' H', e' v = .int .i64 m → I n e' H' → WK T n0 wb b [] e' H' (rnd T n0 wb (fun _ _ => False) fs Q))
    (hv : e v = .int .i64 (a : Int)) (h0 : I a e H) : WK T n0 wb (.loop b) fs e H Q := by
  subst hm
  refine WK_loop (fun i e' H' => a ≤ i ∧ e' v = .int .i64 (i : Int) ∧ I i e' H') n ?_ han ⟨Nat.le_refl a, hv, h0⟩
  rintro i e' H' hf hi ⟨ha, h1, h2⟩
  by_cases hlt : i < n
  · refine (round i e' H' ha hlt (by omega) (wrap64 (by omega)) h1 h2).mono fun x e1 H1 h => ?_
    cases x with
    | normal => exact ⟨hlt, by omega, by rw [h.1]; rfl, h.2⟩
    | exit j => exact h
    | ret => exact h
  · obtain rfl : i = n := by omega
    refine (last e' H' h1 h2).mono fun x e1 H1 h => ?_
    cases x with
    | normal => exact h.elim
    | exit j => exact h
    | ret => exact h
/-- The same, in a heap that stays. -/
theorem WP_forH {b : Cd} (v n : Nat) (m : Int) (hm : (n : Int) = m) (hn : n < 9223372036854775807) (I : Nat → Env → Prop)
    (round : ∀ i e', i < n → (i : Int) < m → IntKind.wrap .i64 ((i : Int) + 1) = (i : Int) + 1 → e' v = .int .i64 (i : Int) → I i e' →
      WK T n0 wb b [] e' H (rnd T n0 wb (fun e1 H1 => H1 = H ∧ e1 v = .int .i64 ((i : Int) + 1) ∧ I (i + 1) e1) fs Q))
    (last : ∀ e', e' v = .int .i64 m → I n e' → WK T n0 wb b [] e' H (rnd T n0 wb (fun _ _ => False) fs Q))
    (hv : e v = .int .i64 0) (h0 : I 0 e) : WK T n0 wb (.loop b) fs e H Q := by
  refine WP_count v n m hm (fun i e' H' => H' = H ∧ I i e') hn ?_ ?_ hv ⟨rfl, h0⟩
  · rintro i e' _ _ h1 h2 h3 h4 ⟨rfl, h5⟩
    refine (round i e' h1 h2 h3 h4 h5).mono fun x e1 H1 h => ?_
    cases x with
    | normal => exact ⟨h.2.1, h.1, h.2.2⟩
    | exit j => exact h
    | ret => exact h
  · rintro e' _ _ h1 ⟨rfl, h2⟩
    exact last e' h1 h2
end
end Fb
