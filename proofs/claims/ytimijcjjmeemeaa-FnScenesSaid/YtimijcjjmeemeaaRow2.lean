/- A law: from what the small language reckons to the row. -/
import Derived.Test.YtimijcjjmeemeaaRow
import Derived.ReadAgain
import Derived.ChangeSame
import Derived.RowKit
import Derived.RowKit3
import Derived.WideShapes
import Derived.OpenShut
set_option linter.unusedVariables false
set_option linter.unusedSimpArgs false
namespace Fb
open Go Go.ChangeShapes Go.WideShapes Go.RowKit

def RdV (H : Heap) (T : Ty) (x : Value) : Prop := match T with
  | .arr .. | .st .. => ∃ xs, x = agg xs ∧ Rd H T xs
  | _ => Rd H T [x]
def RdAll (H : Heap) : List Ty → List Value → Prop
  | [], [] => True
  | T :: Ts, x :: xs => RdV H T x ∧ RdAll H Ts xs
  | _, _ => False
theorem RdV.more {H L : Heap} {T : Ty} {x : Value} (h : RdV H T x) : RdV (H ++ L) T x := by
  unfold RdV at h ⊢
  split at h
  · obtain ⟨xs, h1, h2⟩ := h; exact ⟨xs, h1, h2.more⟩
  · obtain ⟨xs, h1, h2⟩ := h; exact ⟨xs, h1, h2.more⟩
  · exact Rd.more h
theorem RdAll.more {H L : Heap} : ∀ {Ts : List Ty} {xs : List Value}, RdAll H Ts xs → RdAll (H ++ L) Ts xs
  | [], [], _ => trivial
  | _ :: _, _ :: _, ⟨h1, h2⟩ => ⟨h1.more, RdAll.more h2⟩
/-- Memory that was there is as it was. -/
structure Kept (W W' : World) : Prop where
  heap : ∀ B, B < W.heap.size → W'.heap[B]? = W.heap[B]?
  size : W.heap.size ≤ W'.heap.size
  os : W'.os = W.os ∧ W'.output = W.output
  fz : ∀ a : Addr, a.block < W.heap.size → W'.frozen? a = W.frozen? a
section
variable {Hd : Type} {enc : TypeId × Value → Hd} {P : Program} {W W' : World}
theorem one_cell {v : Value} (h : v.oneCell' = true) : v.cells.toList = [v] := by cases v <;> first | rfl | cases h
theorem lift_arg {d : Nat} {t : TypeId} {T : Ty} (hT : tyOf P d t = some T) {v : Value} {r : Reach} {base : Nat} (hval : Value.okWide P W r base t v) {D : DataW Hd} {ps : List MemPlace} (hd : DataW.Trod enc P W 0 (fun _ => true) true t v D ps)
    {C : Cx} (hW : WR C W) (hro : AllRo C) : ∃ C' x, Grows C C' ∧ WR C' W ∧ AllRo C' ∧ VR C' x v ∧ RdV C'.H T x := by
  obtain ⟨fuel, hx⟩ := hd
  obtain ⟨C', xs, g1, g2, g3, g4, g5, g6⟩ := lift d hT (value_nosl hval) hx C hW hro
  refine ⟨C', ?_⟩
  cases d with
  | zero => cases hT
  | succ d =>
    simp only [tyOf] at hT
    have hone : v.oneCell' = true → (∀ x, xs = [x] → RdV C'.H T x) → ∃ x, Grows C C' ∧ WR C' W ∧ AllRo C' ∧ VR C' x v ∧ RdV C'.H T x := fun h1 h2 => by
      rw [one_cell h1] at g4
      have hl := g4.1
      obtain ⟨x, rfl⟩ := List.length_eq_one_iff.1 hl
      exact ⟨x, g1, g2, g3, by simpa using g4.2 0 (by simp) (by simp), h2 x rfl⟩
    split at hT
    · rename_i hu
      cases hT
      obtain ⟨b, rfl⟩ := WideShapes.okWide_bool hu hval
      exact hone rfl fun x hx => by subst hx; exact g6
    · rename_i k hu
      cases hT
      obtain ⟨n, rfl⟩ := WideShapes.okWide_int hu hval
      exact hone rfl fun x hx => by subst hx; exact g6
    · rename_i hu
      cases hT
      obtain ⟨s, rfl⟩ := WideShapes.okWide_string hu hval
      exact hone rfl fun x hx => by subst hx; exact g6
    · rename_i n e hu
      obtain ⟨A, hA, hT⟩ := Option.bind_eq_some_iff.1 hT
      split at hT
      · cases hT
        unfold Value.okWide at hval
        rw [hu] at hval
        obtain ⟨cs, rfl, _⟩ := hval
        exact ⟨agg xs, g1, g2, g3, g4.aggA g5, xs, rfl, g6⟩
      · cases hT
    · rename_i fs hu
      obtain ⟨A, hA, hT⟩ := Option.bind_eq_some_iff.1 hT
      split at hT
      · cases hT
        unfold Value.okWide at hval
        rw [hu] at hval
        obtain ⟨cs, rfl, _⟩ := hval
        exact ⟨agg xs, g1, g2, g3, g4.aggA g5, xs, rfl, g6⟩
      · cases hT
    · rename_i e hu
      obtain ⟨A, hA, hT⟩ := Option.bind_eq_some_iff.1 hT
      split at hT
      · cases hT
      · cases hT
        obtain ⟨p, len, cap, rfl⟩ := WideShapes.okWide_slice hu hval
        exact hone rfl fun x hx => by subst hx; exact g6
    · cases hT
theorem lift_args {d : Nat} {r : Reach} {base : Nat} : ∀ {ts : List TypeId} {Ts : List Ty}, ts.mapM (tyOf P d) = some Ts → ∀ {vs : List Value} {ds : List (DataW Hd)} {ps : List MemPlace}, (∀ (j : Nat) t v, ts[j]? = some t → vs[j]? = some v → Value.okWide P W r base t v) →
    DataW.TrodAll enc P W 0 (fun _ => true) true ts vs ds ps → ∀ {C : Cx}, WR C W → AllRo C → ∃ C' xs, Grows C C' ∧ WR C' W ∧ AllRo C' ∧ VRs C' xs vs ∧ RdAll C'.H Ts xs
  | [], Ts, hT, [], [], ps, _, _, C, hW, hro => by
    simp only [List.mapM_nil, pure, Option.some.injEq] at hT
    subst hT
    exact ⟨C, [], .refl C, hW, hro, .nil, trivial⟩
  | t :: ts, Ts, hT, v :: vs, D :: ds, ps, hval, ⟨p, q, h1, h2, _⟩, C, hW, hro => by
    simp only [List.mapM_cons, bind, Option.bind_eq_some_iff, pure, Option.some.injEq] at hT
    obtain ⟨T, hT1, Ts', hTs, rfl⟩ := hT
    obtain ⟨C1, x, g1, g2, g3, g4, g5⟩ := lift_arg hT1 (hval 0 t v rfl rfl) h1 hW hro
    obtain ⟨C2, xs, k1, k2, k3, k4, k5⟩ := lift_args hTs (fun j t v ht hv => hval (j + 1) t v (by simpa using ht) (by simpa using hv)) h2 g2 g3
    obtain ⟨L, hL⟩ := k1.H
    exact ⟨C2, x :: xs, g1.trans k1, k2, k3, .cons (g4.later k1.later) k4, by rw [hL]; exact g5.more, k5⟩
/-- A law that the small language reckons to true, always. -/
theorem law_calls_gl {inv : FuncId → Option Nat} {isPure : Nat → Bool} {ρ : Nat → FuncId} {T : Tab} {Gl : Glb} (hG : ∀ B o, Gl B = some o → W.heap[B]? = some o) (hpin : Gl.pin = none) (hmix : P.follows .mixedOrders = true) (hi : ∀ f i, inv f = some i → ρ i = f) (hT : ∀ f D, T f = some D → DefOk P inv isPure ρ Gl f D)
    {f : Nat} {d : Nat} {ts : List TypeId} {Ts : List Ty} (hTs : ts.mapM (tyOf P d) = some Ts) (hlaw : ∀ H xs, RdAll H Ts xs → (∀ (b : Nat) (k : Blk), H[b]? = some k → k.ro = true) → ∃ H', Call T false f xs H = some (.bool true, H'))
    {r : Reach} {base : Nat} {args : Array Value} {ds : List (DataW Hd)} {ps : List MemPlace} (hval : ∀ (j : Nat) t v, ts[j]? = some t → args.toList[j]? = some v → Value.okWide P W r base t v) (hd : DataW.TrodAll enc P W 0 (fun _ => true) true ts args.toList ds ps) :
    Calls P (ρ f) args W fun e W' => e = .returned (.bool true) ∧ Kept W W' := by
  let C0 : Cx := ⟨ρ, [], fun _ => none, fun _ => 0⟩
  have hW0 : WR C0 W := ⟨fun b B δ h => by simp [C0] at h, fun b b' B δ δ' h => by simp [C0] at h⟩
  obtain ⟨C, xs, g1, g2, g3, g4, g5⟩ := lift_args hTs hval hd hW0 (C := C0) (fun b k hk => by simp [C0] at hk)
  obtain ⟨H', hcall⟩ := hlaw C.H xs g5 g3
  obtain ⟨k, hk⟩ := of_Call hcall
  obtain ⟨_, h2⟩ := (callF_ok hmix hi hT k).1 false f xs C.H _ H' hk
  have := h2 C W args.toList rfl g1.ρ g2 ⟨fun B o hB => ⟨hG B o hB, fun b _ k _ hk => g3 b k hk⟩, fun g hg => by rw [hpin] at hg; cases hg⟩ g4
  rw [Array.toArray_toList] at this
  refine Calls.mono this fun e W' ⟨v', he, C', _, _, hX, hv⟩ => ?_
  have : v' = .bool true := hv.bool_inv
  subst this
  exact ⟨he, ⟨fun B hB => hX.keep B hB fun b k δ hk _ => g3 b k hk, hX.hsz, ⟨hX.os.1, hX.os.2.1⟩, hX.fz⟩⟩
theorem law_calls {inv : FuncId → Option Nat} {isPure : Nat → Bool} {ρ : Nat → FuncId} {T : Tab} (hmix : P.follows .mixedOrders = true) (hi : ∀ f i, inv f = some i → ρ i = f) (hT : ∀ f D, T f = some D → DefOk P inv isPure ρ Glb.none f D)
    {f : Nat} {d : Nat} {ts : List TypeId} {Ts : List Ty} (hTs : ts.mapM (tyOf P d) = some Ts) (hlaw : ∀ H xs, RdAll H Ts xs → (∀ (b : Nat) (k : Blk), H[b]? = some k → k.ro = true) → ∃ H', Call T false f xs H = some (.bool true, H'))
    {r : Reach} {base : Nat} {args : Array Value} {ds : List (DataW Hd)} {ps : List MemPlace} (hval : ∀ (j : Nat) t v, ts[j]? = some t → args.toList[j]? = some v → Value.okWide P W r base t v) (hd : DataW.TrodAll enc P W 0 (fun _ => true) true ts args.toList ds ps) :
    Calls P (ρ f) args W fun e W' => e = .returned (.bool true) ∧ Kept W W' :=
  law_calls_gl (fun _ _ h => by cases h) rfl hmix hi hT hTs hlaw hval hd
theorem Kept.but (h : Kept W W') (may : MemPlace → Prop) : W.keptBut W' may := by
  refine ⟨h.os.1, h.os.2, fun i hi => ?_⟩
  rw [h.heap i hi]
  cases W.heap[i]? with
  | none => trivial
  | some o => cases o <;> first | trivial | exact ⟨rfl, rfl, rfl, fun _ _ => rfl⟩ | exact .inr ⟨rfl, rfl⟩
theorem Kept.same (h : Kept W W') {p : MemPlace} (hp : p.block < W.heap.size) : W.sameAt W' p := by
  cases p with
  | cell b off => show W'.cell? _ = W.cell? _; simp only [World.cell?]; rw [h.heap b hp]
  | map b => exact h.heap b hp
theorem trodAll_carry {sp : Nat → Bool} : ∀ {ts : List TypeId} {vs : List Value} {ds : List (DataW Hd)} {ps : List MemPlace}, (∀ p ∈ ps, W.sameAt W' p) → DataW.TrodAll enc P W 0 sp true ts vs ds ps → DataW.TrodAll enc P W' 0 sp true ts vs ds ps
  | [], [], [], _, _, h => h
  | _ :: _, _ :: _, _ :: _, _, hs, ⟨p, q, ⟨n, h1⟩, h2, e⟩ =>
    ⟨p, q, ⟨n, DataW.trod_carry n _ _ _ h1 fun x hx => hs x (by rw [e]; exact List.mem_append_left _ hx)⟩, trodAll_carry (fun x hx => hs x (by rw [e]; exact List.mem_append_right _ hx)) h2, e⟩
theorem trodAll_len {sp : Nat → Bool} : ∀ {ts : List TypeId} {vs : List Value} {ds : List (DataW Hd)} {ps : List MemPlace}, DataW.TrodAll enc P W 0 sp true ts vs ds ps → ds.length = ts.length
  | [], [], [], _, _ => rfl
  | _ :: _, _ :: _, _ :: _, _, ⟨_, _, _, h, _⟩ => congrArg (· + 1) (trodAll_len h)
/-- What the row asks, of a world in which all that was there is as it was. -/
theorem post_of_old {f : Func} {s : ChangeSpec} {apart fresh handsOn again : Bool} {W W' : World} {args : Array Value} {v : Value} {ds gs : List (DataW Hd)} {before pa pv : List MemPlace}
    (hW : DataW.Whole enc P f.params.toList s.vars apart W args.toList ds gs before)
    (hres : ∀ (b : Nat) (sp : Nat → Bool) (hd : Bool), DataW.TrodAll enc P W' b sp hd f.resultTypes.toList (v.resultList f.resultTypes.size) (s.fn Hd (ds ++ gs)).results [])
    (hargs : ∀ sp : Nat → Bool, (∀ p ∈ before, sp p.block = true) → DataW.TrodAll enc P W' 0 sp true f.params.toList args.toList (s.fn Hd (ds ++ gs)).args pa)
    (hvars : ∀ sp : Nat → Bool, (∀ p ∈ before, sp p.block = true) → DataW.TrodVars enc P W' sp s.vars (s.fn Hd (ds ++ gs)).vars pv)
    (hps : before = pa ++ pv) (hk : W.keptBut W' (· ∈ before)) (hfz : ∀ a : Addr, a.block < W.heap.size → W'.frozen? a = W.frozen? a)
    (hok : ∀ (j : Nat) (t : TypeId) (r : Value), f.resultTypes[j]? = some t → (v.resultList f.resultTypes.size)[j]? = some r → Value.okWide P W' .any 0 t r) :
    s.post enc P f apart fresh handsOn again W args v W' := by
  have hlt := hW.lt
  have hold : ∀ p ∈ before, (fun b => decide (b < W.heap.size)) p.block = true := fun p hp => by simpa using hlt p hp
  refine ⟨ds, gs, before, [], pa, pv, hW, hres _ _ _, hargs _ hold, hvars _ hold, World.keptBut_mono (fun p hp => ⟨hp, ?_⟩) hk, fun _ => ?_⟩
  · rw [hps, List.mem_append] at hp
    exact Or.inr hp
  · obtain ⟨_, _, _, _, _, hz, hn⟩ := hW
    refine ⟨hok, _, _, ([] ++ pa) ++ pv, ⟨[] ++ pa, pv, trodAll_append (hargs _ (fun _ _ => rfl)) (hres _ _ _), hvars _ (fun _ _ => rfl), rfl, ?_, ?_⟩, ?_⟩
    · intro b off hp
      have hb : MemPlace.cell b off ∈ before := by rw [hps]; simpa using hp
      rw [hfz _ (hlt _ hb)]
      exact hz b off hb
    · intro ha
      have := hn ha
      rw [hps] at this
      simpa using this
    · intro p hp _
      rw [hps]
      simpa using hp
/-- What the row asks behind the call. -/
theorem law_post {fn : Func} {s : ChangeSpec} {apart fresh handsOn again : Bool} {args : Array Value} {ds gs : List (DataW Hd)} {before : List MemPlace} (hW : DataW.Whole enc P fn.params.toList s.vars apart W args.toList ds gs before) (hv : s.vars = [])
    (hs : s.fn Hd ds = { results := [.lit (.bool true)], args := ds }) (hk : Kept W W') {tb : TypeId} (hb : fn.resultTypes = #[tb]) (hu : P.underlying tb = some .bool) (hl : laidOutB P = true) (hm : mapsRowed P = true)
    (hz : ((List.range P.types.size).all fun t => match P.underlying t with | some (.slice e) => decide (0 < P.cellsOf e) | _ => true) = true) (hp : ∀ t ∈ fn.params.toList, t < P.types.size) :
    s.post enc P fn apart fresh handsOn again W args (.bool true) W' := by
  have hW0 := hW
  obtain ⟨p, q, h1, h2, h3, _⟩ := hW
  rw [hv] at h2
  have hq : gs = [] ∧ q = [] := by
    cases gs with
    | nil => exact ⟨rfl, h2⟩
    | cons _ _ => exact h2.elim
  obtain ⟨rfl, rfl⟩ := hq
  rw [List.append_nil] at h3
  subst h3
  have hlt := hW0.lt
  have hfn : s.fn Hd (ds ++ []) = { results := [.lit (.bool true)], args := ds } := by rw [List.append_nil]; exact hs
  refine post_of_old (pa := before) (pv := []) hW0 (fun b sp hd => ?_) (fun sp hsp => ?_) (fun sp _ => ?_) (by simp) (hk.but _) hk.fz (fun j t r hj hr => ?_)
  · rw [hfn, hb]
    exact ⟨[], [], ⟨1, by simp [DataW.trod, hu, Value.resultList, Value.cells]⟩, rfl, rfl⟩
  · rw [hfn]
    exact trodAll_carry (fun x hx => hk.same (hlt x hx)) (h1.respare (kids_rows hl hm) (fun t e ht => slices_full_of P hz t e ht) hp hsp)
  · rw [hfn, hv]
    rfl
  · rw [hb] at hj hr
    cases j with
    | zero =>
      cases hj
      have : r = .bool true := by simpa [Value.resultList] using hr.symm
      rw [this]
      exact okWide_bool_mk hu true
    | succ j => simp at hj
end
end Fb
