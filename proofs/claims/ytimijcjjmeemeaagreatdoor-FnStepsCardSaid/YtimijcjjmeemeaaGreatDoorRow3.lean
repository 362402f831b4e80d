/- Rows whose calls read variables of Go's library. -/
import Derived.Test.YtimijcjjmeemeaaGreatDoorRow2
import Derived.Test.YtimijcjjmeemeaaGreatDoorSoundY
import Derived.SizedLaws
import Derived.Lib.LaidU8
import Derived.Lib.LaidTab
import Derived.Lay
import Derived.MakeChecks
import Derived.Stop.Joined
set_option linter.unusedVariables false
set_option linter.unusedSimpArgs false
namespace Fb
open Go Go.ChangeShapes Go.WideShapes Go.RowKit

/-- The package-level variables, as the call finds them. -/
def glob (P : Program) (W : World) (pn : Option Nat := none) : Glb := ⟨fun B => if B < P.globals.size then W.heap[B]? else none, pn⟩
section
variable {P : Program} {W w : World} {pn : Option Nat}
theorem glob_sees : ∀ B o, glob P W pn B = some o → W.heap[B]? = some o := by
  intro B o h
  change (if B < P.globals.size then W.heap[B]? else none) = some o at h
  split at h
  · exact h
  · cases h
theorem glob_heap (h : Sees (glob P W pn) w) {g : Nat} {o : Obj} (hg : g < P.globals.size) (ho : W.heap[g]? = some o) : w.heap[g]? = some o :=
  h g o (by show (if g < P.globals.size then W.heap[g]? else none) = some o; rw [if_pos hg]; exact ho)
theorem glob_var (h : Sees (glob P W pn) w) {n : String} {g : Nat} {cs : Array Value} (hn : P.globalNamed n = some g) (hg : g < P.globals.size) (hv : W.var? P n = some cs) : w.var? P n = some cs := by
  unfold World.var? at hv ⊢
  rw [hn, Option.bind_some] at hv ⊢
  split at hv
  · rename_i c t f hh
    rw [glob_heap h hg hh]
    exact hv
  · cases hv
theorem glob_cell (h : Sees (glob P W pn) w) {g off : Nat} {v : Value} (hg : g < P.globals.size) (hv : W.cell? ⟨g, off, none⟩ = some v) : w.cell? ⟨g, off, none⟩ = some v := by
  unfold World.cell? at hv ⊢
  split at hv
  · rename_i c t f hh
    rw [glob_heap h hg hh]
    exact hv
  · cases hv
theorem laid_tab {l : List (String × DataW Unit)} {name : String} {k : IntKind} {zs : List Int} {g : Nat} {t e : TypeId} {n : Nat} (hg : P.globalNamed name = some g) (hty : (P.globals[g]?).map (·.type) = some t) (ht : P.underlying t = some (.array n e))
    (he : P.underlying e = some (.int k)) (hce : P.cellsOf e = 1) (hct : P.cellsOf t = n) (h : laidMet P l W) (hm : (name, Lib.tabData k zs) ∈ l) : Lib.TabIs P W name k zs := by
  obtain ⟨g', t', cs, fuel, p, hg', ht', hvar, hd⟩ := Lib.laidMet.reads h hm
  obtain rfl := Option.some.inj (hg.symm.trans hg')
  obtain rfl := Option.some.inj (hty.symm.trans ht')
  unfold Lib.TabIs
  rw [hvar, ← Lib.cells_of_tab ht he hce hct hd]
theorem laid_iface {l : List (String × DataW Unit)} {name nm : String} {d : DataW Unit} {g : Nat} {t : TypeId} {ms : Array (String × TypeId)} (hg : P.globalNamed name = some g) (hty : (P.globals[g]?).map (·.type) = some t) (ht : P.underlying t = some (.interface ms))
    (h : laidMet P l W) (hm : (name, DataW.iface nm d) ∈ l) : ∃ tp p, W.var? P name = some #[.iface tp p] := by
  obtain ⟨g', t', cs, fuel, p, hg', ht', hvar, hd⟩ := Lib.laidMet.reads h hm
  obtain rfl := Option.some.inj (hg.symm.trans hg')
  obtain rfl := Option.some.inj (hty.symm.trans ht')
  obtain ⟨_, u, v, hcs, _⟩ := iface_of_trod ht hd
  refine ⟨u, v, ?_⟩
  rw [hvar]
  congr 1
  exact Array.toList_inj.1 hcs
end
section
variable {H : Type} {enc : TypeId × Value → H}
/-- The wrap: the contract is handed the world's shape and what the row lists. -/
theorem handed_laid {a : Assume} {C : Checked} {os : Os} {f : FuncId} {fn : Func} {s : ChangeSpec} {conds : List PathCond} {apart fresh handsOn again : Bool} {laid : List (String × DataW Unit)}
    (own : ownKnob C.prog.godebug = none) (started : os.Started) (noInit : C.prog.inits.idxOf? f = none) (hfn : C.prog.funcs[f]? = some fn)
    (witness : ∃ (w : World) (tape : Tape) (i : Input), w.os = os ∧ (w.forCall tape i).Shaped C.prog ∧ i.vars = [] ∧ Input.okWide C.prog (w.forCall tape i) .any w.heap.size f i ∧
      ((s.pre enc C.prog fn conds apart (w.forCall tape i).memory i.args ∧ laidMetH C.prog laid (w.forCall tape i).memory) ∧ sizedMet enc C.prog fn (OpenSpec.ofChange s) apart (w.forCall tape i).memory i.args) ∧ a.holds C.prog (lone (Frame.enter C.prog f i.args .normal) [] (w.forCall tape i)))
    (contract : ∀ (W : World) (base : Nat) (args : Array Value) (ds gs : List (DataW H)) (before : List MemPlace),
      (∀ (j : Nat) t v, fn.params[j]? = some t → args[j]? = some v → Value.okWide C.prog W .any base t v) →
      DataW.Whole enc C.prog fn.params.toList s.vars apart W args.toList ds gs before →
      W.ShapedOpen C.prog → laidMetH C.prog laid W →
      Calls C.prog f args W fun e W' => ∃ v, e = .returned v ∧ s.post enc C.prog fn apart fresh handsOn again W args v W') :
    ReturnsInHanded a C os f .any (fun w args => (s.pre enc C.prog fn conds apart w args ∧ laidMetH C.prog laid w) ∧ sizedMet enc C.prog fn (OpenSpec.ofChange s) apart w args) (s.post enc C.prog fn apart fresh handsOn again) := by
  refine returnsInHanded_of_calls own started noInit witness ?_
  intro w tape i _ hsh _ hok hpre hholds
  obtain ⟨_, _, _, fn', hfn', _, _, _, _, hval⟩ := hok
  have e : fn' = fn := Option.some.inj (hfn'.symm.trans hfn)
  subst e
  obtain ⟨⟨⟨ds, gs, before, hw, hc⟩, hx⟩, hz⟩ := hpre
  have hw' := DataW.Whole.of_heap (w' := w.forCall tape i) (by rfl) hw
  refine (contract (w.forCall tape i) w.heap.size i.args ds gs before hval hw' hsh (laidMetH.of_heap (by rfl) hx)).mono fun e W' ⟨v, he, hp⟩ => ?_
  subst he
  exact ChangeSpec.post_blind hp
end
section
variable {Hd : Type} {enc : TypeId × Value → Hd} {P : Program} {W W' : World}
/-- A law that reads a package-level variable of strings (block 0 of the small language's memory). -/
theorem law_calls_pin {inv : FuncId → Option Nat} {isPure : Nat → Bool} {ρ : Nat → FuncId} {T : Tab} {g : Nat} {vs : List (List UInt8)} {el : TypeId} {fz : Nat × Nat} (hg : W.heap[g]? = some (.cells (vs.map str).toArray el fz)) (hmix : P.follows .mixedOrders = true)
    (hi : ∀ f i, inv f = some i → ρ i = f) (hT : ∀ f D, T f = some D → DefOk P inv isPure ρ (glob P W (some g)) f D)
    {f : Nat} {d : Nat} {ts : List TypeId} {Ts : List Ty} (hTs : ts.mapM (tyOf P d) = some Ts)
    (hlaw : ∀ H xs, RdAll H Ts xs → (∀ (b : Nat) (k : Blk), H[b]? = some k → k.ro = true) → H[0]? = some ⟨vs.map str, 1, 0, true⟩ → ∃ H', Call T false f xs H = some (.bool true, H'))
    {r : Reach} {base : Nat} {args : Array Value} {ds : List (DataW Hd)} {ps : List MemPlace} (hval : ∀ (j : Nat) t v, ts[j]? = some t → args.toList[j]? = some v → Value.okWide P W r base t v) (hd : DataW.TrodAll enc P W 0 (fun _ => true) true ts args.toList ds ps) :
    Calls P (ρ f) args W fun e W' => e = .returned (.bool true) ∧ Kept W W' := by
  let C0 : Cx := ⟨ρ, [⟨vs.map str, 1, 0, true⟩], fun b => if b = 0 then some (g, 0) else none, fun _ => vs.length⟩
  have hW0 : WR C0 W := by
    refine ⟨fun b B δ h => ?_, fun b b' B δ δ' h h' hne => ?_⟩
    · have h : (if b = 0 then some (g, 0) else none) = some (B, δ) := h
      split at h
      · rename_i hb
        cases h
        subst hb
        refine ⟨⟨vs.map str, 1, 0, true⟩, rfl, _, el, fz, hg, by simp [C0], by simp, strs_flat, ?_, fun hf => by cases hf⟩
        have e : (((vs.map str).toArray.toList.drop 0).take (vs.map str).length) = vs.map str := by rw [List.toList_toArray, List.drop_zero, List.take_length]
        dsimp only
        rw [e]
        exact VRs.strs
      · cases h
    · have h : (if b = 0 then some (g, 0) else none) = some (B, δ) := h
      have h' : (if b' = 0 then some (g, 0) else none) = some (B, δ') := h'
      split at h
      · split at h'
        · exfalso; omega
        · cases h'
      · cases h
  have hr0 : AllRo C0 := fun b k hk => by
    cases b with
    | zero => cases hk; rfl
    | succ b => cases hk
  obtain ⟨C, xs, g1, g2, g3, g4, g5⟩ := lift_args hTs hval hd hW0 hr0
  have h0 : C.H[0]? = some ⟨vs.map str, 1, 0, true⟩ := by
    obtain ⟨L, hL⟩ := g1.H
    rw [hL]; rfl
  obtain ⟨H', hcall⟩ := hlaw C.H xs g5 g3 h0
  obtain ⟨k, hk⟩ := of_Call hcall
  obtain ⟨_, h2⟩ := (callF_ok hmix hi hT k).1 false f xs C.H _ H' hk
  have hpin : AR C ⟨0, 0, some 0⟩ ⟨g, 0, none⟩ := .cur (k := ⟨vs.map str, 1, 0, true⟩) (B := g) (δ := 0) h0 ((g1.σ 0 (by simp [C0])).1.trans rfl)
  have := h2 C W args.toList rfl g1.ρ g2 ⟨fun B o hB => ⟨glob_sees B o hB, fun b _ k _ hk => g3 b k hk⟩, fun g' hg' => by cases hg'; exact hpin⟩ g4
  rw [Array.toArray_toList] at this
  refine Calls.mono this fun e W' ⟨v', he, C', _, _, hX, hv⟩ => ?_
  have : v' = .bool true := hv.bool_inv
  subst this
  exact ⟨he, ⟨fun B hB => hX.keep B hB fun b k δ hk _ => g3 b k hk, hX.hsz, ⟨hX.os.1, hX.os.2.1⟩, hX.fz⟩⟩
theorem var_kept (h : Kept W W') {n : String} {cs : Array Value} (hv : W.var? P n = some cs) : W'.var? P n = some cs := by
  unfold World.var? at hv ⊢
  cases hg : P.globalNamed n with
  | none => rw [hg] at hv; cases hv
  | some g =>
    rw [hg, Option.bind_some] at hv
    rw [Option.bind_some]
    split at hv
    · rename_i c t f hh
      rw [h.heap g (Array.getElem?_eq_some_iff.1 hh).1, hh]
      exact hv
    · cases hv
theorem trodVars_old {sp : Nat → Bool} (hk : Kept W W') (hl : laidOutB P = true) (hm : mapsRowed P = true)
    (hz : ((List.range P.types.size).all fun t => match P.underlying t with | some (.slice e) => decide (0 < P.cellsOf e) | _ => true) = true) (hgt : ∀ (g : Nat) t, (P.globals[g]?).map (·.type) = some t → t < P.types.size) :
    ∀ {ns : List String} {ds : List (DataW Hd)} {ps : List MemPlace}, (∀ x ∈ ps, W.sameAt W' x) → DataW.TrodVars enc P W (fun _ => true) ns ds ps → (∀ p ∈ ps, sp p.block = true) → DataW.TrodVars enc P W' sp ns ds ps
  | [], [], _, _, h, _ => h
  | [], _ :: _, _, _, h, _ => h.elim
  | _ :: _, [], _, _, h, _ => h.elim
  | _ :: _, _ :: _, _, hs, ⟨g, t, cs, fuel, p, q, h1, h2, h3, h4, h5, e⟩, hp => by
    subst e
    refine ⟨g, t, cs, fuel, p, q, h1, h2, var_kept hk h3, ?_, trodVars_old hk hl hm hz hgt (fun x hx => hs x (by simp [hx])) h5 (fun x hx => hp x (by simp [hx])), rfl⟩
    have h6 := DataW.trod_respare (kids_rows hl hm) (fun t e ht => slices_full_of P hz t e ht) fuel t cs.toList (_, p) (hgt g t h2) h4 (spare' := sp) (fun x hx => hp x (by simp [hx]))
    exact DataW.trod_carry fuel _ _ _ h6 fun x hx => hs x (by simp [hx])
/-- What the row asks behind the call, of a row with package-level variables. -/
theorem law_post_vars {fn : Func} {s : ChangeSpec} {apart fresh handsOn again : Bool} {args : Array Value} {ds gs : List (DataW Hd)} {before : List MemPlace} (hW : DataW.Whole enc P fn.params.toList s.vars apart W args.toList ds gs before)
    (hs : s.fn Hd (ds ++ gs) = { results := [.lit (.bool true)], args := ds, vars := gs }) (hk : Kept W W') {tb : TypeId} (hb : fn.resultTypes = #[tb]) (hu : P.underlying tb = some .bool) (hl : laidOutB P = true) (hm : mapsRowed P = true)
    (hz : ((List.range P.types.size).all fun t => match P.underlying t with | some (.slice e) => decide (0 < P.cellsOf e) | _ => true) = true) (hp : ∀ t ∈ fn.params.toList, t < P.types.size) (hgt : ∀ (g : Nat) t, (P.globals[g]?).map (·.type) = some t → t < P.types.size) :
    s.post enc P fn apart fresh handsOn again W args (.bool true) W' := by
  have hW0 := hW
  obtain ⟨p, q, h1, h2, h3, _⟩ := hW
  subst h3
  have hlt := hW0.lt
  refine post_of_old (pa := p) (pv := q) hW0 (fun b sp hd => ?_) (fun sp hsp => ?_) (fun sp hsp => ?_) rfl (hk.but _) hk.fz (fun j t r hj hr => ?_)
  · rw [hs, hb]
    exact ⟨[], [], ⟨1, by simp [DataW.trod, hu, Value.resultList, Value.cells]⟩, rfl, rfl⟩
  · rw [hs]
    exact trodAll_carry (fun x hx => hk.same (hlt x (by simp [hx]))) (h1.respare (kids_rows hl hm) (fun t e ht => slices_full_of P hz t e ht) hp fun x hx => hsp x (by simp [hx]))
  · rw [hs]
    exact trodVars_old hk hl hm hz hgt (fun x hx => hk.same (hlt x (by simp [hx]))) h2 fun x hx => hsp x (by simp [hx])
  · rw [hb] at hj hr
    cases j with
    | zero =>
      cases hj
      have : r = .bool true := by simpa [Value.resultList] using hr.symm
      rw [this]
      exact okWide_bool_mk hu true
    | succ j => simp at hj
end
section
variable {P : Program} {W : World}
/-- An array of strings that reads as these strings holds them. -/
theorem cells_of_words {H : Type} {enc : TypeId × Value → H} {base : Nat} {sp : Nat → Bool} {held : Bool} {fuel : Nat} {t e : TypeId} {n : Nat} {cs : List Value} {vs : List (List UInt8)} {p : List MemPlace}
    (ht : P.underlying t = some (.array n e)) (he : P.underlying e = some .string) (hce : P.cellsOf e = 1) (hct : P.cellsOf t = n)
    (h : DataW.trod enc P W base sp held fuel t cs = some (.agg (vs.map fun v => .lit (.string v)), p)) : cs = vs.map str := by
  cases fuel with
  | zero => simp [DataW.trod] at h
  | succ fuel =>
    simp only [DataW.trod, ht, hce, hct, Nat.mul_one] at h
    split at h
    · rename_i hl
      obtain ⟨xs, hm, hx⟩ := Option.map_eq_some_iff.1 h
      have hxs : xs.map (·.1) = vs.map fun v => (DataW.lit (.string v) : DataW H) := by
        have := congrArg Prod.fst hx
        simpa using this
      have hxl : xs.length = n := by simpa using Lib.mapM_length hm
      have hvl : vs.length = n := by
        have := congrArg List.length hxs
        simp at this
        omega
      apply List.ext_getElem?
      intro i
      by_cases hi : i < n
      · obtain ⟨b, hb, hf⟩ := Lib.mapM_at hm i i (by simp [hi])
        obtain ⟨s, hc, rfl, _⟩ := DataW.trod_string he hf
        have h1 : cs[i]? = some (.string s) := by
          have := congrArg (·[0]?) hc
          simpa [List.getElem?_take, List.getElem?_drop] using this
        have h2 : (xs.map (·.1))[i]? = some (DataW.lit (.string s.data.toList) : DataW H) := by simp [hb]
        rw [hxs] at h2
        simp only [List.getElem?_map, Option.map_eq_some_iff, DataW.lit.injEq, Lit.string.injEq] at h2
        obtain ⟨v, hv, rfl⟩ := h2
        rw [h1, List.getElem?_map, hv, Option.map_some, ← string_eq]
      · rw [List.getElem?_eq_none (by omega), List.getElem?_eq_none (by simp; omega)]
    · cases h
/-- The package-level variable of words, as the row lists it. -/
theorem laid_words {l : List (String × DataW Unit)} {name : String} {vs : List (List UInt8)} {g : Nat} {t e : TypeId} {n : Nat} (hg : P.globalNamed name = some g) (hty : (P.globals[g]?).map (·.type) = some t) (ht : P.underlying t = some (.array n e))
    (he : P.underlying e = some .string) (hce : P.cellsOf e = 1) (hct : P.cellsOf t = n) (h : laidMet P l W) (hm : (name, .agg (vs.map fun v => .lit (.string v))) ∈ l) : ∃ el fz, W.heap[g]? = some (.cells (vs.map str).toArray el fz) := by
  obtain ⟨g', t', cs, fuel, p, hg', ht', hvar, hd⟩ := Lib.laidMet.reads h hm
  obtain rfl := Option.some.inj (hg.symm.trans hg')
  obtain rfl := Option.some.inj (hty.symm.trans ht')
  have hcs := cells_of_words ht he hce hct hd
  unfold World.var? at hvar
  rw [hg, Option.bind_some] at hvar
  split at hvar
  · rename_i c t2 f hh
    cases hvar
    refine ⟨t2, f, ?_⟩
    rw [hh, ← hcs]
  · cases hvar
end
theorem globals_lt {P : Program} (h : (P.globals.toList.all fun g => decide (g.type < P.types.size)) = true) : ∀ (g : Nat) t, (P.globals[g]?).map (·.type) = some t → t < P.types.size := fun g t hg => by
  obtain ⟨x, hx, rfl⟩ := Option.map_eq_some_iff.1 hg
  have := List.all_eq_true.1 h x (by rw [← Array.getElem?_toList] at hx; exact List.mem_of_getElem? hx)
  exact of_decide_eq_true this
end Fb
