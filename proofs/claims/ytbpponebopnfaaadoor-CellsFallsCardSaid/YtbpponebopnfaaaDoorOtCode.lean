/- Code: what has to be shown of a function's body for its contract. -/
import Derived.Test.YtbpponebopnfaaaDoorOtInv
set_option linter.unusedVariables false
set_option linter.unusedSimpArgs false
namespace Go.Ot

def gslot (ops : Array Oper) (X : St) (g : Nat) : D := match (ops[g]?).bind (·.dst) with | some s => X.sl.getD s .bad | none => .bad

/-- A region's operations, one by one. -/
def wpR (Γ : Gl) (P : Program) (ops : Array Oper) : List Oper → St → List Meta → (St → List Meta → Prop) → Prop
  | [], X, acc, K => K X acc
  | o :: os, X, acc, K =>
    match o.guard with
    | none => ∃ r, OpSpec Γ P o X r ∧ Tidy r ∧ wpR Γ P ops os (X.app o.dst r) (acc ++ [r.info]) K
    | some (g, want) => ∃ b, wantIs (gslot ops X g) want = some b ∧ (b = true → ∃ r, OpSpec Γ P o X r ∧ Tidy r ∧ wpR Γ P ops os (X.app o.dst r) (acc ++ [r.info]) K) ∧
        (b = false → wpR Γ P ops os (X.app o.dst { val := udf }) (acc ++ [⟨[], [], false⟩]) K)

def wpC (Γ : Gl) (P : Program) : Code → (Exit → St → Prop) → St → Prop
  | .skip, Q, X => Q .normal X
  | .region _ ops draw, Q, X => wpR Γ P ops ops.toList X [] fun Z ms => (draw = true → regOk ops ms = true) ∧ Q .normal Z
  | .seq a b, Q, X => wpC Γ P a (fun e Z => match e with | .normal => ∃ Z', Le Γ Z Z' ∧ wpC Γ P b Q Z' | e => Q e Z) X
  | .cond c x y, Q, X => ∃ b, ev X c = .t (.v (.bool b)) ∧ (b = true → wpC Γ P x Q X) ∧ (b = false → wpC Γ P y Q X)
  | .block id c, Q, X => wpC Γ P c (fun e Z => match e with | .exit id' => if id' = id then Q .normal Z else Q (.exit id') Z | e => Q e Z) X
  | .loop c, Q, X => ∃ (I : St → Prop) (μ : St → Nat), (∃ X', Le Γ X X' ∧ I X') ∧ ∀ Y, I Y → wpC Γ P c (fun e Z => match e with | .normal => ∃ Z', Le Γ Z Z' ∧ I Z' ∧ μ Z' < μ Y | e => Q e Z) Y
  | .exit id, Q, X => Q (.exit id) X
  | .label _, Q, X => Q .normal X
  | .goto l, Q, X => Q (.goto l) X
  | .ret, Q, X => Q .ret X
  | _, _, _ => False

theorem wpR_chain {Γ : Gl} {P : Program} {ops : Array Oper} {K : St → List Meta → Prop} : ∀ (os : List Oper) (i : Nat) (X : St) (acc : List Meta), i ≤ ops.size → (∀ k, os[k]? = ops[i + k]?) → wpR Γ P ops os X acc K →
    ∃ rs Z, Chain Γ P ops i X rs Z ∧ (∀ r ∈ rs, Tidy r) ∧ K Z (acc ++ rs.map Rec.info)
  | [], i, X, acc, hle, hos, h => by
    have hlen : i = ops.size := by
      have := hos 0
      simp only [List.getElem?_nil, Nat.add_zero] at this
      have := Array.getElem?_eq_none_iff.1 this.symm
      omega
    exact ⟨[], X, .nil hlen, by simp, by simpa [wpR] using h⟩
  | o :: os, i, X, acc, hle, hos, h => by
    have ho : ops[i]? = some o := by simpa using (hos 0).symm
    have hle' : i + 1 ≤ ops.size := (Array.getElem?_eq_some_iff.1 ho).1
    have hos' : ∀ k, os[k]? = ops[i + 1 + k]? := fun k => by
      have := hos (k + 1)
      rw [List.getElem?_cons_succ] at this
      rw [this]
      congr 1
      omega
    have run : ∀ (hw : wantD ops X o = some true), (∃ r, OpSpec Γ P o X r ∧ Tidy r ∧ wpR Γ P ops os (X.app o.dst r) (acc ++ [r.info]) K) → ∃ rs Z, Chain Γ P ops i X rs Z ∧ (∀ r ∈ rs, Tidy r) ∧ K Z (acc ++ rs.map Rec.info) := by
      intro hw ⟨r, h1, h2, h3⟩
      obtain ⟨rs, Z, h4, h5, h6⟩ := wpR_chain os (i + 1) _ _ hle' hos' h3
      exact ⟨r :: rs, Z, .cons ho (.inl ⟨hw, h1⟩) h4, fun x hx => (List.mem_cons.1 hx).elim (fun e => e ▸ h2) (h5 x), by simpa using h6⟩
    simp only [wpR] at h
    cases hg : o.guard with
    | none =>
      rw [hg] at h
      exact run (by simp [wantD, hg]) h
    | some gw =>
      obtain ⟨g, want⟩ := gw
      rw [hg] at h
      obtain ⟨b, hb, h1, h2⟩ := h
      have hw : wantD ops X o = some b := by
        unfold gslot at hb
        unfold wantD
        rw [hg]
        simp only
        split at hb
        · rename_i s hs
          rw [hs]
          exact hb
        · cases hb
      cases b with
      | true => exact run hw (h1 rfl)
      | false =>
        obtain ⟨rs, Z, h4, h5, h6⟩ := wpR_chain os (i + 1) _ _ hle' hos' (h2 rfl)
        exact ⟨{ val := udf } :: rs, Z, .cons ho (.inr ⟨hw, rfl⟩) h4, fun x hx => (List.mem_cons.1 hx).elim (fun e => by subst e; exact fun _ => rfl) (h5 x), by simpa [Rec.info] using h6⟩

theorem chain_open {Γ : Gl} {P : Program} {ops : Array Oper} : ∀ {i : Nat} {X : St} {rs : List Rec} {Z : St}, Chain Γ P ops i X rs Z → i + rs.length = ops.size ∧ ∃ S : Nat → St, S i = X ∧ S ops.size = Z ∧ (∀ j o r, i ≤ j → ops[j]? = some o → rs[j - i]? = some r → S (j + 1) = (S j).app o.dst r ∧ Spec Γ P ops o (S j) r) := by
  intro i X rs Z h
  induction h with
  | @nil i X h => exact ⟨by simp [h], fun _ => X, rfl, rfl, fun j o r _ _ hr => by simp at hr⟩
  | @cons i o X Z r rs hi hs hc ih =>
    obtain ⟨h1, S, h2, h3, h4⟩ := ih
    have hlt : i < ops.size := (Array.getElem?_eq_some_iff.1 hi).1
    refine ⟨by simp; omega, fun j => if j = i then X else S j, by simp, ?_, fun j o' r' hj ho hr => ?_⟩
    · have : ops.size ≠ i := by omega
      simp [this, h3]
    · by_cases e : j = i
      · subst e
        rw [hi] at ho
        cases ho
        simp at hr
        subst hr
        simp only [if_true]
        have : j + 1 ≠ j := by omega
        simp only [this, if_false]
        exact ⟨h2, hs⟩
      · have e1 : j + 1 ≠ i := by omega
        simp only [e, e1, if_false]
        refine h4 j o' r' (by omega) ho ?_
        rw [show j - i = (j - (i + 1)) + 1 from by omega] at hr
        simpa using hr

theorem region_sound {Γ : Gl} {P : Program} (hmix : P.follows .mixedOrders = true) {id : Nat} {ops : Array Oper} {draw : Bool} {K : St → Prop} {X : St} {E : Env} {a : Act} {w : World} {η : Et}
    (h : wpR Γ P ops ops.toList X [] fun Z ms => (draw = true → regOk ops ms = true) ∧ K Z) (hS : Sim Γ E X a w η) : (Code.region id ops draw).wp P (fun e a' w' => e = .normal ∧ ∃ Z η', K Z ∧ Sim Γ E Z a' w' η') a w := by
  obtain ⟨rs, Z, hc, ht, h1, h2⟩ := wpR_chain ops.toList 0 X [] (Nat.zero_le _) (fun k => by simp) h
  cases draw with
  | false =>
    refine wp_region ?_
    have := chain_ops hc hS (Q := fun e a' w' => e = .normal ∧ ∃ Z η', K Z ∧ Sim Γ E Z a' w' η') (fun a' w' η' hS' => ⟨rfl, Z, η', h2, hS'⟩)
    rw [List.range_eq_range']
    simpa using this
  | true =>
    refine wp_region_any hmix ?_
    obtain ⟨hlen, S, hS0, hSn, hSt⟩ := chain_open hc
    have hO : Open Γ P ops X rs S := by
      refine ⟨by omega, hS0, fun i o r ho hr => (hSt i o r (Nat.zero_le _) ho (by simpa using hr)).1, fun i o r ho hr => (hSt i o r (Nat.zero_le _) ho (by simpa using hr)).2, fun i r hr => ht r (List.mem_of_getElem? hr)⟩
    have hS' : Sim Γ E X a { w with drawn := w.drawn + 1 } η := hS.world rfl rfl rfl rfl
    refine open_any hO (by simpa using h1 rfl) (fun a' w' η' hS'' => ⟨rfl, Z, η', h2, by rw [hSn] at hS''; exact hS''⟩) ops.size _ a _ η (by simp) ?_ (fun i hi => ?_) ?_
    · exact Nat.le_trans (List.length_filter_le _ _) (by simp)
    · have : (Array.replicate ops.size false).getD i false = false := by
        simp [Array.getD_eq_getD_getElem?, Array.getElem?_replicate]
        split <;> rfl
      rw [this] at hi
      cases hi
    · have e : (fun j => (Array.replicate ops.size false).getD j false) = fun j => decide (j < 0) := by
        funext j
        simp [Array.getD_eq_getD_getElem?, Array.getElem?_replicate]
        split <;> rfl
      rw [e, hO.fold 0 ops.size (Nat.le_refl _) (Nat.zero_le _), hS0]
      exact hS'

theorem wpC_sound {Γ : Gl} {P : Program} (hmix : P.follows .mixedOrders = true) {E : Env} : ∀ (c : Code) (Q : Exit → St → Prop) (X : St) (a : Act) (w : World) (η : Et), wpC Γ P c Q X → Sim Γ E X a w η → c.wp P (fun e a' w' => ∃ Z η', Q e Z ∧ Sim Γ E Z a' w' η') a w
  | .skip, Q, X, a, w, η, h, hS => wp_skip ⟨X, η, h, hS⟩
  | .region id ops draw, Q, X, a, w, η, h, hS => by
    refine wp_mono (region_sound hmix h hS) (fun e a' w' he => ?_)
    obtain ⟨rfl, Z, η', h1, h2⟩ := he
    exact ⟨Z, η', h1, h2⟩
  | .seq x y, Q, X, a, w, η, h, hS => by
    refine wp_seq (wp_mono (wpC_sound hmix x _ X a w η h hS) (fun e a' w' he => ?_))
    obtain ⟨Z, η', h1, h2⟩ := he
    cases e with
    | normal =>
      obtain ⟨Z', h3, h4⟩ := h1
      obtain ⟨η'', h5⟩ := h3 E a' w' η' h2
      exact wpC_sound hmix y Q Z' a' w' η'' h4 h5
    | exit id => exact ⟨Z, η', h1, h2⟩
    | goto l => exact ⟨Z, η', h1, h2⟩
    | ret => exact ⟨Z, η', h1, h2⟩
    | panic ch => exact ⟨Z, η', h1, h2⟩
    | outgrown => exact ⟨Z, η', h1, h2⟩
  | .cond c x y, Q, X, a, w, η, h, hS => by
    obtain ⟨b, hb, h1, h2⟩ := h
    have he := hS.ev c
    rw [hb] at he
    have he : a.eval c = .bool b := he
    exact wp_cond_split he (fun e => wpC_sound hmix x Q X a w η (h1 e) hS) (fun e => wpC_sound hmix y Q X a w η (h2 e) hS)
  | .block id c, Q, X, a, w, η, h, hS => by
    refine wp_block (wp_mono (wpC_sound hmix c _ X a w η h hS) (fun e a' w' he => ?_))
    obtain ⟨Z, η', h1, h2⟩ := he
    cases e with
    | exit id' =>
      simp only [Exit.inBlock]
      split
      · rename_i e; simp only [e, if_true] at h1; exact ⟨Z, η', h1, h2⟩
      · rename_i e; simp only [e, if_false] at h1; exact ⟨Z, η', h1, h2⟩
    | normal => exact ⟨Z, η', h1, h2⟩
    | goto l => exact ⟨Z, η', h1, h2⟩
    | ret => exact ⟨Z, η', h1, h2⟩
    | panic ch => exact ⟨Z, η', h1, h2⟩
    | outgrown => exact ⟨Z, η', h1, h2⟩
  | .loop c, Q, X, a, w, η, h, hS => by
    obtain ⟨I, μ, ⟨X', hle, hI⟩, hr⟩ := h
    obtain ⟨η0, hS'⟩ := hle E a w η hS
    intro b k cs
    have key : ∀ n Y a w η, μ Y = n → I Y → Sim Γ E Y a w η → ∃ e a' w', (∃ Z η', Q e Z ∧ Sim Γ E Z a' w' η') ∧ Arrives P (lone (b.at a (.code c :: .inLoop c :: k)) cs w) b k cs e a' w' := by
      intro n
      induction n using Nat.strongRecOn with
      | _ n ih =>
        intro Y a w η hn hI hS
        obtain ⟨e, a₁, w₁, ⟨Z, η', hq, hS1⟩, harr⟩ := wpC_sound hmix c _ Y a w η (hr Y hI) hS b (.inLoop c :: k) cs
        cases e with
        | normal =>
          obtain ⟨Z', hle, hI', hlt⟩ := hq
          obtain ⟨η'', hS2⟩ := hle E a₁ w₁ η' hS1
          obtain ⟨e₂, a₂, w₂, hq₂, harr₂⟩ := ih (μ Z') (hn ▸ hlt) Z' a₁ w₁ η'' rfl hI' hS2
          exact ⟨e₂, a₂, w₂, hq₂, .of_steps (Steps.trans harr (.one step_inLoop)) harr₂⟩
        | exit id => exact ⟨_, a₁, w₁, ⟨Z, η', hq, hS1⟩, .pass (x := .inLoop c) rfl (fun _ _ => .inl (by simp)) harr⟩
        | goto l => exact ⟨_, a₁, w₁, ⟨Z, η', hq, hS1⟩, .pass (x := .inLoop c) rfl (fun _ _ => .inl (by simp)) harr⟩
        | ret => exact ⟨_, a₁, w₁, ⟨Z, η', hq, hS1⟩, .pass (x := .inLoop c) rfl (fun _ _ => .inl (by simp)) harr⟩
        | panic ch => exact ⟨_, a₁, w₁, ⟨Z, η', hq, hS1⟩, .pass (x := .inLoop c) rfl (fun _ _ => .inl (by simp)) harr⟩
        | outgrown => exact ⟨_, a₁, w₁, ⟨Z, η', hq, hS1⟩, .pass (x := .inLoop c) rfl (fun _ _ => .inl (by simp)) harr⟩
    obtain ⟨e, a', w', hq, harr⟩ := key _ X' a w η0 rfl hI hS'
    exact ⟨e, a', w', hq, .of_steps (.one step_loop) harr⟩
  | .exit id, Q, X, a, w, η, h, hS => wp_exit ⟨X, η, h, hS⟩
  | .label l, Q, X, a, w, η, h, hS => wp_label ⟨X, η, h, hS⟩
  | .goto l, Q, X, a, w, η, h, hS => wp_goto ⟨X, η, h, hS⟩
  | .ret, Q, X, a, w, η, h, hS => wp_ret ⟨X, η, h, hS⟩
  | .scope c, Q, X, a, w, η, h, hS => h.elim
  | .rangeFunc f ps as b, Q, X, a, w, η, h, hS => h.elim
  | .refuse why, Q, X, a, w, η, h, hS => h.elim

/-! ### a function -/
/-- The results, as a state has them. -/
def resOne (P : Program) (X : St) : ResultVar → Option D
  | .tmp t => some (X.sl.getD t .bad)
  | .cell a t => match X.sl.getD a .bad with
    | .ptr m off => match X.hp m with
      | some ob => if off + P.cellsOf t ≤ ob.cells.length ∧ ((P.underlying t).isSome && (P.info? t).isSome) = true ∧ (isAggB P t = false → P.cellsOf t = 1) then some (D.ofCells (isAggB P t) ((ob.cells.drop off).take (P.cellsOf t))) else none
      | none => none
    | _ => none
def resD (P : Program) (X : St) (rs : List ResultVar) : Option D :=
  match rs.mapM (resOne P X) with
  | some [d] => some d
  | some ds => some (.tup ds)
  | none => none

/-- What a final state has to say for a contract. -/
structure RetOk (P : Program) (fn : Func) (Z : St) (r : D) (ps' : List (Option Ob)) (ns : List Ob) : Prop where
  ex : ∃ (d : D) (src : Nm → Option Nm) (len : Nm → Prop), resD P Z fn.results.toList = some d ∧ Vw src Z.hp len r d ∧ HpVw src len Z.hp (HpRes ps' ns) ∧ (∀ k ob', HpRes ps' ns (.p k) = some ob' → ob'.row = false → src (.p k) = some (.p k))

def resSem (tmps : Array Value) : ResultVar → Sem Value
  | .tmp t => pure (tmps.getD t undef)
  | .cell a t => do loadVar t (← asAddr (tmps.getD a undef))
theorem results_eq (fn : Func) (tmps : Array Value) : results fn tmps = (do let vs ← fn.results.mapM (resSem tmps); pure (if h : vs.size = 1 then vs[0] else .tuple vs)) := by
  unfold results
  congr 1
theorem resOne_run {Γ : Gl} {P : Program} {E : Env} {X : St} {a : Act} {w : World} {η : Et} (hS : Sim Γ E X a w η) {rv : ResultVar} {d : D} (h : resOne P X rv = some d) :
    ∃ v, (resSem a.tmps rv).run P w = .ok v w ∧ Rep w (Mx X.hp η E.A) η d v := by
  cases rv with
  | tmp t =>
    cases h
    exact ⟨_, rfl, hS.ev (.tmp t)⟩
  | cell c t =>
    simp only [resOne] at h
    split at h
    · rename_i m off hd
      split at h
      · rename_i ob hm
        split at h
        · rename_i hc
          obtain ⟨h1, h2, h3⟩ := hc
          simp only [Bool.and_eq_true] at h2
          cases h
          have hr := hS.ev (.tmp c)
          simp only [ev, hd] at hr
          obtain ⟨b, s, hη, he⟩ := hr
          have he : a.tmps.getD c undef = .pointer (some ⟨b, off, none⟩) := he
          obtain ⟨cur, fr, hb⟩ := hS.block hm hη
          have hR := (hb.reps.drop off).take (P.cellsOf t)
          generalize hus : (List.take (P.cellsOf t) (List.drop off (List.take ob.cells.length cur.toList))) = us at hR
          have hlen : us.length = P.cellsOf t := by
            rw [← hus]
            have := hb.le
            have := hb.size
            simp; omega
          have hcl : ∀ j u, us[j]? = some u → w.cell? ((⟨b, off, none⟩ : Addr).add j) = some u := by
            intro j u hu
            rw [add_at, cell_of_row w b (off + j) cur ob.ty fr hb.heap]
            rw [← hus, List.getElem?_take] at hu
            split at hu
            · rw [List.getElem?_drop, List.getElem?_take] at hu
              split at hu
              · simpa using hu
              · cases hu
            · cases hu
          obtain ⟨u, hu0, hrun⟩ := run_loadVar_cells (P := P) ⟨b, off, none⟩ us h2.1 h2.2 hlen h3 hcl
          refine ⟨if isAggB P t then .agg us.toArray else u, ?_, hR.ofCells _ hu0⟩
          simp only [resSem, he, asAddr, Sem.run_bind, Sem.run_pure, Result.andThen_ok, hrun]
        · cases h
      · cases h
    · cases h

theorem results_run {Γ : Gl} {P : Program} {E : Env} {X : St} {a : Act} {w : World} {η : Et} (hS : Sim Γ E X a w η) {fn : Func} {d : D} (h : resD P X fn.results.toList = some d) : ∃ v, (results fn a.tmps).run P w = .ok v w ∧ Rep w (Mx X.hp η E.A) η d v := by
  have key : ∀ (rs : List ResultVar) (ds : List D), rs.mapM (resOne P X) = some ds → ∃ vs, (rs.mapM (resSem a.tmps)).run P w = .ok vs w ∧ RepsA w (Mx X.hp η E.A) η ds vs := by
    intro rs
    induction rs with
    | nil => intro ds h; simp at h; subst h; exact ⟨[], rfl, rfl⟩
    | cons rv rs ih =>
      intro ds h
      rw [List.mapM_cons] at h
      cases e1 : resOne P X rv with
      | none => simp [e1] at h
      | some d =>
        cases e2 : rs.mapM (resOne P X) with
        | none => simp [e1, e2] at h
        | some ds' =>
          simp [e1, e2] at h
          subst h
          obtain ⟨v, h1, h2⟩ := resOne_run hS e1
          obtain ⟨vs, h3, h4⟩ := ih ds' e2
          refine ⟨v :: vs, ?_, v, vs, rfl, h2, h4⟩
          rw [List.mapM_cons]
          simp only [Sem.run_bind, h1, h3, Result.andThen_ok, Sem.run_pure]
  unfold resD at h
  cases e : fn.results.toList.mapM (resOne P X) with
  | none => simp [e] at h
  | some ds =>
    obtain ⟨vs, h1, h2⟩ := key _ ds e
    have hl := h2.length
    have hrun : (results fn a.tmps).run P w = .ok (if h : vs.toArray.size = 1 then vs.toArray[0] else .tuple vs.toArray) w := by
      rw [results_eq, Array.mapM_eq_mapM_toList]
      simp only [Sem.run_bind, Sem.run_map, h1, Result.andThen_ok, Sem.run_pure]
    rw [hrun]
    simp only [e] at h
    match ds, vs, h2, hl, h with
    | [d0], [v0], h2, hl, h =>
      cases h
      obtain ⟨u, us', hu, h3, _⟩ := h2
      cases hu
      exact ⟨_, rfl, by simpa using h3⟩
    | [], vs, h2, hl, h =>
      cases h
      have : vs = [] := List.eq_nil_of_length_eq_zero (by simpa using hl)
      subst this
      exact ⟨_, rfl, #[], by simp, rfl⟩
    | d0 :: d1 :: ds, vs, h2, hl, h =>
      cases h
      have : ¬ vs.toArray.size = 1 := by simp at hl ⊢; omega
      simp only [this, dif_neg, not_false_eq_true]
      exact ⟨_, rfl, vs.toArray, rfl, by simpa using h2⟩

theorem good_of_wp {Γ : Gl} {P : Program} (hmix : P.follows .mixedOrders = true) {f : FuncId} {fn : Func} {c : Code} (hf : P.funcs[f]? = some fn) (hb : fn.body = some c) {args : List D} {ps : List Ob} {r : D} {ps' : List (Option Ob)} {ns : List Ob}
    (h : wpC Γ P c (fun e Z => (e = .normal ∨ e = .ret) ∧ RetOk P fn Z r ps' ns) { sl := args ++ List.replicate (fn.ntmps - args.length) .bad, hp := HpOf ps }) : Good Γ P f args ps r ps' ns := by
  intro w A η vals hG hgs hA hok hdom hmg hargs
  refine calls_of_wp hf hb ?_
  let E : Env := { w0 := w, M0 := Mut (HpOf ps) η, A := A, η0 := η }
  have hl := hargs.length
  have hS : Sim Γ E { sl := args ++ List.replicate (fn.ntmps - args.length) .bad, hp := HpOf ps } { tmps := vals.toArray ++ Array.replicate (fn.ntmps - vals.toArray.size) undef, defers := [] } w η := by
    refine { slots := ?_, ok := hok, defers := rfl, size := Nat.le_refl _, keep := fun _ _ _ => rfl, mine := fun m ob b s h1 h2 h3 => .inl ⟨m, ob, s, h1, h2, h3⟩, mine2 := fun m b s h1 => .inl ⟨m, s, h1⟩, pin := fun m ob q _ _ h => h, low := hA, os := rfl, tape := rfl, output := rfl, par := hdom, glob := hG, gle := hgs, gM := hmg }
    have hcat : ∀ (ds : List D) (us : List Value) (n : Nat), RepsA w (Mx (HpOf ps) η A) η ds us → RepsA w (Mx (HpOf ps) η A) η (ds ++ List.replicate n .bad) (us ++ List.replicate n undef) := by
      intro ds us n hr
      refine RepsA.of_get (by simp [hr.length]) (fun j d hd => ?_)
      by_cases e : j < ds.length
      · rw [List.getElem?_append_left e] at hd
        obtain ⟨u, h1, h2⟩ := hr.get hd
        exact ⟨u, by rw [List.getElem?_append_left (by rw [hr.length]; exact e)]; exact h1, h2⟩
      · rw [List.getElem?_append_right (by omega)] at hd
        rw [List.getElem?_replicate] at hd
        split at hd
        · rename_i h1
          cases hd
          exact ⟨undef, by rw [List.getElem?_append_right (by rw [hr.length]; omega), hr.length, List.getElem?_replicate, if_pos h1], trivial⟩
        · cases hd
    have := hcat args vals (fn.ntmps - args.length) hargs
    simpa [hl] using this
  refine wp_mono (wpC_sound hmix c _ _ _ w η h hS) (fun e a' w' he => ?_)
  obtain ⟨Z, η', ⟨h1, hret⟩, hS'⟩ := he
  obtain ⟨d, src, len, hd, hvw, hhp, hpin⟩ := hret.ex
  obtain ⟨v, hrun, hv⟩ := results_run hS' hd
  obtain ⟨sn, ok'⟩ := hhp.ok (A' := A) hS'.ok (fun b _ hb => .inr hb) (fun m m0 b s _ hη => hS'.ok.noA m0 b s hη) (fun m b s _ hη => hS'.ok.noA m b s hη)
  have fin : (fun e w' => ∃ v η', e = Ending.returned v ∧ Rep w' (Mx (HpRes ps' ns) η' A) η' r v ∧ HpOk w' A (HpRes ps' ns) η' ∧ w.heap.size ≤ w'.heap.size ∧ (∀ b, b < w.heap.size → ¬ Mut (HpOf ps) η b → w'.heap[b]? = w.heap[b]?) ∧
      (∀ m ob b s, HpRes ps' ns m = some ob → ob.own = true → η' m = some (b, s) → Mut (HpOf ps) η b ∨ w.heap.size ≤ b) ∧ (∀ m b s, η' m = some (b, s) → (∃ m0 s0, η m0 = some (b, s0)) ∨ w.heap.size ≤ b) ∧ (∀ m ob q, HpRes ps' ns m = some ob → ob.row = false → η m = some q → η' m = some q) ∧ w'.os = w.os ∧ w'.tape = w.tape ∧ w'.output = w.output) (.returned v) w' := by
    refine ⟨v, _, rfl, Vw.rep sn r d v hvw hv, ok', hS'.size, hS'.keep, ?_, ?_, ?_, hS'.os, hS'.tape, hS'.output⟩
    · intro m ob' b s h2 h3 h4
      rcases hhp.objs m ob' h2 with ⟨h5, _⟩ | ⟨m0, ob, h5, h6, _, _, h7, _⟩
      · simp [h5] at h4
      · simp only [h5, Option.bind_some] at h4
        exact hS'.mine m0 ob b s h6 (h7 h3) h4
    · intro m b s h2
      cases hs : src m with
      | none => simp [hs] at h2
      | some m0 =>
        simp only [hs, Option.bind_some] at h2
        exact hS'.mine2 m0 b s h2
    · intro m ob' q h2 h3 h4
      obtain ⟨k, rfl⟩ := hdom m q h4
      have hs := hpin k ob' h2 h3
      simp only [hs, Option.bind_some]
      rcases hhp.objs _ ob' h2 with ⟨h5, _⟩ | ⟨m0, ob, h5, h6, _, h7, _⟩
      · rw [hs] at h5; cases h5
      · rw [hs] at h5
        cases h5
        rcases h7 with h7 | ⟨_, _, _, h7⟩
        · exact hS'.pin _ ob q h6 (by rw [← h7]; exact h3) h4
        · cases h7
  rcases h1 with rfl | rfl
  · exact ⟨hS'.defers, v, hrun, fin⟩
  · exact ⟨hS'.defers, v, hrun, fin⟩
end Go.Ot
