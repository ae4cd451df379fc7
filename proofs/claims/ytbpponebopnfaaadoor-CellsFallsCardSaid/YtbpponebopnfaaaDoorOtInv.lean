/- A call, by its contract. -/
import Derived.Test.YtbpponebopnfaaaDoorOtCall
set_option linter.unusedVariables false
set_option linter.unusedSimpArgs false
namespace Go.Ot

/-- The objects behind a call. -/
def callUpd (X : St) (nms : List Nm) (ps' : List (Option Ob)) (ns : List Ob) (rid i : Nat) (sh : Bool) (len : List Nm) : List (Nm × Option Ob) :=
  (nms.zip ps').map (fun p => (p.1, p.2.map (Ob.ren (renOf nms rid i)))) ++ (ns.zipIdx.map fun p => (Nm.r rid i p.2, some (p.1.ren (renOf nms rid i)))) ++ (if sh then len.map fun m => (m, (X.hp m).map Ob.frz) else [])
def callRec (X : St) (nms : List Nm) (r : D) (ps' : List (Option Ob)) (ns : List Ob) (rid i : Nat) (sh : Bool) (len poi : List Nm) : Rec :=
  { val := r.ren (renOf nms rid i), upd := callUpd X nms ps' ns rid i sh len, F := nms ++ len ++ (List.range ns.length).map (Nm.r rid i), poi := poi, bar := !poi.isEmpty }

theorem updL_last {m : Nm} {o : Option Ob} : ∀ {us : List (Nm × Option Ob)} {h : Nm → Option Ob}, (∀ o', (m, o') ∈ us → o' = o) → m ∈ us.map (·.1) → updL h us m = o
  | [], h, _, hm => by simp at hm
  | (m', o') :: us, h, hu, hm => by
    simp only [updL]
    by_cases e : m ∈ us.map (·.1)
    · exact updL_last (fun o'' ho => hu o'' (by simp [ho])) e
    · have e' : m = m' := by simpa [e] using hm
      subst e'
      rw [updL_not _ _ e, upd_same]
      exact hu o' (by simp)

theorem getD_of {α : Type} {l : List α} {k : Nat} {x d : α} (h : l[k]? = some x) : l.getD k d = x := by simp [List.getD_eq_getElem?_getD, h]

section
variable {Γ : Gl} {P : Program} {o : Oper} {X : St}

theorem spec_call (g : Operand) (args : Array Operand) (tys : Array TypeId) (h : o.op = .call { callee := .value g, args := args, argTypes := tys }) {f : FuncId} {caps : List D} (hg : ev X g = .fn f caps) (hc : callOk P f = true)
    (nms len : List Nm) {cargs : List D} {ps : List Ob} {r : D} {ps' : List (Option Ob)} {ns : List Ob} (hG : Good Γ P f cargs ps r ps' ns)
    (hv : VwL (srcOf nms) X.hp (· ∈ len) cargs (args.toList.map (ev X) ++ caps)) (hhp : HpVw (srcOf nms) (· ∈ len) X.hp (HpOf ps)) (hl1 : nms.length = ps.length) (hl2 : ps'.length = ps.length) (hex : ∀ m ∈ nms, X.hp m ≠ none)
    (rid i : Nat) (hnew : ∀ k, k < ns.length → X.hp (.r rid i k) = none) (sh : Bool)
    (hsh : sh = false → r.flat = true ∧ (∀ ob ∈ ns, D.flatL ob.cells = true) ∧ ∀ ob, some ob ∈ ps' → D.flatL ob.cells = true)
    (poi : List Nm) (hpoi : ∀ (k : Nat) m, nms[k]? = some m → m ∉ poi → (∃ ob, ps[k]? = some ob ∧ ob.row = false) ∧ ∃ ob', ps'[k]? = some (some ob') ∧ ob'.row = false) (hdis : ∀ m ∈ len, m ∉ nms) (hlex : ∀ m ∈ len, X.hp m ≠ none)
    (hlp : sh = true → ∀ m ∈ len, ∀ ob, X.hp m = some ob → ∀ p ∈ poi, D.hasL p ob.cells = false) (hrow : ∀ (k : Nat) ob1, ps'[k]? = some (some ob1) → ob1.row = false → ∃ ob, ps[k]? = some ob ∧ ob.row = false) :
    OpSpec Γ P o X (callRec X nms r ps' ns rid i sh len poi) := by
  intro E Y a w η hA hS K Q hK
  have hopX : ∀ x ∈ args.toList, ev Y x = ev X x := fun x hx => hA.2.1 x (by rw [h]; simp [Op.operands, Call.operands]; exact .inr (by simpa using hx))
  have hgX : ev Y g = ev X g := hA.2.1 g (by rw [h]; simp [Op.operands, Call.operands])
  have hF : ∀ m, m ∈ nms ∨ m ∈ len ∨ (∃ k, k < ns.length ∧ m = .r rid i k) → Y.hp m = X.hp m := fun m hm => hA.2.2 m (by
    simp only [callRec, List.mem_append, List.mem_map, List.mem_range]
    rcases hm with hm | hm | ⟨k, hk, rfl⟩
    · exact .inl (.inl hm)
    · exact .inl (.inr hm)
    · exact .inr ⟨k, hk, rfl⟩)
  have hvY : VwL (srcOf nms) Y.hp (· ∈ len) cargs (args.toList.map (ev X) ++ caps) := VwL.congr (fun m hm => hF m (.inr (.inl hm))) _ _ hv
  have srcmem : ∀ m m0, srcOf nms m = some m0 → ∃ k, m = .p k ∧ nms[k]? = some m0 ∧ m0 ∈ nms := fun m m0 hm => by
    cases m with
    | p k => exact ⟨k, rfl, hm, List.mem_of_getElem? hm⟩
    | n k => cases hm
    | r a b c => cases hm
  have hhpY : HpVw (srcOf nms) (· ∈ len) Y.hp (HpOf ps) := by
    refine ⟨fun m ob' hm => ?_, hhp.dom, hhp.inj, hhp.lent⟩
    rcases hhp.objs m ob' hm with h1 | ⟨m0, ob, h1, h2, h3, h4, h5, h6⟩
    · exact .inl h1
    · obtain ⟨k, _, _, hmem⟩ := srcmem m m0 h1
      exact .inr ⟨m0, ob, h1, (hF m0 (.inl hmem)).trans h2, h3, h4, h5, VwL.congr (fun m hm => hF m (.inr (.inl hm))) _ _ h6⟩
  -- what the callee must not know
  let Ac : Nat → Prop := fun b => Mx Y.hp η E.A b ∧ ∀ m s, m ∈ nms ∨ m ∈ len → η m ≠ some (b, s)
  obtain ⟨sn, ok⟩ := hhpY.ok (A' := Ac) hS.ok (fun b _ hb => hb.1) (fun m m0 b s h1 h2 h3 => by
    obtain ⟨k, _, _, hmem⟩ := srcmem m m0 h1
    exact h3.2 m0 s (.inl hmem) h2) (fun m b s h1 h2 h3 => h3.2 m s (.inr h1) h2)
  generalize hηc : (fun m => (srcOf nms m).bind η) = ηc at sn ok
  have ηc_p : ∀ k m, nms[k]? = some m → ηc (.p k) = η m := fun k m hk => by rw [← hηc]; simp [srcOf, hk]
  have ηc_dom : ∀ m q, ηc m = some q → ∃ k, m = .p k := fun m q hq => by
    rw [← hηc] at hq
    cases m with
    | p k => exact ⟨k, rfl⟩
    | n k => simp [srcOf] at hq
    | r a b c => simp [srcOf] at hq
  have mutSub : ∀ b, Mut (HpOf ps) ηc b → ∃ m s, m ∈ nms ∧ η m = some (b, s) ∧ ∃ ob, Y.hp m = some ob ∧ ob.own = true := by
    rintro b ⟨m, ob', s, h1, h2, h3⟩
    rcases hhpY.objs m ob' h1 with ⟨h4, _⟩ | ⟨m0, ob, h4, h5, _, _, h6, _⟩
    · rw [← hηc] at h3; simp [h4] at h3
    · obtain ⟨k, rfl, hk, hmem⟩ := srcmem m m0 h4
      rw [ηc_p k m0 hk] at h3
      exact ⟨m0, s, hmem, h3, ob, h5, h6 h2⟩
  have mutM : ∀ b, Mut (HpOf ps) ηc b → Mut Y.hp η b := fun b hb => by
    obtain ⟨m, s, _, h2, ob, h3, h4⟩ := mutSub b hb
    exact ⟨m, ob, s, h3, h4, h2⟩
  have hGw : Γ.G w := Γ.st E.w0 w (fun b hb => hS.keep b (Nat.lt_of_lt_of_le hb hS.gle) (fun hM => by have := hS.gM b hM; omega)) hS.glob
  have hgs : Γ.gs ≤ w.heap.size := Nat.le_trans hS.gle hS.size
  have hAc : ∀ b, Ac b → b < w.heap.size := fun b hb => by
    rcases hb.1 with ⟨m, ob, s, h1, h2, h3⟩ | h1
    · exact hS.ok.lt h3
    · exact Nat.lt_of_lt_of_le (hS.low b h1) hS.size
  have hmg : ∀ b, Mut (HpOf ps) ηc b → Γ.gs ≤ b := fun b hb => by
    obtain ⟨m, s, _, h2, ob, h3, h4⟩ := mutSub b hb
    rcases hS.mine m ob b s h3 h4 h2 with h5 | h5
    · exact hS.gM b h5
    · exact Nat.le_trans hS.gle h5
  -- the arguments
  have hrg := hS.ev g
  rw [hgX, hg] at hrg
  obtain ⟨cv, heg, hcv⟩ := hrg
  have hargs : RepsA w (Mx Y.hp η E.A) η (args.toList.map (ev X) ++ caps) (args.toList.map a.eval ++ cv.toList) := by
    have h1 : RepsA w (Mx Y.hp η E.A) η (args.toList.map (ev X)) (args.toList.map a.eval) := RepsA.of_ops _ (fun x hx => by rw [← hopX x hx]; exact hS.ev x)
    have key : ∀ (ds : List D) (us : List Value) (es : List D) (vs : List Value), RepsA w (Mx Y.hp η E.A) η ds us → RepsA w (Mx Y.hp η E.A) η es vs → RepsA w (Mx Y.hp η E.A) η (ds ++ es) (us ++ vs) := by
      intro ds
      induction ds with
      | nil => intro us es vs h k; have h : us = [] := h; subst h; simpa using k
      | cons d ds ih =>
        intro us es vs h k
        obtain ⟨u, us', rfl, h2, h3⟩ := h
        exact ⟨u, us' ++ vs, rfl, h2, ih us' es vs h3 k⟩
    exact key _ _ _ _ h1 hcv
  have hcargs := VwL.repsA sn _ _ _ hvY hargs
  have hcall := hG w Ac ηc _ hGw hgs hAc ok ηc_dom hmg hcargs
  have hexec : (execOp a.eval o).run P w = .ok (.enter f (args.toList.map a.eval ++ cv.toList).toArray) w := by
    have e1 : (args.map a.eval ++ cv) = (args.toList.map a.eval ++ cv.toList).toArray := by
      apply Array.ext'
      simp
    simp only [execOp, h, resolve, heg, Deferred.ofValue, Sem.run_bind, Sem.run_pure, Result.andThen_ok, invoke, Array.empty_append, e1]
    exact run_call hc _ w
  unfold Oper.wp
  rw [hexec]
  show Calls P f _ w _
  refine hcall.mono ?_
  rintro e w' ⟨v, ηr, rfl, hr, okr, hsz, hkeep, hmine, hmine2, hpin, hos, htape, hout⟩
  -- behind the call
  have hP := poiL_sim poi hS
  refine hK _ _ (fun m => match m with
    | .r a b k => if a = rid ∧ b = i ∧ k < ns.length then ηr (.n k) else if m ∈ nms then ηr (.p (nms.idxOf m)) else η m
    | m => if m ∈ nms then ηr (.p (nms.idxOf m)) else η m) ?_
  generalize hηn : (fun m => match m with
    | .r a b k => if a = rid ∧ b = i ∧ k < ns.length then ηr (.n k) else if m ∈ nms then ηr (.p (nms.idxOf m)) else η m
    | m => if m ∈ nms then ηr (.p (nms.idxOf m)) else η m : Et) = ηn
  have newNot : ∀ k, k < ns.length → Nm.r rid i k ∉ nms := fun k hk hm => hex _ hm (hnew k hk)
  have nodup : ∀ k k' m, nms[k]? = some m → nms[k']? = some m → k = k' := fun k k' m h1 h2 => by
    have := hhp.inj (.p k) (.p k') m h1 h2
    simpa using this
  have idx : ∀ k m, nms[k]? = some m → nms.idxOf m = k := fun k m hk => by
    have hm : m ∈ nms := List.mem_of_getElem? hk
    have h1 : nms[nms.idxOf m]? = some m := by
      have := List.idxOf_lt_length_of_mem hm
      rw [List.getElem?_eq_getElem this, List.getElem_idxOf]
    exact nodup _ _ m h1 hk
  have ηn_new : ∀ k, k < ns.length → ηn (.r rid i k) = ηr (.n k) := fun k hk => by rw [← hηn]; simp [hk]
  have ηn_p : ∀ k m, nms[k]? = some m → ηn m = ηr (.p k) := fun k m hk => by
    have hm : m ∈ nms := List.mem_of_getElem? hk
    rw [← hηn]
    cases m with
    | r a b c =>
      have : ¬ (a = rid ∧ b = i ∧ c < ns.length) := fun ⟨h1, h2, h3⟩ => by subst h1; subst h2; exact newNot c h3 hm
      simp only [this, if_false, hm, if_true, idx k _ hk]
    | p c => simp only [hm, if_true, idx k _ hk]
    | n c => simp only [hm, if_true, idx k _ hk]
  have isNew : ∀ m : Nm, (∃ k, k < ns.length ∧ m = .r rid i k) ∨ ¬ ∃ k, k < ns.length ∧ m = .r rid i k := fun m => Classical.em _
  have ηn_old : ∀ m, m ∉ nms → (¬ ∃ k, k < ns.length ∧ m = .r rid i k) → ηn m = η m := fun m hm hn => by
    rw [← hηn]
    cases m with
    | r a b c =>
      have : ¬ (a = rid ∧ b = i ∧ c < ns.length) := fun ⟨h1, h2, h3⟩ => hn ⟨c, h3, by rw [h1, h2]⟩
      simp only [this, if_false, hm]
    | p c => simp only [hm, if_false]
    | n c => simp only [hm, if_false]
  have memN : ∀ m, m ∈ nms → ∃ k, nms[k]? = some m ∧ k < ps.length := fun m hm => by
    obtain ⟨k, hk, he⟩ := List.mem_iff_getElem.1 hm
    exact ⟨k, by rw [List.getElem?_eq_getElem hk, he], by rw [← hl1]; exact hk⟩
  -- the heap's objects by names
  let ρ := renOf nms rid i
  let Z := Y.poiL poi
  let hp' := updL Z.hp (callUpd X nms ps' ns rid i sh len)
  have hp_p : ∀ k m, nms[k]? = some m → hp' m = ((ps'[k]?).join).map (Ob.ren ρ) := fun k m hk => by
    have hk' : k < ps'.length := by rw [hl2, ← hl1]; exact (List.getElem?_eq_some_iff.1 hk).1
    have hm : m ∈ nms := List.mem_of_getElem? hk
    refine updL_last (fun o' ho => ?_) ?_
    · simp only [callUpd, List.mem_append, List.mem_map] at ho
      rcases ho with (⟨⟨m1, o1⟩, h1, h2⟩ | ⟨⟨ob, j⟩, h1, h2⟩) | h1
      · simp only [Prod.mk.injEq] at h2
        obtain ⟨rfl, rfl⟩ := h2
        obtain ⟨j, hj⟩ := List.mem_iff_getElem?.1 h1
        rw [List.getElem?_zip_eq_some] at hj
        have : j = k := nodup _ _ _ hj.1 hk
        subst this
        rw [hj.2]
        rfl
      · simp only [Prod.mk.injEq] at h2
        obtain ⟨rfl, _⟩ := h2
        have := (List.mem_zipIdx h1)
        exact absurd hm (newNot j (by simpa using this.2.1))
      · split at h1
        · obtain ⟨m1, h2, h3⟩ := List.mem_map.1 h1
          simp only [Prod.mk.injEq] at h3
          obtain ⟨rfl, _⟩ := h3
          exact absurd hm (hdis _ h2)
        · cases h1
    · simp only [callUpd, List.map_append, List.mem_append, List.map_map]
      refine .inl (.inl (List.mem_map.2 ⟨(m, ps'[k]), ?_, rfl⟩))
      refine List.mem_iff_getElem?.2 ⟨k, ?_⟩
      rw [List.getElem?_zip_eq_some]
      exact ⟨hk, List.getElem?_eq_getElem hk'⟩
  have hp_n : ∀ k ob, ns[k]? = some ob → hp' (.r rid i k) = some (ob.ren ρ) := fun k ob hk => by
    have hk' : k < ns.length := (List.getElem?_eq_some_iff.1 hk).1
    refine updL_last (fun o' ho => ?_) ?_
    · simp only [callUpd, List.mem_append, List.mem_map] at ho
      rcases ho with (⟨⟨m1, o1⟩, h1, h2⟩ | ⟨⟨ob', j⟩, h1, h2⟩) | h1
      · simp only [Prod.mk.injEq] at h2
        obtain ⟨rfl, _⟩ := h2
        exact absurd (List.of_mem_zip h1).1 (newNot k hk')
      · simp only [Prod.mk.injEq, Nm.r.injEq] at h2
        obtain ⟨⟨_, _, rfl⟩, rfl⟩ := h2
        have h3 := List.mem_zipIdx_iff_getElem?.1 h1
        simp only at h3
        rw [hk] at h3
        cases h3
        rfl
      · split at h1
        · obtain ⟨m1, h2, h3⟩ := List.mem_map.1 h1
          simp only [Prod.mk.injEq] at h3
          obtain ⟨rfl, _⟩ := h3
          exact absurd (hnew k hk') (hlex _ h2)
        · cases h1
    · simp only [callUpd, List.map_append, List.mem_append, List.map_map]
      refine .inl (.inr (List.mem_map.2 ⟨(ob, k), List.mem_zipIdx_iff_getElem?.2 hk, rfl⟩))
  have hp_o : ∀ m, m ∉ nms → (¬ ∃ k, k < ns.length ∧ m = .r rid i k) → hp' m = Z.hp m ∨ (sh = true ∧ m ∈ len ∧ hp' m = (X.hp m).map Ob.frz) := fun m hm hn => by
    by_cases hl : sh = true ∧ m ∈ len
    · refine .inr ⟨hl.1, hl.2, updL_last (fun o' ho => ?_) ?_⟩
      · simp only [callUpd, List.mem_append, List.mem_map] at ho
        rcases ho with (⟨⟨m1, o1⟩, h1, h2⟩ | ⟨⟨ob', j⟩, h1, h2⟩) | h1
        · simp only [Prod.mk.injEq] at h2
          obtain ⟨rfl, _⟩ := h2
          exact absurd (List.of_mem_zip h1).1 hm
        · simp only [Prod.mk.injEq] at h2
          obtain ⟨rfl, _⟩ := h2
          have := (List.mem_zipIdx h1)
          exact absurd ⟨j, by simpa using this.2.1, rfl⟩ hn
        · rw [if_pos hl.1] at h1
          obtain ⟨m1, h2, h3⟩ := List.mem_map.1 h1
          simp only [Prod.mk.injEq] at h3
          obtain ⟨rfl, rfl⟩ := h3
          rfl
      · simp only [callUpd, if_pos hl.1, List.map_append, List.mem_append, List.map_map]
        exact .inr (List.mem_map.2 ⟨m, hl.2, rfl⟩)
    · refine .inl (updL_not _ _ (fun hmem => ?_))
      simp only [callUpd, List.map_append, List.mem_append, List.map_map] at hmem
      rcases hmem with (h1 | h1) | h1
      · obtain ⟨⟨m1, o1⟩, h2, h3⟩ := List.mem_map.1 h1
        simp only [Function.comp] at h3
        subst h3
        exact hm (List.of_mem_zip h2).1
      · obtain ⟨⟨ob', j⟩, h2, h3⟩ := List.mem_map.1 h1
        simp only [Function.comp] at h3
        have := (List.mem_zipIdx h2)
        exact hn ⟨j, by simpa using this.2.1, h3.symm⟩
      · split at h1
        · obtain ⟨p1, h2, h3⟩ := List.mem_map.1 h1
          obtain ⟨m1, h4, h5⟩ := List.mem_map.1 h2
          have h6 : m1 = m := by rw [← h3, ← h5]
          subst h6
          exact hl ⟨by assumption, h4⟩
        · simp at h1
  have Zown : ∀ m ob, Z.hp m = some ob → ∃ ob0, Y.hp m = some ob0 ∧ ob.own = ob0.own ∧ ob.row = ob0.row ∧ ∀ p ∈ poi, D.hasL p ob.cells = false := fun m ob hm => by
    obtain ⟨ob0, h1, _, h2, h3, _, h4⟩ := poiL_ob poi hm
    exact ⟨ob0, h1, h3, h2, h4⟩
  have jn : ∀ (k : Nat) ob1, (ps'[k]?).join = some ob1 → ps'[k]? = some (some ob1) := fun k ob1 hk => by
    cases e : ps'[k]? with
    | none => simp [e] at hk
    | some x => simp [e] at hk; rw [hk]
  -- of which kind a name is
  have kinds : ∀ m ob', hp' m = some ob' → (∃ c ob1, HpRes ps' ns c = some ob1 ∧ ob' = ob1.ren ρ ∧ ηn m = ηr c ∧ ((∃ k, c = .p k ∧ nms[k]? = some m) ∨ ∃ k, c = .n k ∧ m = .r rid i k)) ∨
      (m ∉ nms ∧ (¬ ∃ k, k < ns.length ∧ m = .r rid i k) ∧ ηn m = η m ∧ (Z.hp m = some ob' ∧ (sh = true → m ∉ len ∨ True) ∧ hp' m = Z.hp m ∨ sh = true ∧ m ∈ len ∧ ∃ ob0, X.hp m = some ob0 ∧ ob' = ob0.frz)) := fun m ob' hm => by
    by_cases h1 : m ∈ nms
    · obtain ⟨k, hk, _⟩ := memN m h1
      rw [hp_p k m hk] at hm
      simp only [Option.map_eq_some_iff] at hm
      obtain ⟨ob1, h2, rfl⟩ := hm
      exact .inl ⟨.p k, ob1, h2, rfl, ηn_p k m hk, .inl ⟨k, rfl, hk⟩⟩
    · rcases isNew m with ⟨k, hk, rfl⟩ | h2
      · have hk' : ns[k]? = some ns[k] := List.getElem?_eq_getElem hk
        rw [hp_n k _ hk'] at hm
        cases hm
        exact .inl ⟨.n k, ns[k], hk', rfl, ηn_new k hk, .inr ⟨k, rfl, rfl⟩⟩
      · refine .inr ⟨h1, h2, ηn_old m h1 h2, ?_⟩
        rcases hp_o m h1 h2 with h3 | ⟨h3, h4, h5⟩
        · exact .inl ⟨h3 ▸ hm, fun _ => .inr trivial, h3⟩
        · rw [h5] at hm
          simp only [Option.map_eq_some_iff] at hm
          obtain ⟨ob0, h6, rfl⟩ := hm
          exact .inr ⟨h3, h4, ob0, h6, rfl⟩
  -- if a lent object is not frozen, nothing is shared
  have lenFz : sh = true → ∀ m, m ∈ len → ∀ ob', hp' m = some ob' → ob'.own = false := fun h1 m hm ob' hob => by
    have h2 : m ∉ nms := hdis m hm
    have h3 : ¬ ∃ k, k < ns.length ∧ m = .r rid i k := fun ⟨k, hk, e⟩ => hlex m hm (by rw [e]; exact hnew k hk)
    have : hp' m = (X.hp m).map Ob.frz := by
      rcases hp_o m h2 h3 with h4 | ⟨_, _, h5⟩
      · refine updL_last (fun o' ho => ?_) ?_
        · simp only [callUpd, List.mem_append, List.mem_map] at ho
          rcases ho with (⟨⟨m1, o1⟩, g1, g2⟩ | ⟨⟨ob', j⟩, g1, g2⟩) | g1
          · simp only [Prod.mk.injEq] at g2
            obtain ⟨rfl, _⟩ := g2
            exact absurd (List.of_mem_zip g1).1 h2
          · simp only [Prod.mk.injEq] at g2
            obtain ⟨rfl, _⟩ := g2
            have := (List.mem_zipIdx g1)
            exact absurd ⟨j, by simpa using this.2.1, rfl⟩ h3
          · rw [if_pos h1] at g1
            obtain ⟨m1, g2, g3⟩ := List.mem_map.1 g1
            simp only [Prod.mk.injEq] at g3
            obtain ⟨rfl, rfl⟩ := g3
            rfl
        · simp only [callUpd, if_pos h1, List.map_append, List.mem_append, List.map_map]
          exact .inr (List.mem_map.2 ⟨m, hm, rfl⟩)
      · exact h5
    rw [this] at hob
    simp only [Option.map_eq_some_iff] at hob
    obtain ⟨ob0, _, rfl⟩ := hob
    rfl
  have oldOwn : ∀ m ob', hp' m = some ob' → m ∉ nms → (¬ ∃ k, k < ns.length ∧ m = .r rid i k) → ob'.own = true → ∃ ob0, Y.hp m = some ob0 ∧ ob0.own = true := fun m ob' hm h1 h2 h3 => by
    rcases kinds m ob' hm with ⟨c, ob1, h5, _, _, h4⟩ | ⟨_, _, _, h4⟩
    · rcases h4 with ⟨k, _, hk⟩ | ⟨k, hk, hm'⟩
      · exact absurd (List.mem_of_getElem? hk) h1
      · subst hk
        have : k < ns.length := (List.getElem?_eq_some_iff.1 (show ns[k]? = some ob1 from h5)).1
        exact absurd ⟨k, this, hm'⟩ h2
    · rcases h4 with ⟨h4, _, _⟩ | ⟨h5, h6, ob0, _, rfl⟩
      · obtain ⟨ob0, h5, h6, _⟩ := Zown m ob' h4
        exact ⟨ob0, h5, by rw [← h6]; exact h3⟩
      · cases h3
  have blk : ∀ m ob' b s, hp' m = some ob' → ob'.own = true → ηn m = some (b, s) → Mut (HpOf ps) ηc b ∨ w.heap.size ≤ b ∨ (m ∉ nms ∧ (¬ ∃ k, k < ns.length ∧ m = .r rid i k) ∧ η m = some (b, s) ∧ ∃ ob0, Y.hp m = some ob0 ∧ ob0.own = true) := fun m ob' b s h1 h2 h3 => by
    rcases kinds m ob' h1 with ⟨c, ob1, h4, rfl, h5, _⟩ | ⟨h4, h5, h6, _⟩
    · rw [h5] at h3
      rcases hmine c ob1 b s h4 h2 h3 with h6 | h6
      · exact .inl h6
      · exact .inr (.inl h6)
    · exact .inr (.inr ⟨h4, h5, by rw [← h6]; exact h3, oldOwn m ob' h1 h4 h5 h2⟩)
  have subM : ∀ b, b < w.heap.size → Mx hp' ηn E.A b → Mx Y.hp η E.A b := fun b hb hM => by
    rcases hM with ⟨m, ob', s, h1, h2, h3⟩ | h1
    · rcases blk m ob' b s h1 h2 h3 with h4 | h4 | ⟨_, _, h4, ob0, h5, h6⟩
      · exact .inl (mutM b h4)
      · omega
      · exact .inl ⟨m, ob0, s, h5, h6, h4⟩
    · exact .inr h1
  have subC : sh = true → ∀ b, b < w'.heap.size → Mx hp' ηn E.A b → Mx (HpRes ps' ns) ηr Ac b := fun hs b hb hM => by
    rcases hM with ⟨m, ob', s, h1, h2, h3⟩ | h1
    · rcases kinds m ob' h1 with ⟨c, ob1, h4, rfl, h5, _⟩ | ⟨h4, h5, h6, _⟩
      · rw [h5] at h3
        exact .inl ⟨c, ob1, s, h4, h2, h3⟩
      · obtain ⟨ob0, h7, h8⟩ := oldOwn m ob' h1 h4 h5 h2
        rw [h6] at h3
        refine .inr ⟨.inl ⟨m, ob0, s, h7, h8, h3⟩, fun m2 s2 hm2 h9 => ?_⟩
        have e := hS.ok.inj m2 m b s2 s h9 h3
        subst e
        rcases hm2 with hm2 | hm2
        · exact h4 hm2
        · rw [lenFz hs m2 hm2 ob' h1] at h2
          cases h2
    · exact .inr ⟨.inr h1, fun m2 s2 hm2 h9 => hS.ok.noA m2 b s2 h9 h1⟩
  have keepsM : Keeps w w' (Mx Y.hp η E.A) := fun b hb hM => hkeep b hb (fun hm => hM (.inl (mutM b hm)))
  have hηn' : ∀ m q, m ∉ poi → η m = some q → ηn m = some q := fun m q hm hq => by
    by_cases h1 : m ∈ nms
    · obtain ⟨k, hk, _⟩ := memN m h1
      obtain ⟨_, ob1, h2, h3⟩ := hpoi k m hk hm
      rw [ηn_p k m hk]
      exact hpin (.p k) ob1 q (by simp [HpRes, h2]) h3 ((ηc_p k m hk).trans hq)
    · rcases isNew m with ⟨k, hk, rfl⟩ | h2
      · exact absurd ((hF _ (.inr (.inr ⟨k, hk, rfl⟩))).trans (hnew k hk)) (hS.ok.dom _ _ hq)
      · rw [ηn_old m h1 h2]; exact hq
  have hρ : ∀ m q, ηr m = some q → ηn (ρ m) = some q := fun m q hq => by
    have hd := okr.dom m q hq
    cases m with
    | p k =>
      have hk : k < nms.length := by
        rw [hl1, ← hl2]
        cases e : ps'[k]? with
        | none => simp [HpRes, e] at hd
        | some x => exact (List.getElem?_eq_some_iff.1 e).1
      have hk' : nms[k]? = some nms[k] := List.getElem?_eq_getElem hk
      have : ρ (.p k) = nms[k] := getD_of hk'
      rw [this, ηn_p k _ hk']
      exact hq
    | n k =>
      have hk : k < ns.length := by
        cases e : ns[k]? with
        | none => simp [HpRes, e] at hd
        | some x => exact (List.getElem?_eq_some_iff.1 e).1
      exact (ηn_new k hk).trans hq
    | r a b c => simp [HpRes] at hd
  have hMxZ : Mx Z.hp η E.A = Mx Y.hp η E.A := by
    funext b
    exact propext ⟨fun h => h.imp (Mut_poiL poi).1 id, fun h => h.imp (Mut_poiL poi).2 id⟩
  have hval : Rep w' (Mx hp' ηn E.A) ηn (r.ren ρ) v := Rep.ren (b := sh) (fun e => subC e) r v (fun e => (hsh e).1) (fun m q _ hq => hρ m q hq) hr
  have obs : ∀ c ob1 m, HpRes ps' ns c = some ob1 → ηn m = ηr c → ObRep w' (Mx hp' ηn E.A) ηn m (ob1.ren ρ) := fun c ob1 m h1 h2 => by
    have h3 := okr.objs c ob1 h1
    unfold ObRep at h3 ⊢
    rw [h2]
    split
    · rename_i e
      simp only [e] at h3
      exact ⟨h3.1, by simp [Ob.ren, h3.2, D.renL]⟩
    · rename_i b s e
      simp only [e] at h3
      obtain ⟨cur, fr, g1, g2, g3, g4, g5, g6⟩ := h3
      refine ⟨cur, fr, g1, g2, g3, by simpa [Ob.ren, D.renL_len] using g4, by simpa [Ob.ren, D.renL_len] using g5, ?_⟩
      simp only [Ob.ren, D.renL_len]
      refine Reps.ren (b := sh) (fun e => subC e) _ _ (fun esh => ?_) (fun m q _ hq => hρ m q hq) g6
      cases c with
      | p k => exact (hsh esh).2.2 ob1 (List.mem_of_getElem? (jn k ob1 h1))
      | n k => exact (hsh esh).2.1 ob1 (List.mem_of_getElem? h1)
      | r a b c => simp [HpRes] at h1
  have base : Sim Γ E { Z with hp := hp' } a w' ηn := by
    refine { slots := ?_, ok := ⟨?_, ?_, ?_, ?_⟩, defers := hS.defers, size := Nat.le_trans hS.size hsz, keep := ?_, mine := ?_, mine2 := ?_, pin := ?_, low := hS.low, os := hos.trans hS.os, tape := htape.trans hS.tape, output := hout.trans hS.output, par := hS.par, glob := hS.glob, gle := hS.gle, gM := hS.gM }
    · have h1 := hP.slots
      rw [hMxZ] at h1
      refine RepsA.keeps keepsM subM _ _ (fun m q hm hq => hηn' m q (fun hp => ?_) hq) h1
      rw [poiL_sl poi hp] at hm
      cases hm
    · intro m ob' hm
      rcases kinds m ob' hm with ⟨c, ob1, h1, rfl, h2, _⟩ | ⟨h1, h2, h3, h4⟩
      · exact obs c ob1 m h1 h2
      · have hblk : ∀ b s, η m = some (b, s) → w'.heap[b]? = w.heap[b]? := fun b s hb => hkeep b (hS.ok.lt hb) (fun hmut => by
          obtain ⟨m2, s2, h5, h6, _⟩ := mutSub b hmut
          exact h1 (hS.ok.inj m2 m b s2 s h6 hb ▸ h5))
        rcases h4 with ⟨h4, _, _⟩ | ⟨h5, h6, ob0, h7, rfl⟩
        · have h8 := hP.ok.objs m ob' h4
          rw [hMxZ] at h8
          obtain ⟨_, _, _, _, h9⟩ := Zown m ob' h4
          exact h8.keeps keepsM subM hblk h3 (fun m' q hm' hq => hηn' m' q (fun hp => by rw [h9 m' hp] at hm'; cases hm') hq)
        · have h8 := hS.ok.objs m ob0 ((hF m (.inr (.inl h6))).trans h7)
          have := h8.keeps keepsM subM hblk h3 (fun m' q hm' hq => hηn' m' q (fun hp => by rw [hlp h5 m h6 ob0 h7 m' hp] at hm'; cases hm') hq)
          exact this
    · intro m q hq
      by_cases h1 : m ∈ nms
      · obtain ⟨k, hk, _⟩ := memN m h1
        rw [ηn_p k m hk] at hq
        have hd := okr.dom _ _ hq
        show hp' m ≠ none
        rw [hp_p k m hk]
        intro e
        simp only [Option.map_eq_none_iff] at e
        exact hd e
      · rcases isNew m with ⟨k, hk, rfl⟩ | h2
        · show hp' _ ≠ none
          rw [hp_n k _ (List.getElem?_eq_getElem hk)]
          simp
        · rw [ηn_old m h1 h2] at hq
          have hd := hS.ok.dom m q hq
          show hp' m ≠ none
          rcases hp_o m h1 h2 with h3 | ⟨_, h4, h5⟩
          · rw [h3]
            exact fun e => hd ((poiL_none poi).1 e)
          · rw [h5]
            intro e
            simp only [Option.map_eq_none_iff] at e
            exact hlex m h4 e
    · -- no two names have one block
      have cls : ∀ m q, ηn m = some q → (∃ c, ηr c = some q ∧ ρ c = m) ∨ (m ∉ nms ∧ η m = some q) := fun m q hq => by
        by_cases h1 : m ∈ nms
        · obtain ⟨k, hk, _⟩ := memN m h1
          rw [ηn_p k m hk] at hq
          exact .inl ⟨.p k, hq, getD_of hk⟩
        · rcases isNew m with ⟨k, hk, rfl⟩ | h2
          · rw [ηn_new k hk] at hq
            exact .inl ⟨.n k, hq, rfl⟩
          · rw [ηn_old m h1 h2] at hq
            exact .inr ⟨h1, hq⟩
      have mixed : ∀ c b s m s', ηr c = some (b, s) → m ∉ nms → η m = some (b, s') → False := fun c b s m s' h1 h2 h3 => by
        rcases hmine2 c b s h1 with ⟨m0, s0, h4⟩ | h4
        · obtain ⟨k, rfl⟩ := ηc_dom m0 _ h4
          cases e : nms[k]? with
          | none => rw [← hηc] at h4; simp [srcOf, e] at h4
          | some m1 =>
            rw [ηc_p k m1 e] at h4
            exact h2 (hS.ok.inj m1 m b s0 s' h4 h3 ▸ List.mem_of_getElem? e)
        · have := hS.ok.lt h3
          omega
      intro m m' b s s' h1 h2
      rcases cls m _ h1 with ⟨c, h3, h4⟩ | ⟨h3, h4⟩ <;> rcases cls m' _ h2 with ⟨c', h5, h6⟩ | ⟨h5, h6⟩
      · rw [← h4, ← h6, okr.inj c c' b s s' h3 h5]
      · exact (mixed c b s m' s' h3 h5 h6).elim
      · exact (mixed c' b s' m s h5 h3 h4).elim
      · exact hS.ok.inj m m' b s s' h4 h6
    · intro m b s h1 hAb
      have hAc' : Ac b := ⟨.inr hAb, fun m2 s2 _ h9 => hS.ok.noA m2 b s2 h9 hAb⟩
      by_cases h2 : m ∈ nms
      · obtain ⟨k, hk, _⟩ := memN m h2
        rw [ηn_p k m hk] at h1
        exact okr.noA _ b s h1 hAc'
      · rcases isNew m with ⟨k, hk, rfl⟩ | h3
        · rw [ηn_new k hk] at h1
          exact okr.noA _ b s h1 hAc'
        · rw [ηn_old m h2 h3] at h1
          exact hS.ok.noA m b s h1 hAb
    · intro b hb hM0
      rw [hkeep b (Nat.lt_of_lt_of_le hb hS.size) (fun hmut => by
        obtain ⟨m, s, _, h2, ob, h3, h4⟩ := mutSub b hmut
        rcases hS.mine m ob b s h3 h4 h2 with h5 | h5
        · exact hM0 h5
        · omega)]
      exact hS.keep b hb hM0
    · intro m ob' b s h1 h2 h3
      rcases blk m ob' b s h1 h2 h3 with h4 | h4 | ⟨_, _, h4, ob0, h5, h6⟩
      · obtain ⟨m2, s2, _, h5, ob, h6, h7⟩ := mutSub b h4
        exact hS.mine m2 ob b s2 h6 h7 h5
      · exact .inr (Nat.le_trans hS.size h4)
      · exact hS.mine m ob0 b s h5 h6 h4
    · intro m b s h1
      have fromR : ∀ c, ηr c = some (b, s) → (∃ m0 s0, E.η0 m0 = some (b, s0)) ∨ E.w0.heap.size ≤ b := fun c hc => by
        rcases hmine2 c b s hc with ⟨m0, s0, h4⟩ | h4
        · obtain ⟨k, rfl⟩ := ηc_dom m0 _ h4
          cases e : nms[k]? with
          | none => rw [← hηc] at h4; simp [srcOf, e] at h4
          | some m1 =>
            rw [ηc_p k m1 e] at h4
            exact hS.mine2 m1 b s0 h4
        · exact .inr (Nat.le_trans hS.size h4)
      by_cases h2 : m ∈ nms
      · obtain ⟨k, hk, _⟩ := memN m h2
        rw [ηn_p k m hk] at h1
        exact fromR _ h1
      · rcases isNew m with ⟨k, hk, rfl⟩ | h3
        · rw [ηn_new k hk] at h1
          exact fromR _ h1
        · rw [ηn_old m h2 h3] at h1
          exact hS.mine2 m b s h1
    · intro m ob' q h1 h2 h3
      rcases kinds m ob' h1 with ⟨c, ob1, h4, rfl, h5, h6⟩ | ⟨h4, h5, h6, h7⟩
      · rcases h6 with ⟨k, rfl, hk⟩ | ⟨k, rfl, rfl⟩
        · rw [h5]
          obtain ⟨obp, h8, h9⟩ := hrow k ob1 (jn k ob1 h4) h2
          refine hpin (.p k) ob1 q h4 h2 ?_
          rw [ηc_p k m hk]
          rcases hhpY.objs (.p k) obp h8 with ⟨h10, _⟩ | ⟨m0, ob0, h10, h11, _, h12, _⟩
          · simp only [srcOf] at h10; rw [hk] at h10; cases h10
          · simp only [srcOf] at h10
            rw [hk] at h10
            cases h10
            rcases h12 with h12 | ⟨_, _, _, h12⟩
            · exact hS.pin m ob0 q h11 (by rw [← h12]; exact h9) h3
            · obtain ⟨k', rfl⟩ := hS.par _ _ h3; cases h12
        · obtain ⟨k', hk'⟩ := hS.par _ _ h3
          cases hk'
      · rw [h6]
        rcases h7 with ⟨h7, _, _⟩ | ⟨_, h8, ob0, h9, rfl⟩
        · obtain ⟨ob0, h8, _, h9, _⟩ := Zown m ob' h7
          exact hS.pin m ob0 q h8 (by rw [← h9]; exact h2) h3
        · exact hS.pin m ob0 q ((hF m (.inr (.inl h8))).trans h9) h2 h3
  have := base.put (d := r.ren ρ) hval o.dst
  have happ : Y.app o.dst (callRec X nms r ps' ns rid i sh len poi) = { ({ Z with hp := hp' } : St) with sl := match o.dst with | some s => Z.sl.set s (r.ren ρ) | none => Z.sl } := by
    cases o.dst <;> rfl
  rw [happ]
  exact this
end
end Go.Ot
