/- Regions, in the text's order and in any order; code; loops. -/
import Derived.Test.YtbpponebopnfaaaDoorOtRow
set_option linter.unusedVariables false
set_option linter.unusedSimpArgs false
namespace Go.Ot

/-- What the slot of an operation that was left out has. -/
def udf : D := .t (.v undef)
/-- Is a guard's slot as wanted? -/
def wantIs (d : D) (want : Bool) : Option Bool :=
  match d with
  | .t (.v (.bool b)) => some (b == want)
  | .t (.v (.tuple _)) => some false
  | _ => none
/-- Is an operation wanted, by its guard? -/
def wantD (ops : Array Oper) (X : St) (o : Oper) : Option Bool :=
  match o.guard with
  | none => some true
  | some (g, want) => match (ops[g]?).bind (·.dst) with
    | none => none
    | some s => wantIs (X.sl.getD s .bad) want

/-- One operation, or its leaving out. -/
def Spec (Γ : Gl) (P : Program) (ops : Array Oper) (o : Oper) (X : St) (r : Rec) : Prop :=
  (wantD ops X o = some true ∧ OpSpec Γ P o X r) ∨ (wantD ops X o = some false ∧ r = { val := udf })

theorem want_sim {Γ : Gl} {E : Env} {ops : Array Oper} {X : St} {a : Act} {w : World} {η : Et} (h : Sim Γ E X a w η) {o : Oper} {b : Bool} (hb : wantD ops X o = some b) : Region.wanted o (yielded ops a.tmps) = b := by
  unfold wantD at hb
  unfold Region.wanted
  split at hb
  · cases hb; rename_i h; rw [h]
  · rename_i g want hg
    rw [hg]
    split at hb
    · cases hb
    · rename_i s hs
      unfold wantIs at hb
      split at hb
      · rename_i b' hd
        cases hb
        have he := h.ev (.tmp s)
        simp only [ev, hd] at he
        have he : a.eval (.tmp s) = .bool b' := he
        have : yielded ops a.tmps g = some b' := by
          unfold yielded
          rw [hs]
          have he' : a.tmps.getD s undef = .bool b' := he
          simp only [Array.getD_eq_getD_getElem?] at he'
          cases e : a.tmps[s]? with
          | none => rw [e] at he'; simp [undef] at he'
          | some v => rw [e] at he'; simp at he'; simp [e, he']
        simp only [this]
        cases b' <;> cases want <;> rfl
      · rename_i vs hd
        cases hb
        have he := h.ev (.tmp s)
        simp only [ev, hd] at he
        have he : a.eval (.tmp s) = .tuple vs := he
        have : yielded ops a.tmps g = none := by
          unfold yielded
          rw [hs]
          have he' : a.tmps.getD s undef = .tuple vs := he
          simp only [Array.getD_eq_getD_getElem?] at he'
          cases e : a.tmps[s]? with
          | none => simp [e]
          | some v => rw [e] at he'; simp at he'; simp [e, he']
        simp only [this]
        rfl
      · cases hb

/-- The slots that an operation looks at. -/
def rslots (ops : Array Oper) (o : Oper) : List Nat := o.looksAt ops

theorem ev_agree {X Y : St} {x : Operand} (h : ∀ t, x = .tmp t → Y.sl[t]? = X.sl[t]?) : ev Y x = ev X x := by
  cases x with
  | tmp t => simp only [ev, List.getD_eq_getElem?_getD, h t rfl]
  | _ => rfl

theorem agree_of {ops : Array Oper} {X Y : St} {o : Oper} {r : Rec} (hb : r.bar = true → Y = X) (hs : ∀ s ∈ rslots ops o, Y.sl[s]? = X.sl[s]?) (hn : ∀ m ∈ r.F, Y.hp m = X.hp m) : Agree X Y o r := by
  refine ⟨hb, fun x hx => ev_agree (fun t ht => hs t ?_), hn⟩
  subst ht
  exact List.mem_append_left _ (List.mem_filterMap.2 ⟨_, hx, rfl⟩)

theorem want_agree {ops : Array Oper} {X Y : St} {o : Oper} (hs : ∀ s ∈ rslots ops o, Y.sl[s]? = X.sl[s]?) : wantD ops Y o = wantD ops X o := by
  unfold wantD
  split
  · rfl
  · rename_i g want hg
    split
    · rfl
    · rename_i s hsg
      have : Y.sl[s]? = X.sl[s]? := hs s (List.mem_append_right _ (by rw [hg]; simp [hsg]))
      simp only [List.getD_eq_getElem?_getD, this]

theorem spec_step {Γ : Gl} {P : Program} {ops : Array Oper} {i : Nat} {o : Oper} {X Y : St} {r : Rec} {E : Env} {a : Act} {w : World} {η : Et} {K : Act → World → Prop} {Q : Exit → Act → World → Prop} (hi : ops[i]? = some o) (h : Spec Γ P ops o X r)
    (hb : r.bar = true → Y = X) (hs : ∀ s ∈ rslots ops o, Y.sl[s]? = X.sl[s]?) (hn : ∀ m ∈ r.F, Y.hp m = X.hp m) (hS : Sim Γ E Y a w η) (hK : ∀ a' w' η', Sim Γ E (Y.app o.dst r) a' w' η' → K a' w') : wpOp P ops Q i K a w := by
  unfold wpOp
  rw [hi]
  rcases h with ⟨h1, h2⟩ | ⟨h1, rfl⟩
  · have hw := want_sim hS ((want_agree hs).trans h1)
    simp only [hw, if_true]
    exact .inl (h2 E Y a w η (agree_of hb hs hn) hS K Q hK)
  · have hw := want_sim hS ((want_agree hs).trans h1)
    simp only [hw, Bool.false_eq_true, if_false]
    refine hK _ _ η ?_
    rw [app_val]
    exact hS.put (d := udf) (by exact rfl) o.dst

/-- A region's operations from the i-th on, in the text's order. -/
inductive Chain (Γ : Gl) (P : Program) (ops : Array Oper) : Nat → St → List Rec → St → Prop
  | nil {i : Nat} {X : St} : i = ops.size → Chain Γ P ops i X [] X
  | cons {i : Nat} {o : Oper} {X Z : St} {r : Rec} {rs : List Rec} : ops[i]? = some o → Spec Γ P ops o X r → Chain Γ P ops (i + 1) (X.app o.dst r) rs Z → Chain Γ P ops i X (r :: rs) Z

theorem chain_ops {Γ : Gl} {P : Program} {ops : Array Oper} {E : Env} {Q : Exit → Act → World → Prop} {Z : St} : ∀ {i : Nat} {X : St} {rs : List Rec}, Chain Γ P ops i X rs Z → ∀ {a : Act} {w : World} {η : Et}, Sim Γ E X a w η →
    (∀ a' w' η', Sim Γ E Z a' w' η' → Q .normal a' w') → wpOps P ops Q (List.range' i (ops.size - i)) a w := by
  intro i X rs h
  induction h with
  | nil h => intro a w η hS hQ; subst h; simp [wpOps]; exact hQ _ _ _ hS
  | @cons i o X Z r rs hi hsp hc ih =>
    intro a w η hS hQ
    have hlt : i < ops.size := (Array.getElem?_eq_some_iff.1 hi).1
    rw [show ops.size - i = (ops.size - (i + 1)) + 1 from by omega, List.range'_succ, wpOps_cons]
    exact spec_step hi hsp (fun _ => rfl) (fun _ _ => rfl) (fun _ _ => rfl) hS (fun a' w' η' hS' => ih hS' hQ)

/-! ### any order -/
structure Meta where
  ws : List Nm
  fs : List Nm
  bar : Bool
def Rec.info (r : Rec) : Meta := ⟨r.upd.map (·.1), r.F, r.bar⟩

def clash (ops : Array Oper) (oi oj : Oper) (mi mj : Meta) : Bool :=
  mi.bar || mj.bar ||
  (match oi.dst with | some s => (rslots ops oj).contains s || oj.dst == some s | none => false) ||
  (match oj.dst with | some s => (rslots ops oi).contains s | none => false) ||
  mi.ws.any (fun m => mj.fs.contains m || mj.ws.contains m) || mj.ws.any (fun m => mi.fs.contains m)

def onsM (acc : List Nat) : List Edge → Nat
  | [] => 0
  | e :: es => if Region.binds .any e then (onsM acc es ||| 2 ^ e.on) ||| acc.getD e.on 0 else onsM acc es
/-- What comes ahead of what: a set of numbers as a number's bits. -/
def ancs : List Oper → List Nat → List Nat
  | [], acc => acc
  | o :: os, acc => ancs os (acc ++ [onsM acc o.after.toList])

/-- No two operations that clash may come up in another order than the text's. -/
def regOk (ops : Array Oper) (ms : List Meta) : Bool :=
  let an := ancs ops.toList []
  ((List.range ops.size).all fun j => match ops[j]? with | some oj => oj.after.toList.all fun e => !Region.binds .any e || decide (e.on < j) | none => true) &&
  (List.range ops.size).all fun j => (List.range j).all fun i =>
    match ops[i]?, ops[j]?, ms[i]?, ms[j]? with
    | some oi, some oj, some mi, some mj => !clash ops oi oj mi mj || (an.getD j 0).testBit i
    | _, _, _, _ => false

/-- What the listed ones of the first k operations leave. -/
def fold (ops : Array Oper) (rs : List Rec) (X : St) (L : Nat → Bool) : Nat → St
  | 0 => X
  | k + 1 => match ops[k]?, rs[k]? with
    | some o, some r => if L k then (fold ops rs X L k).app o.dst r else fold ops rs X L k
    | _, _ => fold ops rs X L k

theorem updL_mem {m : Nm} : ∀ {us : List (Nm × Option Ob)} {h h' : Nm → Option Ob}, m ∈ us.map (·.1) → updL h us m = updL h' us m
  | [], h, h', hm => by simp at hm
  | (m', o) :: us, h, h', hm => by
    simp only [updL]
    by_cases hu : m ∈ us.map (·.1)
    · exact updL_mem hu
    · have e : m = m' := by simpa [hu] using hm
      subst e
      have key : ∀ (us : List (Nm × Option Ob)) (h : Nm → Option Ob), m ∉ us.map (·.1) → updL h us m = h m := by
        intro us
        induction us with
        | nil => intros; rfl
        | cons p us ih =>
          intro h hn
          obtain ⟨m', o⟩ := p
          simp only [List.map_cons, List.mem_cons, not_or] at hn
          simp only [updL]
          rw [ih _ hn.2, upd_ne hn.1]
      rw [key _ _ hu, key _ _ hu, upd_same, upd_same]
theorem updL_not {m : Nm} : ∀ (us : List (Nm × Option Ob)) (h : Nm → Option Ob), m ∉ us.map (·.1) → updL h us m = h m
  | [], h, _ => rfl
  | (m', o) :: us, h, hn => by
    simp only [List.map_cons, List.mem_cons, not_or] at hn
    simp only [updL]
    rw [updL_not us _ hn.2, upd_ne hn.1]

/-- A record that is no barrier forgets no names. -/
def Tidy (r : Rec) : Prop := r.bar = false → r.poi = []

theorem app_tidy {X : St} {dst : Option Nat} {r : Rec} (h : r.poi = []) : X.app dst r = { sl := putSl X.sl dst r.val, hp := updL X.hp r.upd } := by
  simp [St.app, h, St.poiL]

theorem putSl_get {sl : List D} {dst : Option Nat} {d : D} {s : Nat} (h : dst ≠ some s) : (putSl sl dst d)[s]? = sl[s]? := by
  cases dst with
  | none => rfl
  | some s' => exact List.getElem?_set_ne (fun e => h (by rw [e]))
theorem putSl_len {sl : List D} {dst : Option Nat} {d : D} : (putSl sl dst d).length = sl.length := by cases dst <;> simp [putSl]
theorem putSl_same {sl sl' : List D} {dst : Option Nat} {d : D} {s : Nat} (hl : sl.length = sl'.length) (h : dst = some s) : (putSl sl dst d)[s]? = (putSl sl' dst d)[s]? := by
  subst h
  simp [putSl, List.getElem?_set, hl]
theorem poiL_len : ∀ (ms : List Nm) (X : St), (X.poiL ms).sl.length = X.sl.length
  | [], X => rfl
  | m :: ms, X => by simp [St.poiL, poiL_len ms, St.poi]
theorem app_len {X : St} {dst : Option Nat} {r : Rec} : (X.app dst r).sl.length = X.sl.length := by simp [St.app, putSl_len, poiL_len]

section
variable {ops : Array Oper} {rs : List Rec} {X : St} {L L' : Nat → Bool}

theorem fold_len : ∀ k, (fold ops rs X L k).sl.length = X.sl.length
  | 0 => rfl
  | k + 1 => by
    simp only [fold]
    split
    · split
      · rw [app_len, fold_len k]
      · exact fold_len k
    · exact fold_len k

theorem fold_congr : ∀ k, (∀ j, j < k → L j = L' j) → fold ops rs X L k = fold ops rs X L' k
  | 0, _ => rfl
  | k + 1, h => by
    simp only [fold]
    rw [fold_congr k (fun j hj => h j (by omega)), h k (by omega)]

/-- Two sets of operations that are alike as far as a barrier is among them, and in those that write a place. -/
def Alike (ops : Array Oper) (rs : List Rec) (L L' : Nat → Bool) (wr : Nat → Prop) (n : Nat) : Prop :=
  (∀ k r, k < n → rs[k]? = some r → r.bar = true → L k = L' k ∧ (L k = true → ∀ j, j < k → L j = L' j)) ∧ (∀ k, k < n → wr k → L k = L' k)

theorem fold_slot (hT : ∀ (k : Nat) r, rs[k]? = some r → Tidy r) (s : Nat) : ∀ n, Alike ops rs L L' (fun k => ∃ o, ops[k]? = some o ∧ o.dst = some s) n → (fold ops rs X L n).sl[s]? = (fold ops rs X L' n).sl[s]?
  | 0, _ => rfl
  | n + 1, h => by
    have hn : Alike ops rs L L' (fun k => ∃ o, ops[k]? = some o ∧ o.dst = some s) n := ⟨fun k r hk => h.1 k r (by omega), fun k hk => h.2 k (by omega)⟩
    have ih := fold_slot hT s n hn
    simp only [fold]
    split
    · rename_i o r ho hr
      by_cases hb : r.bar = true
      · obtain ⟨h1, h2⟩ := h.1 n r (by omega) hr hb
        cases e : L n with
        | true => rw [← h1, e, fold_congr n (h2 e)]
        | false => rw [← h1, e]; simpa using ih
      · have ht := hT n r hr (by simpa using hb)
        rw [app_tidy ht, app_tidy ht]
        by_cases hd : o.dst = some s
        · have := h.2 n (by omega) ⟨o, ho, hd⟩
          rw [this]
          cases e : L' n with
          | true => simp only [if_true]; exact putSl_same (by rw [fold_len, fold_len]) hd
          | false => simpa using ih
        · have g : ∀ (b : Bool) (Y : St), (if b = true then ({ sl := putSl Y.sl o.dst r.val, hp := updL Y.hp r.upd } : St) else Y).sl[s]? = Y.sl[s]? := by
            intro b Y
            cases b
            · rfl
            · exact putSl_get hd
          rw [g, g, ih]
    · exact ih

theorem fold_name (hT : ∀ (k : Nat) r, rs[k]? = some r → Tidy r) (m : Nm) : ∀ n, Alike ops rs L L' (fun k => ∃ r, rs[k]? = some r ∧ m ∈ r.upd.map (·.1)) n → (fold ops rs X L n).hp m = (fold ops rs X L' n).hp m
  | 0, _ => rfl
  | n + 1, h => by
    have hn : Alike ops rs L L' (fun k => ∃ r, rs[k]? = some r ∧ m ∈ r.upd.map (·.1)) n := ⟨fun k r hk => h.1 k r (by omega), fun k hk => h.2 k (by omega)⟩
    have ih := fold_name hT m n hn
    simp only [fold]
    split
    · rename_i o r ho hr
      by_cases hb : r.bar = true
      · obtain ⟨h1, h2⟩ := h.1 n r (by omega) hr hb
        cases e : L n with
        | true => rw [← h1, e, fold_congr n (h2 e)]
        | false => rw [← h1, e]; simpa using ih
      · have ht := hT n r hr (by simpa using hb)
        rw [app_tidy ht, app_tidy ht]
        by_cases hd : m ∈ r.upd.map (·.1)
        · have := h.2 n (by omega) ⟨r, hr, hd⟩
          rw [this]
          cases e : L' n with
          | true => simp only [if_true]; exact updL_mem hd
          | false => simpa using ih
        · have g : ∀ (b : Bool) (Y : St), (if b = true then ({ sl := putSl Y.sl o.dst r.val, hp := updL Y.hp r.upd } : St) else Y).hp m = Y.hp m := by
            intro b Y
            cases b
            · rfl
            · exact updL_not _ _ hd
          rw [g, g, ih]
    · exact ih
end

/-! what comes ahead of what -/
/-- All that an operation waits for is listed. -/
def Waits (ops : Array Oper) (L : Nat → Bool) (i : Nat) : Prop := ∀ o, ops[i]? = some o → ∀ e ∈ o.after.toList, Region.binds .any e = true → L e.on = true

theorem onsM_bit {acc : List Nat} {k : Nat} : ∀ {es : List Edge}, (onsM acc es).testBit k = true → ∃ e ∈ es, Region.binds .any e = true ∧ (k = e.on ∨ (acc.getD e.on 0).testBit k = true)
  | [], h => by simp [onsM] at h
  | e :: es, h => by
    simp only [onsM] at h
    split at h
    · rename_i hb
      simp only [Nat.testBit_or, Bool.or_eq_true, Nat.testBit_two_pow, decide_eq_true_eq] at h
      rcases h with (h | h) | h
      · obtain ⟨e', h1, h2⟩ := onsM_bit h
        exact ⟨e', List.mem_cons_of_mem _ h1, h2⟩
      · exact ⟨e, by simp, hb, .inl h.symm⟩
      · exact ⟨e, by simp, hb, .inr h⟩
    · obtain ⟨e', h1, h2⟩ := onsM_bit h
      exact ⟨e', List.mem_cons_of_mem _ h1, h2⟩
theorem ancs_ok {ops : Array Oper} {L : Nat → Bool} (hc : ∀ i, L i = true → Waits ops L i) : ∀ (os : List Oper) (acc : List Nat), (∀ k, os[k]? = ops[acc.length + k]?) → (∀ j, Waits ops L j → ∀ k, (acc.getD j 0).testBit k = true → L k = true) →
    ∀ j, Waits ops L j → ∀ k, ((ancs os acc).getD j 0).testBit k = true → L k = true
  | [], acc, _, h => h
  | o :: os, acc, hos, h => by
    refine ancs_ok hc os _ (fun k => ?_) ?_
    · have := hos (k + 1)
      simp only [List.getElem?_cons_succ] at this
      rw [this]
      simp [Nat.add_assoc, Nat.add_comm 1 k]
    · intro j hj k hk
      by_cases e : j < acc.length
      · refine h j hj k ?_
        simpa [List.getD_eq_getElem?_getD, List.getElem?_append_left e] using hk
      · by_cases e2 : j = acc.length
        · subst e2
          simp only [List.getD_eq_getElem?_getD, List.getElem?_append_right (Nat.le_refl _), Nat.sub_self, List.getElem?_cons_zero, Option.getD_some] at hk
          obtain ⟨ed, he1, he2, hk⟩ := onsM_bit hk
          have ho : ops[acc.length]? = some o := by simpa using (hos 0).symm
          have hL := hj o ho ed he1 he2
          rcases hk with rfl | hk
          · exact hL
          · exact h ed.on (hc _ hL) k hk
        · have : (acc ++ [onsM acc o.after.toList])[j]? = none := List.getElem?_eq_none (by simp; omega)
          rw [List.getD_eq_getElem?_getD, this] at hk
          simp at hk

theorem regOk_spec {ops : Array Oper} {ms : List Meta} (h : regOk ops ms = true) {i j : Nat} (hij : i < j) {oi oj : Oper} {mi mj : Meta} (h1 : ops[i]? = some oi) (h2 : ops[j]? = some oj) (h3 : ms[i]? = some mi) (h4 : ms[j]? = some mj) (hc : clash ops oi oj mi mj = true) :
    ((ancs ops.toList []).getD j 0).testBit i = true := by
  have hj : j < ops.size := (Array.getElem?_eq_some_iff.1 h2).1
  simp only [regOk, Bool.and_eq_true, List.all_eq_true, List.mem_range] at h
  have := h.2 j hj i hij
  simp only [h1, h2, h3, h4, hc, Bool.not_true, Bool.false_or] at this
  simpa using this

/-- Everything that is known of a region whose order is open. -/
structure Open (Γ : Gl) (P : Program) (ops : Array Oper) (X : St) (rs : List Rec) (S : Nat → St) : Prop where
  len : rs.length = ops.size
  first : S 0 = X
  next : ∀ i o r, ops[i]? = some o → rs[i]? = some r → S (i + 1) = (S i).app o.dst r
  spec : ∀ i o r, ops[i]? = some o → rs[i]? = some r → Spec Γ P ops o (S i) r
  tidy : ∀ (i : Nat) r, rs[i]? = some r → Tidy r

theorem Open.fold {Γ : Gl} {P : Program} {ops : Array Oper} {X : St} {rs : List Rec} {S : Nat → St} (h : Open Γ P ops X rs S) (i : Nat) : ∀ k, k ≤ ops.size → i ≤ k → fold ops rs X (fun j => decide (j < i)) k = S i
  | 0, _, hi => by
    have : i = 0 := by omega
    subst this
    exact h.first.symm
  | k + 1, hk, hi => by
    have ho : ops[k]? = some ops[k] := Array.getElem?_eq_getElem (by omega)
    have hr : rs[k]? = some (rs[k]'(by rw [h.len]; omega)) := List.getElem?_eq_getElem (by rw [h.len]; omega)
    simp only [Ot.fold, ho, hr]
    by_cases e : k < i
    · have ei : i = k + 1 := by omega
      subst ei
      simp only [decide_eq_true e, if_true]
      rw [h.next k _ _ ho hr, ← Open.fold h k k (by omega) (Nat.le_refl _)]
      congr 1
      exact fold_congr k (fun j hj => by simp; omega)
    · simp only [decide_eq_false e, Bool.false_eq_true, if_false]
      exact Open.fold h i k (by omega) (by omega)

theorem regOk_edge {ops : Array Oper} {ms : List Meta} (h : regOk ops ms = true) {j : Nat} {oj : Oper} (hj : ops[j]? = some oj) : ∀ e ∈ oj.after.toList, Region.binds .any e = true → e.on < j := by
  intro e he hb
  simp only [regOk, Bool.and_eq_true, List.all_eq_true, List.mem_range] at h
  have := h.1 j (Array.getElem?_eq_some_iff.1 hj).1
  simp only [hj, List.all_eq_true] at this
  have := this e he
  simp only [hb, Bool.not_true, Bool.false_or, decide_eq_true_eq] at this
  exact this

theorem open_step {Γ : Gl} {P : Program} {ops : Array Oper} {X : St} {rs : List Rec} {S : Nat → St} (h : Open Γ P ops X rs S) (hok : regOk ops (rs.map Rec.info) = true) {L : Nat → Bool}
    (hc : ∀ i, L i = true → Waits ops L i) {i : Nat} {o : Oper} {r : Rec} (hi : ops[i]? = some o) (hri : rs[i]? = some r) (hw : Waits ops L i) (hLi : L i = false) :
    (r.bar = true → fold ops rs X L ops.size = S i) ∧ (∀ s ∈ rslots ops o, (fold ops rs X L ops.size).sl[s]? = (S i).sl[s]?) ∧ (∀ m ∈ r.F, (fold ops rs X L ops.size).hp m = (S i).hp m) ∧
      (fold ops rs X L ops.size).app o.dst r = fold ops rs X (fun j => if j = i then true else L j) ops.size := by
  have hin : i < ops.size := (Array.getElem?_eq_some_iff.1 hi).1
  have hsome : ∀ k, k < ops.size → ∃ ok rk, ops[k]? = some ok ∧ rs[k]? = some rk := fun k hk => ⟨_, _, Array.getElem?_eq_getElem hk, List.getElem?_eq_getElem (by rw [h.len]; exact hk)⟩
  have hinfo : ∀ (k : Nat) (rk : Rec), rs[k]? = some rk → (rs.map Rec.info)[k]? = some rk.info := fun k rk hk => by simp [hk]
  have anc : ∀ j, Waits ops L j → ∀ k, ((ancs ops.toList []).getD j 0).testBit k = true → L k = true := ancs_ok hc ops.toList [] (fun k => by simp) (fun j _ k hk => by simp at hk)
  have lo : ∀ k ok rk, k < i → ops[k]? = some ok → rs[k]? = some rk → clash ops ok o rk.info r.info = true → L k = true := fun k ok rk hk h1 h2 h3 =>
    anc i hw k (regOk_spec hok hk h1 hi (hinfo k rk h2) (hinfo i r hri) h3)
  have hi' : ∀ k ok rk, i < k → ops[k]? = some ok → rs[k]? = some rk → clash ops o ok r.info rk.info = true → L k = false := fun k ok rk hk h1 h2 h3 => by
    cases e : L k with
    | false => rfl
    | true =>
      have := anc k (hc k e) i (regOk_spec hok hk hi h1 (hinfo i r hri) (hinfo k rk h2) h3)
      rw [hLi] at this
      cases this
  have at_ : ∀ k ok rk, k < ops.size → ops[k]? = some ok → rs[k]? = some rk → (k < i → clash ops ok o rk.info r.info = true) → (i < k → clash ops o ok r.info rk.info = true) → L k = decide (k < i) := fun k ok rk hk h1 h2 h3 h4 => by
    rcases Nat.lt_trichotomy k i with e | e | e
    · rw [lo k ok rk e h1 h2 (h3 e)]; simp [e]
    · subst e; rw [hLi]; simp
    · rw [hi' k ok rk e h1 h2 (h4 e)]; simp; omega
  have bar_at : ∀ k rk, k < ops.size → rs[k]? = some rk → rk.bar = true → L k = decide (k < i) := fun k rk hk h2 h3 => by
    obtain ⟨ok, rk', h1, h2'⟩ := hsome k hk
    rw [h2] at h2'
    cases h2'
    exact at_ k ok rk hk h1 h2 (fun _ => by simp [clash, Rec.info, h3]) (fun _ => by simp [clash, Rec.info, h3])
  have bar_lo : ∀ k rk, k < ops.size → rs[k]? = some rk → rk.bar = true → L k = true → ∀ j, j < k → L j = true := fun k rk hk h2 h3 h4 j hj => by
    obtain ⟨ok, rk', h1, h2'⟩ := hsome k hk
    rw [h2] at h2'
    cases h2'
    obtain ⟨oj, rj, h5, h6⟩ := hsome j (by omega)
    exact anc k (hc k h4) j (regOk_spec hok hj h5 h1 (hinfo j rj h6) (hinfo k rk h2) (by simp [clash, Rec.info, h3]))
  have full := h.fold i ops.size (Nat.le_refl _) (by omega)
  have barI : r.bar = true → ∀ k, k < ops.size → L k = decide (k < i) := fun hb k hk => by
    obtain ⟨ok, rk, h1, h2⟩ := hsome k hk
    exact at_ k ok rk hk h1 h2 (fun _ => by simp [clash, Rec.info, hb]) (fun _ => by simp [clash, Rec.info, hb])
  have alikeB : ∀ k rk, k < ops.size → rs[k]? = some rk → rk.bar = true → L k = decide (k < i) ∧ (L k = true → ∀ j, j < k → L j = decide (j < i)) := fun k rk hk h2 h3 => by
    refine ⟨bar_at k rk hk h2 h3, fun h4 j hj => ?_⟩
    have h5 := bar_at k rk hk h2 h3
    rw [h4] at h5
    have : k < i := by simpa using h5.symm
    rw [bar_lo k rk hk h2 h3 h4 j hj]
    simp; omega
  have slotW : ∀ s k, k < ops.size → (∃ ok, ops[k]? = some ok ∧ ok.dst = some s) → (s ∈ rslots ops o ∨ o.dst = some s) → L k = decide (k < i) := fun s k hk ⟨ok, h1, h2⟩ hs => by
    obtain ⟨ok', rk, h1', h3⟩ := hsome k hk
    rw [h1] at h1'
    cases h1'
    refine at_ k ok rk hk h1 h3 (fun _ => ?_) (fun _ => ?_)
    · simp only [clash, h2]; rcases hs with hs | hs <;> simp [hs]
    · simp only [clash, h2]
      rcases hs with hs | hs
      · simp [hs]
      · simp only [hs]; simp [h2]
  have con : ∀ (l : List Nm) (m : Nm), m ∈ l → l.contains m = true := fun l m h => by simpa using h
  have nameW : ∀ m k, k < ops.size → (∃ rk, rs[k]? = some rk ∧ m ∈ rk.upd.map (·.1)) → (m ∈ r.F ∨ m ∈ r.upd.map (·.1)) → L k = decide (k < i) := fun m k hk ⟨rk, h1, h2⟩ hm => by
    obtain ⟨ok, rk', h3, h1'⟩ := hsome k hk
    rw [h1] at h1'
    cases h1'
    refine at_ k ok rk hk h3 h1 (fun _ => ?_) (fun _ => ?_)
    · have : (rk.info.ws.any fun m => r.info.fs.contains m || r.info.ws.contains m) = true := by
        rw [List.any_eq_true]
        refine ⟨m, h2, ?_⟩
        rcases hm with hm | hm
        · rw [con r.info.fs m hm]; rfl
        · rw [con r.info.ws m hm, Bool.or_true]
      simp only [clash, this, Bool.or_true, Bool.true_or]
    · rcases hm with hm | hm
      · have : (rk.info.ws.any fun m => r.info.fs.contains m) = true := by
          rw [List.any_eq_true]
          exact ⟨m, h2, con r.info.fs m hm⟩
        simp only [clash, this, Bool.or_true]
      · have : (r.info.ws.any fun m => rk.info.fs.contains m || rk.info.ws.contains m) = true := by
          rw [List.any_eq_true]
          refine ⟨m, hm, ?_⟩
          rw [con rk.info.ws m h2, Bool.or_true]
        simp only [clash, this, Bool.or_true, Bool.true_or]
  refine ⟨fun hb => ?_, fun s hs => ?_, fun m hm => ?_, ?_⟩
  · rw [← full]; exact fold_congr _ (barI hb)
  · rw [← full]; exact fold_slot h.tidy s _ ⟨alikeB, fun k hk hw => slotW s k hk hw (.inl hs)⟩
  · rw [← full]; exact fold_name h.tidy m _ ⟨alikeB, fun k hk hw => nameW m k hk hw (.inl hm)⟩
  · have full' := h.fold (i + 1) ops.size (Nat.le_refl _) (by omega)
    have hnext := h.next i o r hi hri
    by_cases hb : r.bar = true
    · have e1 : fold ops rs X L ops.size = S i := by rw [← full]; exact fold_congr _ (barI hb)
      rw [e1, ← hnext, ← full']
      refine (fold_congr _ (fun k hk => ?_)).symm
      by_cases e : k = i
      · simp [e]
      · simp only [e, if_false, barI hb k hk]
        congr 1
        simp; omega
    · have ht := h.tidy i r hri (by simpa using hb)
      have alikeB' : ∀ k rk, k < ops.size → rs[k]? = some rk → rk.bar = true → (if k = i then true else L k) = decide (k < i + 1) ∧ ((if k = i then true else L k) = true → ∀ j, j < k → (if j = i then true else L j) = decide (j < i + 1)) := fun k rk hk h2 h3 => by
        have hki : k ≠ i := by rintro rfl; rw [hri] at h2; cases h2; exact hb h3
        obtain ⟨g1, g2⟩ := alikeB k rk hk h2 h3
        simp only [hki, if_false]
        refine ⟨by rw [g1]; congr 1; simp; omega, fun h4 j hj => ?_⟩
        have hk' : k < i := by rw [h4] at g1; simpa using g1.symm
        have : j ≠ i := by omega
        simp only [this, if_false, g2 h4 j hj]
        congr 1
        simp; omega
      have alikeC : ∀ k rk, k < ops.size → rs[k]? = some rk → rk.bar = true → (if k = i then true else L k) = L k ∧ ((if k = i then true else L k) = true → ∀ j, j < k → (if j = i then true else L j) = L j) := fun k rk hk h2 h3 => by
        have hki : k ≠ i := by rintro rfl; rw [hri] at h2; cases h2; exact hb h3
        simp only [hki, if_false]
        refine ⟨trivial, fun h4 j hj => ?_⟩
        have g1 := (alikeB k rk hk h2 h3).1
        have hk' : k < i := by rw [h4] at g1; simpa using g1.symm
        have : j ≠ i := by omega
        simp only [this, if_false]
      have hsl : ∀ s, ((fold ops rs X L ops.size).app o.dst r).sl[s]? = (fold ops rs X (fun j => if j = i then true else L j) ops.size).sl[s]? := fun s => by
        rw [app_tidy ht]
        by_cases hd : o.dst = some s
        · have e1 : (fold ops rs X (fun j => if j = i then true else L j) ops.size).sl[s]? = (S (i + 1)).sl[s]? := by
            rw [← full']
            refine fold_slot h.tidy s _ ⟨alikeB', fun k hk hwk => ?_⟩
            by_cases e : k = i
            · simp [e]
            · simp only [e, if_false, slotW s k hk hwk (.inr hd)]
              congr 1
              simp; omega
          rw [e1, hnext, app_tidy ht]
          refine putSl_same ?_ hd
          rw [← full, fold_len, fold_len]
        · rw [putSl_get hd]
          refine (fold_slot h.tidy s _ ⟨alikeC, fun k hk ⟨ok, h1, h2⟩ => ?_⟩).symm
          have : k ≠ i := by rintro rfl; rw [hi] at h1; cases h1; exact hd h2
          simp only [this, if_false]
      have hhp : ∀ m, ((fold ops rs X L ops.size).app o.dst r).hp m = (fold ops rs X (fun j => if j = i then true else L j) ops.size).hp m := fun m => by
        rw [app_tidy ht]
        by_cases hd : m ∈ r.upd.map (·.1)
        · have e1 : (fold ops rs X (fun j => if j = i then true else L j) ops.size).hp m = (S (i + 1)).hp m := by
            rw [← full']
            refine fold_name h.tidy m _ ⟨alikeB', fun k hk hwk => ?_⟩
            by_cases e : k = i
            · simp [e]
            · simp only [e, if_false, nameW m k hk hwk (.inr hd)]
              congr 1
              simp; omega
          rw [e1, hnext, app_tidy ht]
          exact updL_mem hd
        · show updL (fold ops rs X L ops.size).hp r.upd m = _
          rw [updL_not _ _ hd]
          refine (fold_name h.tidy m _ ⟨alikeC, fun k hk ⟨rk, h1, h2⟩ => ?_⟩).symm
          have : k ≠ i := by rintro rfl; rw [hri] at h1; cases h1; exact hd h2
          simp only [this, if_false]
      have ext : ∀ Y Z : St, (∀ s : Nat, Y.sl[s]? = Z.sl[s]?) → (∀ m, Y.hp m = Z.hp m) → Y = Z := fun Y Z h1 h2 => by
        cases Y; cases Z
        congr 1
        · exact List.ext_getElem? h1
        · exact funext h2
      exact ext _ _ hsl hhp

theorem open_any {Γ : Gl} {P : Program} {ops : Array Oper} {X : St} {rs : List Rec} {S : Nat → St} {E : Env} {Q : Exit → Act → World → Prop} (h : Open Γ P ops X rs S) (hok : regOk ops (rs.map Rec.info) = true)
    (hQ : ∀ a' w' η', Sim Γ E (S ops.size) a' w' η' → Q .normal a' w') : ∀ (fuel : Nat) (listed : Array Bool) (a : Act) (w : World) (η : Et), listed.size = ops.size → ((List.range ops.size).filter fun i => !listed.getD i false).length ≤ fuel →
      (∀ i, listed.getD i false = true → Waits ops (fun j => listed.getD j false) i) →
      Sim Γ E (fold ops rs X (fun j => listed.getD j false) ops.size) a w η → wpAny P .any ops Q fuel listed a w := by
  have gd : ∀ (listed : Array Bool) (i : Nat), listed.size = ops.size → i < ops.size → listed.getD i true = listed.getD i false := fun listed i hl hi => by
    have : i < listed.size := by omega
    simp [this]
  have ready : ∀ (listed : Array Bool), listed.size = ops.size → ∀ i, i ∈ Region.ready .any ops listed ↔ ∃ o, ops[i]? = some o ∧ listed.getD i false = false ∧ Waits ops (fun j => listed.getD j false) i := fun listed hl i => by
    simp only [Region.ready, List.mem_filter, List.mem_range, Bool.and_eq_true]
    constructor
    · rintro ⟨h1, h2, h3⟩
      have ho : ops[i]? = some ops[i] := Array.getElem?_eq_getElem h1
      rw [gd listed i hl h1] at h2
      refine ⟨_, ho, by simpa using h2, fun o' ho' e he hb => ?_⟩
      rw [ho'] at h3
      simp only [Option.map_some, Option.getD_some] at h3
      have := (Array.all_eq_true_iff_forall_mem.1 h3) e (Array.mem_toList_iff.1 he)
      simpa [hb] using this
    · rintro ⟨o, ho, h1, h2⟩
      have hi : i < ops.size := (Array.getElem?_eq_some_iff.1 ho).1
      refine ⟨hi, by rw [gd listed i hl hi, h1]; rfl, ?_⟩
      rw [ho]
      simp only [Option.map_some, Option.getD_some]
      refine Array.all_eq_true_iff_forall_mem.2 (fun e he => ?_)
      cases hb : Region.binds .any e with
      | false => simp
      | true => simpa using h2 o ho e (Array.mem_toList_iff.2 he) hb
  have done : ∀ (listed : Array Bool) (a : Act) (w : World) (η : Et), listed.size = ops.size → Region.ready .any ops listed = [] → Sim Γ E (fold ops rs X (fun j => listed.getD j false) ops.size) a w η → Q .normal a w := by
    intro listed a w η hl hr hS
    have all : ∀ i, i < ops.size → listed.getD i false = true := by
      intro i
      induction i using Nat.strongRecOn with
      | _ i ih =>
        intro hi
        cases e : listed.getD i false with
        | true => rfl
        | false =>
          have : i ∈ Region.ready .any ops listed := (ready listed hl i).2 ⟨_, Array.getElem?_eq_getElem hi, e, fun o ho ed he hb => ih ed.on (regOk_edge hok ho ed he hb) (Nat.lt_trans (regOk_edge hok ho ed he hb) hi)⟩
          rw [hr] at this
          cases this
    refine hQ a w η ?_
    rw [← h.fold ops.size ops.size (Nat.le_refl _) (Nat.le_refl _)]
    rwa [fold_congr (L := fun j => listed.getD j false) (L' := fun j => decide (j < ops.size)) ops.size (fun j hj => by rw [all j hj]; simp [hj])] at hS
  intro fuel
  induction fuel with
  | zero =>
    intro listed a w η hl hf hc hS
    have hr : Region.ready .any ops listed = [] := by
      refine List.eq_nil_iff_forall_not_mem.2 (fun i hi => ?_)
      obtain ⟨o, ho, h1, _⟩ := (ready listed hl i).1 hi
      have : i ∈ (List.range ops.size).filter fun i => !listed.getD i false := List.mem_filter.2 ⟨List.mem_range.2 (Array.getElem?_eq_some_iff.1 ho).1, by rw [h1]; rfl⟩
      have := List.length_pos_of_mem this
      omega
    exact ⟨hr, done listed a w η hl hr hS⟩
  | succ fuel ih =>
    intro listed a w η hl hf hc hS
    refine ⟨fun hr => done listed a w η hl hr hS, fun i hi => ?_⟩
    obtain ⟨o, ho, h1, h2⟩ := (ready listed hl i).1 hi
    have hin : i < ops.size := (Array.getElem?_eq_some_iff.1 ho).1
    have hri : rs[i]? = some (rs[i]'(by rw [h.len]; exact hin)) := List.getElem?_eq_getElem (by rw [h.len]; exact hin)
    obtain ⟨g1, g2, g3, g4⟩ := open_step h hok hc ho hri h2 h1
    refine spec_step ho (h.spec i o _ ho hri) g1 g2 g3 hS (fun a' w' η' hS' => ?_)
    rw [g4] at hS'
    have gset : ∀ j, (listed.setIfInBounds i true).getD j false = if j = i then true else listed.getD j false := fun j => by
      by_cases e : j = i
      · subst e
        have : j < listed.size := by omega
        simp [this]
      · simp only [e, if_false, Array.getD_eq_getD_getElem?]
        rw [Array.getElem?_setIfInBounds_ne (fun e' => e e'.symm)]
    have geq : (fun j => (listed.setIfInBounds i true).getD j false) = fun j => if j = i then true else listed.getD j false := funext gset
    refine ih (listed.setIfInBounds i true) a' w' η' (by simp [hl]) ?_ ?_ (by rw [geq]; exact hS')
    · have hlt : ((List.range ops.size).filter fun j => !(listed.setIfInBounds i true).getD j false).length < ((List.range ops.size).filter fun j => !listed.getD j false).length := by
        have hsub : ∀ (l : List Nat), i ∈ l → (l.filter fun j => !(listed.setIfInBounds i true).getD j false).length < (l.filter fun j => !listed.getD j false).length := by
          have hle : ∀ (l : List Nat), (l.filter fun j => !(listed.setIfInBounds i true).getD j false).length ≤ (l.filter fun j => !listed.getD j false).length := by
            intro l
            induction l with
            | nil => simp
            | cons x l ihl =>
              simp only [List.filter_cons, gset]
              by_cases e : x = i
              · simp only [e, if_true, Bool.not_true, Bool.false_eq_true, if_false]
                split
                · simp; simp only [gset] at ihl; simpa using Nat.le_succ_of_le ihl
                · simp only [gset] at ihl; exact ihl
              · simp only [e, if_false]
                split
                · simp only [List.length_cons]; simp only [gset] at ihl; omega
                · simp only [gset] at ihl; exact ihl
          intro l
          induction l with
          | nil => intro hi; cases hi
          | cons x l ihl =>
            intro hx
            have hle' := hle l
            simp only [List.filter_cons, gset] at hle' ⊢
            by_cases e : x = i
            · simp only [e, if_true, Bool.not_true, Bool.false_eq_true, if_false, h1, Bool.not_false, List.length_cons]
              omega
            · have hx' : i ∈ l := by
                rcases List.mem_cons.1 hx with hx | hx
                · exact absurd hx.symm e
                · exact hx
              have := ihl hx'
              simp only [gset] at this
              simp only [e, if_false]
              split
              · simp only [List.length_cons]; omega
              · exact this
        exact hsub _ (List.mem_range.2 hin)
      omega
    · intro j hj
      rw [gset] at hj
      rw [geq]
      intro oj hoj ed he hb
      by_cases e : j = i
      · subst e
        have := h2 oj hoj ed he hb
        simp only [this]
        split <;> rfl
      · simp only [e, if_false] at hj
        have := hc j hj oj hoj ed he hb
        simp only [this]
        split <;> rfl
end Go.Ot
