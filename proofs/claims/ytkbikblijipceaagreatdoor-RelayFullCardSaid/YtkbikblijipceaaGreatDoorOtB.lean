/- Regions, in the text's order and in any order; code; loops. -/
import Derived.Test.YtkbikblijipceaaGreatDoorOtA
import Derived.Laws.Shifts
import Derived.Laws.Concat
import Derived.WideLaws
import Derived.Lib.LazyBuf
set_option linter.unusedVariables false
set_option linter.unusedSimpArgs false
namespace Go.Ot
def udf : D := .t (.v undef)
def vO (d : D) (want : Bool) : Option Bool :=
  match d with
  | .t (.v (.bool b)) => some (b == want)
  | .t (.v (.tuple _)) => some false
  | _ => none
def kI (ops : Array Oper) (X : St) (o : Oper) : Option Bool :=
  match o.guard with
  | none => some true
  | some (g, want) => match (ops[g]?).bind (·.dst) with
    | none => none
    | some s => vO (X.sl.getD s .bad) want
def Spec (Γ : Gl) (P : Program) (ops : Array Oper) (o : Oper) (X : St) (r : Rec) : Prop :=
  (kI ops X o = some true ∧ xD Γ P o X r) ∨ (kI ops X o = some false ∧ r = { val := udf })
theorem yA7 {Γ : Gl} {E : Env} {ops : Array Oper} {X : St} {a : Act} {w : World} {η : Et} (h : Sim Γ E X a w η) {o : Oper} {b : Bool} (hb : kI ops X o = some b) : Region.wanted o (yielded ops a.tmps) = b := by
  unfold kI at hb
  unfold Region.wanted
  split at hb
  · cases hb; rename_i h; rw [h]
  · rename_i g want hg
    rw [hg]
    split at hb
    · cases hb
    · rename_i s hs
      unfold vO at hb
      split at hb
      · rename_i b' hd
        cases hb
        have he := h.ev (.tmp s)
        simp only [ev, hd] at he
        have he : a.eval (.tmp s) = .bool b' := he
        have : yielded ops a.tmps g = some b' := by
          unfold yielded
          rw [hs]
          have he' : a.tmps.getD s undef = .bool b' := he
          simp only [Array.getD_eq_getD_getElem?] at he'
          cases e : a.tmps[s]? with
          | none => rw [e] at he'; simp [undef] at he'
          | some v => rw [e] at he'; simp at he'; simp [e, he']
        simp only [this]
        cases b' <;> cases want <;> rfl
      · rename_i vs hd
        cases hb
        have he := h.ev (.tmp s)
        simp only [ev, hd] at he
        have he : a.eval (.tmp s) = .tuple vs := he
        have : yielded ops a.tmps g = none := by
          unfold yielded
          rw [hs]
          have he' : a.tmps.getD s undef = .tuple vs := he
          simp only [Array.getD_eq_getD_getElem?] at he'
          cases e : a.tmps[s]? with
          | none => simp [e]
          | some v => rw [e] at he'; simp at he'; simp [e, he']
        simp only [this]
        rfl
      · cases hb
def tS (ops : Array Oper) (o : Oper) : List Nat := o.looksAt ops
theorem yGA {X Y : St} {x : Operand} (h : ∀ t, x = .tmp t → Y.sl[t]? = X.sl[t]?) : ev Y x = ev X x := by
  cases x with
  | tmp t => simp only [ev, List.getD_eq_getElem?_getD, h t rfl]
  | _ => rfl
theorem yG6 {ops : Array Oper} {X Y : St} {o : Oper} {r : Rec} (hs : ∀ s ∈ tS ops o, Y.sl[s]? = X.sl[s]?) (hn : ∀ m ∈ r.F, Y.hp m = X.hp m) : Agree X Y o r := by
  refine ⟨trivial, fun x hx => yGA (fun t ht => hs t ?_), hn⟩
  subst ht
  exact List.mem_append_left _ (List.mem_filterMap.2 ⟨_, hx, rfl⟩)
theorem fE {ops : Array Oper} {X Y : St} {o : Oper} (hs : ∀ s ∈ tS ops o, Y.sl[s]? = X.sl[s]?) : kI ops Y o = kI ops X o := by
  unfold kI
  split
  · rfl
  · rename_i g want hg
    split
    · rfl
    · rename_i s hsg
      have : Y.sl[s]? = X.sl[s]? := hs s (List.mem_append_right _ (by rw [hg]; simp [hsg]))
      simp only [List.getD_eq_getElem?_getD, this]
theorem jG {Γ : Gl} {P : Program} {ops : Array Oper} {i : Nat} {o : Oper} {X Y : St} {r : Rec} {E : Env} {a : Act} {w : World} {η : Et} {K : Act → World → Prop} {Q : Exit → Act → World → Prop} (hi : ops[i]? = some o) (h : Spec Γ P ops o X r)
    (hs : ∀ s ∈ tS ops o, Y.sl[s]? = X.sl[s]?) (hn : ∀ m ∈ r.F, Y.hp m = X.hp m) (hS : Sim Γ E Y a w η) (hK : ∀ a' w' η', Sim Γ E (Y.app o.dst r) a' w' η' → K a' w') : wpOp P ops Q i K a w := by
  unfold wpOp
  rw [hi]
  rcases h with ⟨h1, h2⟩ | ⟨h1, rfl⟩
  · have hw := yA7 hS ((fE hs).trans h1)
    simp only [hw, if_true]
    exact .inl (h2 E Y a w η (yG6 hs hn) hS K Q hK)
  · have hw := yA7 hS ((fE hs).trans h1)
    simp only [hw, Bool.false_eq_true, if_false]
    refine hK _ _ η ?_
    rw [wW]
    exact hS.put (d := udf) (by exact rfl) o.dst
inductive Chain (Γ : Gl) (P : Program) (ops : Array Oper) : Nat → St → List Rec → St → Prop
  | nil {i : Nat} {X : St} : i = ops.size → Chain Γ P ops i X [] X
  | cons {i : Nat} {o : Oper} {X Z : St} {r : Rec} {rs : List Rec} : ops[i]? = some o → Spec Γ P ops o X r → Chain Γ P ops (i + 1) (X.app o.dst r) rs Z → Chain Γ P ops i X (r :: rs) Z
theorem yEV {Γ : Gl} {P : Program} {ops : Array Oper} {E : Env} {Q : Exit → Act → World → Prop} {Z : St} : ∀ {i : Nat} {X : St} {rs : List Rec}, Chain Γ P ops i X rs Z → ∀ {a : Act} {w : World} {η : Et}, Sim Γ E X a w η →
    (∀ a' w' η', Sim Γ E Z a' w' η' → Q .normal a' w') → wpOps P ops Q (List.range' i (ops.size - i)) a w := by
  intro i X rs h
  induction h with
  | nil h => intro a w η hS hQ; subst h; simp [wpOps]; exact hQ _ _ _ hS
  | @cons i o X Z r rs hi hsp hc ih =>
    intro a w η hS hQ
    have hlt : i < ops.size := (Array.getElem?_eq_some_iff.1 hi).1
    rw [show ops.size - i = (ops.size - (i + 1)) + 1 from by omega, List.range'_succ, wpOps_cons]
    exact jG hi hsp (fun _ _ => rfl) (fun _ _ => rfl) hS (fun a' w' η' hS' => ih hS' hQ)
structure Meta where
  ws : List Nm
  fs : List Nm
  bar : Bool
def Rec.info (r : Rec) : Meta := ⟨r.upd.map (·.1), r.F, r.bar⟩
def clash (ops : Array Oper) (oi oj : Oper) (mi mj : Meta) : Bool :=
  mi.bar || mj.bar ||
  (match oi.dst with | some s => (tS ops oj).contains s || oj.dst == some s | none => false) ||
  (match oj.dst with | some s => (tS ops oi).contains s | none => false) ||
  mi.ws.any (fun m => mj.fs.contains m || mj.ws.contains m) || mj.ws.any (fun m => mi.fs.contains m)
def yIC (acc : List Nat) : List Edge → Nat
  | [] => 0
  | e :: es => if Region.binds .any e then (yIC acc es ||| 2 ^ e.on) ||| acc.getD e.on 0 else yIC acc es
def ancs : List Oper → List Nat → List Nat
  | [], acc => acc
  | o :: os, acc => ancs os (acc ++ [yIC acc o.after.toList])
def mK (ops : Array Oper) (ms : List Meta) : Bool :=
  let an := ancs ops.toList []
  ((List.range ops.size).all fun j => match ops[j]? with | some oj => oj.after.toList.all fun e => !Region.binds .any e || decide (e.on < j) | none => true) &&
  (List.range ops.size).all fun j => (List.range j).all fun i =>
    match ops[i]?, ops[j]?, ms[i]?, ms[j]? with
    | some oi, some oj, some mi, some mj => !clash ops oi oj mi mj || (an.getD j 0).testBit i
    | _, _, _, _ => false
def fold (ops : Array Oper) (rs : List Rec) (X : St) (L : Nat → Bool) : Nat → St
  | 0 => X
  | k + 1 => match ops[k]?, rs[k]? with
    | some o, some r => if L k then (fold ops rs X L k).app o.dst r else fold ops rs X L k
    | _, _ => fold ops rs X L k
theorem nW {m : Nm} : ∀ {us : List (Nm × Option Ob)} {h h' : Nm → Option Ob}, m ∈ us.map (·.1) → nL h us m = nL h' us m
  | [], h, h', hm => by simp at hm
  | (m', o) :: us, h, h', hm => by
    simp only [nL]
    by_cases hu : m ∈ us.map (·.1)
    · exact nW hu
    · have e : m = m' := by simpa [hu] using hm
      subst e
      have key : ∀ (us : List (Nm × Option Ob)) (h : Nm → Option Ob), m ∉ us.map (·.1) → nL h us m = h m := by
        intro us
        induction us with
        | nil => intros; rfl
        | cons p us ih =>
          intro h hn
          obtain ⟨m', o⟩ := p
          simp only [List.map_cons, List.mem_cons, not_or] at hn
          simp only [nL]
          rw [ih _ hn.2, upd_ne hn.1]
      rw [key _ _ hu, key _ _ hu, upd_same, upd_same]
theorem qI {m : Nm} : ∀ (us : List (Nm × Option Ob)) (h : Nm → Option Ob), m ∉ us.map (·.1) → nL h us m = h m
  | [], h, _ => rfl
  | (m', o) :: us, h, hn => by
    simp only [List.map_cons, List.mem_cons, not_or] at hn
    simp only [nL]
    rw [qI us _ hn.2, upd_ne hn.1]
def Tidy (r : Rec) : Prop := r.bar = false → r.poi = []
theorem sI {X : St} {dst : Option Nat} {r : Rec} (h : r.poi = []) : X.app dst r = { sl := nR X.sl dst r.val, hp := nL X.hp r.upd } := by
  simp [St.app, h, St.poiL]
theorem mP {sl : List D} {dst : Option Nat} {d : D} {s : Nat} (h : dst ≠ some s) : (nR sl dst d)[s]? = sl[s]? := by
  cases dst with
  | none => rfl
  | some s' => exact List.getElem?_set_ne (fun e => h (by rw [e]))
theorem yDE {sl : List D} {dst : Option Nat} {d : D} : (nR sl dst d).length = sl.length := by cases dst <;> simp [nR]
theorem fX {sl sl' : List D} {dst : Option Nat} {d : D} {s : Nat} (hl : sl.length = sl'.length) (h : dst = some s) : (nR sl dst d)[s]? = (nR sl' dst d)[s]? := by
  subst h
  simp [nR, List.getElem?_set, hl]
theorem poiL_len : ∀ (ms : List Nm) (X : St), (X.poiL ms).sl.length = X.sl.length
  | [], X => rfl
  | m :: ms, X => by simp [St.poiL, poiL_len ms, St.poi]
theorem app_len {X : St} {dst : Option Nat} {r : Rec} : (X.app dst r).sl.length = X.sl.length := by simp [St.app, yDE, poiL_len]
section
variable {ops : Array Oper} {rs : List Rec} {X : St} {L L' : Nat → Bool}
theorem fold_len : ∀ k, (fold ops rs X L k).sl.length = X.sl.length
  | 0 => rfl
  | k + 1 => by
    simp only [fold]
    split
    · split
      · rw [app_len, fold_len k]
      · exact fold_len k
    · exact fold_len k
theorem fold_congr : ∀ k, (∀ j, j < k → L j = L' j) → fold ops rs X L k = fold ops rs X L' k
  | 0, _ => rfl
  | k + 1, h => by
    simp only [fold]
    rw [fold_congr k (fun j hj => h j (by omega)), h k (by omega)]
def Alike (ops : Array Oper) (rs : List Rec) (L L' : Nat → Bool) (wr : Nat → Prop) (n : Nat) : Prop :=
  (∀ k r, k < n → rs[k]? = some r → r.bar = true → L k = L' k ∧ (L k = true → ∀ j, j < k → L j = L' j)) ∧ (∀ k, k < n → wr k → L k = L' k)
theorem mW (hT : ∀ (k : Nat) r, rs[k]? = some r → Tidy r) (s : Nat) : ∀ n, Alike ops rs L L' (fun k => ∃ o, ops[k]? = some o ∧ o.dst = some s) n → (fold ops rs X L n).sl[s]? = (fold ops rs X L' n).sl[s]?
  | 0, _ => rfl
  | n + 1, h => by
    have hn : Alike ops rs L L' (fun k => ∃ o, ops[k]? = some o ∧ o.dst = some s) n := ⟨fun k r hk => h.1 k r (by omega), fun k hk => h.2 k (by omega)⟩
    have ih := mW hT s n hn
    simp only [fold]
    split
    · rename_i o r ho hr
      by_cases hb : r.bar = true
      · obtain ⟨h1, h2⟩ := h.1 n r (by omega) hr hb
        cases e : L n with
        | true => rw [← h1, e, fold_congr n (h2 e)]
        | false => rw [← h1, e]; simpa using ih
      · have ht := hT n r hr (by simpa using hb)
        rw [sI ht, sI ht]
        by_cases hd : o.dst = some s
        · have := h.2 n (by omega) ⟨o, ho, hd⟩
          rw [this]
          cases e : L' n with
          | true => simp only [if_true]; exact fX (by rw [fold_len, fold_len]) hd
          | false => simpa using ih
        · have g : ∀ (b : Bool) (Y : St), (if b = true then ({ sl := nR Y.sl o.dst r.val, hp := nL Y.hp r.upd } : St) else Y).sl[s]? = Y.sl[s]? := by
            intro b Y
            cases b
            · rfl
            · exact mP hd
          rw [g, g, ih]
    · exact ih
theorem mX (hT : ∀ (k : Nat) r, rs[k]? = some r → Tidy r) (m : Nm) : ∀ n, Alike ops rs L L' (fun k => ∃ r, rs[k]? = some r ∧ m ∈ r.upd.map (·.1)) n → (fold ops rs X L n).hp m = (fold ops rs X L' n).hp m
  | 0, _ => rfl
  | n + 1, h => by
    have hn : Alike ops rs L L' (fun k => ∃ r, rs[k]? = some r ∧ m ∈ r.upd.map (·.1)) n := ⟨fun k r hk => h.1 k r (by omega), fun k hk => h.2 k (by omega)⟩
    have ih := mX hT m n hn
    simp only [fold]
    split
    · rename_i o r ho hr
      by_cases hb : r.bar = true
      · obtain ⟨h1, h2⟩ := h.1 n r (by omega) hr hb
        cases e : L n with
        | true => rw [← h1, e, fold_congr n (h2 e)]
        | false => rw [← h1, e]; simpa using ih
      · have ht := hT n r hr (by simpa using hb)
        rw [sI ht, sI ht]
        by_cases hd : m ∈ r.upd.map (·.1)
        · have := h.2 n (by omega) ⟨r, hr, hd⟩
          rw [this]
          cases e : L' n with
          | true => simp only [if_true]; exact nW hd
          | false => simpa using ih
        · have g : ∀ (b : Bool) (Y : St), (if b = true then ({ sl := nR Y.sl o.dst r.val, hp := nL Y.hp r.upd } : St) else Y).hp m = Y.hp m := by
            intro b Y
            cases b
            · rfl
            · exact qI _ _ hd
          rw [g, g, ih]
    · exact ih
end
def lR (ops : Array Oper) (L : Nat → Bool) (i : Nat) : Prop := ∀ o, ops[i]? = some o → ∀ e ∈ o.after.toList, Region.binds .any e = true → L e.on = true
theorem dN {acc : List Nat} {k : Nat} : ∀ {es : List Edge}, (yIC acc es).testBit k = true → ∃ e ∈ es, Region.binds .any e = true ∧ (k = e.on ∨ (acc.getD e.on 0).testBit k = true)
  | [], h => by simp [yIC] at h
  | e :: es, h => by
    simp only [yIC] at h
    split at h
    · rename_i hb
      simp only [Nat.testBit_or, Bool.or_eq_true, Nat.testBit_two_pow, decide_eq_true_eq] at h
      rcases h with (h | h) | h
      · obtain ⟨e', h1, h2⟩ := dN h
        exact ⟨e', List.mem_cons_of_mem _ h1, h2⟩
      · exact ⟨e, by simp, hb, .inl h.symm⟩
      · exact ⟨e, by simp, hb, .inr h⟩
    · obtain ⟨e', h1, h2⟩ := dN h
      exact ⟨e', List.mem_cons_of_mem _ h1, h2⟩
theorem cI {ops : Array Oper} {L : Nat → Bool} (hc : ∀ i, L i = true → lR ops L i) : ∀ (os : List Oper) (acc : List Nat), (∀ k, os[k]? = ops[acc.length + k]?) → (∀ j, lR ops L j → ∀ k, (acc.getD j 0).testBit k = true → L k = true) →
    ∀ j, lR ops L j → ∀ k, ((ancs os acc).getD j 0).testBit k = true → L k = true
  | [], acc, _, h => h
  | o :: os, acc, hos, h => by
    refine cI hc os _ (fun k => ?_) ?_
    · have := hos (k + 1)
      simp only [List.getElem?_cons_succ] at this
      rw [this]
      simp [Nat.add_assoc, Nat.add_comm 1 k]
    · intro j hj k hk
      by_cases e : j < acc.length
      · refine h j hj k ?_
        simpa [List.getD_eq_getElem?_getD, List.getElem?_append_left e] using hk
      · by_cases e2 : j = acc.length
        · subst e2
          simp only [List.getD_eq_getElem?_getD, List.getElem?_append_right (Nat.le_refl _), Nat.sub_self, List.getElem?_cons_zero, Option.getD_some] at hk
          obtain ⟨ed, he1, he2, hk⟩ := dN hk
          have ho : ops[acc.length]? = some o := by simpa using (hos 0).symm
          have hL := hj o ho ed he1 he2
          rcases hk with rfl | hk
          · exact hL
          · exact h ed.on (hc _ hL) k hk
        · have : (acc ++ [yIC acc o.after.toList])[j]? = none := List.getElem?_eq_none (by simp; omega)
          rw [List.getD_eq_getElem?_getD, this] at hk
          simp at hk
theorem lJ {ops : Array Oper} {ms : List Meta} (h : mK ops ms = true) {i j : Nat} (hij : i < j) {oi oj : Oper} {mi mj : Meta} (h1 : ops[i]? = some oi) (h2 : ops[j]? = some oj) (h3 : ms[i]? = some mi) (h4 : ms[j]? = some mj) (hc : clash ops oi oj mi mj = true) :
    ((ancs ops.toList []).getD j 0).testBit i = true := by
  have hj : j < ops.size := (Array.getElem?_eq_some_iff.1 h2).1
  simp only [mK, Bool.and_eq_true, List.all_eq_true, List.mem_range] at h
  have := h.2 j hj i hij
  simp only [h1, h2, h3, h4, hc, Bool.not_true, Bool.false_or] at this
  simpa using this
structure Open (Γ : Gl) (P : Program) (ops : Array Oper) (X : St) (rs : List Rec) (S : Nat → St) : Prop where
  len : rs.length = ops.size
  first : S 0 = X
  next : ∀ i o r, ops[i]? = some o → rs[i]? = some r → S (i + 1) = (S i).app o.dst r
  spec : ∀ i o r, ops[i]? = some o → rs[i]? = some r → Spec Γ P ops o (S i) r
  tidy : ∀ (i : Nat) r, rs[i]? = some r → Tidy r
theorem Open.fold {Γ : Gl} {P : Program} {ops : Array Oper} {X : St} {rs : List Rec} {S : Nat → St} (h : Open Γ P ops X rs S) (i : Nat) : ∀ k, k ≤ ops.size → i ≤ k → fold ops rs X (fun j => decide (j < i)) k = S i
  | 0, _, hi => by
    have : i = 0 := by omega
    subst this
    exact h.first.symm
  | k + 1, hk, hi => by
    have ho : ops[k]? = some ops[k] := Array.getElem?_eq_getElem (by omega)
    have hr : rs[k]? = some (rs[k]'(by rw [h.len]; omega)) := List.getElem?_eq_getElem (by rw [h.len]; omega)
    simp only [Ot.fold, ho, hr]
    by_cases e : k < i
    · have ei : i = k + 1 := by omega
      subst ei
      simp only [decide_eq_true e, if_true]
      rw [h.next k _ _ ho hr, ← Open.fold h k k (by omega) (Nat.le_refl _)]
      congr 1
      exact fold_congr k (fun j hj => by simp; omega)
    · simp only [decide_eq_false e, Bool.false_eq_true, if_false]
      exact Open.fold h i k (by omega) (by omega)
theorem fW {ops : Array Oper} {ms : List Meta} (h : mK ops ms = true) {j : Nat} {oj : Oper} (hj : ops[j]? = some oj) : ∀ e ∈ oj.after.toList, Region.binds .any e = true → e.on < j := by
  intro e he hb
  simp only [mK, Bool.and_eq_true, List.all_eq_true, List.mem_range] at h
  have := h.1 j (Array.getElem?_eq_some_iff.1 hj).1
  simp only [hj, List.all_eq_true] at this
  have := this e he
  simp only [hb, Bool.not_true, Bool.false_or, decide_eq_true_eq] at this
  exact this
theorem yDP {Γ : Gl} {P : Program} {ops : Array Oper} {X : St} {rs : List Rec} {S : Nat → St} (h : Open Γ P ops X rs S) (hok : mK ops (rs.map Rec.info) = true) {L : Nat → Bool}
    (hc : ∀ i, L i = true → lR ops L i) {i : Nat} {o : Oper} {r : Rec} (hi : ops[i]? = some o) (hri : rs[i]? = some r) (hw : lR ops L i) (hLi : L i = false) :
    (r.bar = true → fold ops rs X L ops.size = S i) ∧ (∀ s ∈ tS ops o, (fold ops rs X L ops.size).sl[s]? = (S i).sl[s]?) ∧ (∀ m ∈ r.F, (fold ops rs X L ops.size).hp m = (S i).hp m) ∧
      (fold ops rs X L ops.size).app o.dst r = fold ops rs X (fun j => if j = i then true else L j) ops.size := by
  have hin : i < ops.size := (Array.getElem?_eq_some_iff.1 hi).1
  have hsome : ∀ k, k < ops.size → ∃ ok rk, ops[k]? = some ok ∧ rs[k]? = some rk := fun k hk => ⟨_, _, Array.getElem?_eq_getElem hk, List.getElem?_eq_getElem (by rw [h.len]; exact hk)⟩
  have hinfo : ∀ (k : Nat) (rk : Rec), rs[k]? = some rk → (rs.map Rec.info)[k]? = some rk.info := fun k rk hk => by simp [hk]
  have anc : ∀ j, lR ops L j → ∀ k, ((ancs ops.toList []).getD j 0).testBit k = true → L k = true := cI hc ops.toList [] (fun k => by simp) (fun j _ k hk => by simp at hk)
  have lo : ∀ k ok rk, k < i → ops[k]? = some ok → rs[k]? = some rk → clash ops ok o rk.info r.info = true → L k = true := fun k ok rk hk h1 h2 h3 =>
    anc i hw k (lJ hok hk h1 hi (hinfo k rk h2) (hinfo i r hri) h3)
  have hi' : ∀ k ok rk, i < k → ops[k]? = some ok → rs[k]? = some rk → clash ops o ok r.info rk.info = true → L k = false := fun k ok rk hk h1 h2 h3 => by
    cases e : L k with
    | false => rfl
    | true =>
      have := anc k (hc k e) i (lJ hok hk hi h1 (hinfo i r hri) (hinfo k rk h2) h3)
      rw [hLi] at this
      cases this
  have at_ : ∀ k ok rk, k < ops.size → ops[k]? = some ok → rs[k]? = some rk → (k < i → clash ops ok o rk.info r.info = true) → (i < k → clash ops o ok r.info rk.info = true) → L k = decide (k < i) := fun k ok rk hk h1 h2 h3 h4 => by
    rcases Nat.lt_trichotomy k i with e | e | e
    · rw [lo k ok rk e h1 h2 (h3 e)]; simp [e]
    · subst e; rw [hLi]; simp
    · rw [hi' k ok rk e h1 h2 (h4 e)]; simp; omega
  have bar_at : ∀ k rk, k < ops.size → rs[k]? = some rk → rk.bar = true → L k = decide (k < i) := fun k rk hk h2 h3 => by
    obtain ⟨ok, rk', h1, h2'⟩ := hsome k hk
    rw [h2] at h2'
    cases h2'
    exact at_ k ok rk hk h1 h2 (fun _ => by simp [clash, Rec.info, h3]) (fun _ => by simp [clash, Rec.info, h3])
  have bar_lo : ∀ k rk, k < ops.size → rs[k]? = some rk → rk.bar = true → L k = true → ∀ j, j < k → L j = true := fun k rk hk h2 h3 h4 j hj => by
    obtain ⟨ok, rk', h1, h2'⟩ := hsome k hk
    rw [h2] at h2'
    cases h2'
    obtain ⟨oj, rj, h5, h6⟩ := hsome j (by omega)
    exact anc k (hc k h4) j (lJ hok hj h5 h1 (hinfo j rj h6) (hinfo k rk h2) (by simp [clash, Rec.info, h3]))
  have full := h.fold i ops.size (Nat.le_refl _) (by omega)
  have barI : r.bar = true → ∀ k, k < ops.size → L k = decide (k < i) := fun hb k hk => by
    obtain ⟨ok, rk, h1, h2⟩ := hsome k hk
    exact at_ k ok rk hk h1 h2 (fun _ => by simp [clash, Rec.info, hb]) (fun _ => by simp [clash, Rec.info, hb])
  have alikeB : ∀ k rk, k < ops.size → rs[k]? = some rk → rk.bar = true → L k = decide (k < i) ∧ (L k = true → ∀ j, j < k → L j = decide (j < i)) := fun k rk hk h2 h3 => by
    refine ⟨bar_at k rk hk h2 h3, fun h4 j hj => ?_⟩
    have h5 := bar_at k rk hk h2 h3
    rw [h4] at h5
    have : k < i := by simpa using h5.symm
    rw [bar_lo k rk hk h2 h3 h4 j hj]
    simp; omega
  have slotW : ∀ s k, k < ops.size → (∃ ok, ops[k]? = some ok ∧ ok.dst = some s) → (s ∈ tS ops o ∨ o.dst = some s) → L k = decide (k < i) := fun s k hk ⟨ok, h1, h2⟩ hs => by
    obtain ⟨ok', rk, h1', h3⟩ := hsome k hk
    rw [h1] at h1'
    cases h1'
    refine at_ k ok rk hk h1 h3 (fun _ => ?_) (fun _ => ?_)
    · simp only [clash, h2]; rcases hs with hs | hs <;> simp [hs]
    · simp only [clash, h2]
      rcases hs with hs | hs
      · simp [hs]
      · simp only [hs]; simp [h2]
  have con : ∀ (l : List Nm) (m : Nm), m ∈ l → l.contains m = true := fun l m h => by simpa using h
  have nameW : ∀ m k, k < ops.size → (∃ rk, rs[k]? = some rk ∧ m ∈ rk.upd.map (·.1)) → (m ∈ r.F ∨ m ∈ r.upd.map (·.1)) → L k = decide (k < i) := fun m k hk ⟨rk, h1, h2⟩ hm => by
    obtain ⟨ok, rk', h3, h1'⟩ := hsome k hk
    rw [h1] at h1'
    cases h1'
    refine at_ k ok rk hk h3 h1 (fun _ => ?_) (fun _ => ?_)
    · have : (rk.info.ws.any fun m => r.info.fs.contains m || r.info.ws.contains m) = true := by
        rw [List.any_eq_true]
        refine ⟨m, h2, ?_⟩
        rcases hm with hm | hm
        · rw [con r.info.fs m hm]; rfl
        · rw [con r.info.ws m hm, Bool.or_true]
      simp only [clash, this, Bool.or_true, Bool.true_or]
    · rcases hm with hm | hm
      · have : (rk.info.ws.any fun m => r.info.fs.contains m) = true := by
          rw [List.any_eq_true]
          exact ⟨m, h2, con r.info.fs m hm⟩
        simp only [clash, this, Bool.or_true]
      · have : (r.info.ws.any fun m => rk.info.fs.contains m || rk.info.ws.contains m) = true := by
          rw [List.any_eq_true]
          refine ⟨m, hm, ?_⟩
          rw [con rk.info.ws m h2, Bool.or_true]
        simp only [clash, this, Bool.or_true, Bool.true_or]
  refine ⟨fun hb => ?_, fun s hs => ?_, fun m hm => ?_, ?_⟩
  · rw [← full]; exact fold_congr _ (barI hb)
  · rw [← full]; exact mW h.tidy s _ ⟨alikeB, fun k hk hw => slotW s k hk hw (.inl hs)⟩
  · rw [← full]; exact mX h.tidy m _ ⟨alikeB, fun k hk hw => nameW m k hk hw (.inl hm)⟩
  · have full' := h.fold (i + 1) ops.size (Nat.le_refl _) (by omega)
    have hnext := h.next i o r hi hri
    by_cases hb : r.bar = true
    · have e1 : fold ops rs X L ops.size = S i := by rw [← full]; exact fold_congr _ (barI hb)
      rw [e1, ← hnext, ← full']
      refine (fold_congr _ (fun k hk => ?_)).symm
      by_cases e : k = i
      · simp [e]
      · simp only [e, if_false, barI hb k hk]
        congr 1
        simp; omega
    · have ht := h.tidy i r hri (by simpa using hb)
      have alikeB' : ∀ k rk, k < ops.size → rs[k]? = some rk → rk.bar = true → (if k = i then true else L k) = decide (k < i + 1) ∧ ((if k = i then true else L k) = true → ∀ j, j < k → (if j = i then true else L j) = decide (j < i + 1)) := fun k rk hk h2 h3 => by
        have hki : k ≠ i := by rintro rfl; rw [hri] at h2; cases h2; exact hb h3
        obtain ⟨g1, g2⟩ := alikeB k rk hk h2 h3
        simp only [hki, if_false]
        refine ⟨by rw [g1]; congr 1; simp; omega, fun h4 j hj => ?_⟩
        have hk' : k < i := by rw [h4] at g1; simpa using g1.symm
        have : j ≠ i := by omega
        simp only [this, if_false, g2 h4 j hj]
        congr 1
        simp; omega
      have alikeC : ∀ k rk, k < ops.size → rs[k]? = some rk → rk.bar = true → (if k = i then true else L k) = L k ∧ ((if k = i then true else L k) = true → ∀ j, j < k → (if j = i then true else L j) = L j) := fun k rk hk h2 h3 => by
        have hki : k ≠ i := by rintro rfl; rw [hri] at h2; cases h2; exact hb h3
        simp only [hki, if_false]
        refine ⟨trivial, fun h4 j hj => ?_⟩
        have g1 := (alikeB k rk hk h2 h3).1
        have hk' : k < i := by rw [h4] at g1; simpa using g1.symm
        have : j ≠ i := by omega
        simp only [this, if_false]
      have hsl : ∀ s, ((fold ops rs X L ops.size).app o.dst r).sl[s]? = (fold ops rs X (fun j => if j = i then true else L j) ops.size).sl[s]? := fun s => by
        rw [sI ht]
        by_cases hd : o.dst = some s
        · have e1 : (fold ops rs X (fun j => if j = i then true else L j) ops.size).sl[s]? = (S (i + 1)).sl[s]? := by
            rw [← full']
            refine mW h.tidy s _ ⟨alikeB', fun k hk hwk => ?_⟩
            by_cases e : k = i
            · simp [e]
            · simp only [e, if_false, slotW s k hk hwk (.inr hd)]
              congr 1
              simp; omega
          rw [e1, hnext, sI ht]
          refine fX ?_ hd
          rw [← full, fold_len, fold_len]
        · rw [mP hd]
          refine (mW h.tidy s _ ⟨alikeC, fun k hk ⟨ok, h1, h2⟩ => ?_⟩).symm
          have : k ≠ i := by rintro rfl; rw [hi] at h1; cases h1; exact hd h2
          simp only [this, if_false]
      have hhp : ∀ m, ((fold ops rs X L ops.size).app o.dst r).hp m = (fold ops rs X (fun j => if j = i then true else L j) ops.size).hp m := fun m => by
        rw [sI ht]
        by_cases hd : m ∈ r.upd.map (·.1)
        · have e1 : (fold ops rs X (fun j => if j = i then true else L j) ops.size).hp m = (S (i + 1)).hp m := by
            rw [← full']
            refine mX h.tidy m _ ⟨alikeB', fun k hk hwk => ?_⟩
            by_cases e : k = i
            · simp [e]
            · simp only [e, if_false, nameW m k hk hwk (.inr hd)]
              congr 1
              simp; omega
          rw [e1, hnext, sI ht]
          exact nW hd
        · show nL (fold ops rs X L ops.size).hp r.upd m = _
          rw [qI _ _ hd]
          refine (mX h.tidy m _ ⟨alikeC, fun k hk ⟨rk, h1, h2⟩ => ?_⟩).symm
          have : k ≠ i := by rintro rfl; rw [hri] at h1; cases h1; exact hd h2
          simp only [this, if_false]
      have ext : ∀ Y Z : St, (∀ s : Nat, Y.sl[s]? = Z.sl[s]?) → (∀ m, Y.hp m = Z.hp m) → Y = Z := fun Y Z h1 h2 => by
        cases Y; cases Z
        congr 1
        · exact List.ext_getElem? h1
        · exact funext h2
      exact ext _ _ hsl hhp
theorem open_any {Γ : Gl} {P : Program} {ops : Array Oper} {X : St} {rs : List Rec} {S : Nat → St} {E : Env} {Q : Exit → Act → World → Prop} (h : Open Γ P ops X rs S) (hok : mK ops (rs.map Rec.info) = true)
    (hQ : ∀ a' w' η', Sim Γ E (S ops.size) a' w' η' → Q .normal a' w') : ∀ (fuel : Nat) (listed : Array Bool) (a : Act) (w : World) (η : Et), listed.size = ops.size → ((List.range ops.size).filter fun i => !listed.getD i false).length ≤ fuel →
      (∀ i, listed.getD i false = true → lR ops (fun j => listed.getD j false) i) →
      Sim Γ E (fold ops rs X (fun j => listed.getD j false) ops.size) a w η → wpAny P .any ops Q fuel listed a w := by
  have gd : ∀ (listed : Array Bool) (i : Nat), listed.size = ops.size → i < ops.size → listed.getD i true = listed.getD i false := fun listed i hl hi => by
    have : i < listed.size := by omega
    simp [this]
  have ready : ∀ (listed : Array Bool), listed.size = ops.size → ∀ i, i ∈ Region.ready .any ops listed ↔ ∃ o, ops[i]? = some o ∧ listed.getD i false = false ∧ lR ops (fun j => listed.getD j false) i := fun listed hl i => by
    simp only [Region.ready, List.mem_filter, List.mem_range, Bool.and_eq_true]
    constructor
    · rintro ⟨h1, h2, h3⟩
      have ho : ops[i]? = some ops[i] := Array.getElem?_eq_getElem h1
      rw [gd listed i hl h1] at h2
      refine ⟨_, ho, by simpa using h2, fun o' ho' e he hb => ?_⟩
      rw [ho'] at h3
      simp only [Option.map_some, Option.getD_some] at h3
      have := (Array.all_eq_true_iff_forall_mem.1 h3) e (Array.mem_toList_iff.1 he)
      simpa [hb] using this
    · rintro ⟨o, ho, h1, h2⟩
      have hi : i < ops.size := (Array.getElem?_eq_some_iff.1 ho).1
      refine ⟨hi, by rw [gd listed i hl hi, h1]; rfl, ?_⟩
      rw [ho]
      simp only [Option.map_some, Option.getD_some]
      refine Array.all_eq_true_iff_forall_mem.2 (fun e he => ?_)
      cases hb : Region.binds .any e with
      | false => simp
      | true => simpa using h2 o ho e (Array.mem_toList_iff.2 he) hb
  have done : ∀ (listed : Array Bool) (a : Act) (w : World) (η : Et), listed.size = ops.size → Region.ready .any ops listed = [] → Sim Γ E (fold ops rs X (fun j => listed.getD j false) ops.size) a w η → Q .normal a w := by
    intro listed a w η hl hr hS
    have all : ∀ i, i < ops.size → listed.getD i false = true := by
      intro i
      induction i using Nat.strongRecOn with
      | _ i ih =>
        intro hi
        cases e : listed.getD i false with
        | true => rfl
        | false =>
          have : i ∈ Region.ready .any ops listed := (ready listed hl i).2 ⟨_, Array.getElem?_eq_getElem hi, e, fun o ho ed he hb => ih ed.on (fW hok ho ed he hb) (Nat.lt_trans (fW hok ho ed he hb) hi)⟩
          rw [hr] at this
          cases this
    refine hQ a w η ?_
    rw [← h.fold ops.size ops.size (Nat.le_refl _) (Nat.le_refl _)]
    rwa [fold_congr (L := fun j => listed.getD j false) (L' := fun j => decide (j < ops.size)) ops.size (fun j hj => by rw [all j hj]; simp [hj])] at hS
  intro fuel
  induction fuel with
  | zero =>
    intro listed a w η hl hf hc hS
    have hr : Region.ready .any ops listed = [] := by
      refine List.eq_nil_iff_forall_not_mem.2 (fun i hi => ?_)
      obtain ⟨o, ho, h1, _⟩ := (ready listed hl i).1 hi
      have : i ∈ (List.range ops.size).filter fun i => !listed.getD i false := List.mem_filter.2 ⟨List.mem_range.2 (Array.getElem?_eq_some_iff.1 ho).1, by rw [h1]; rfl⟩
      have := List.length_pos_of_mem this
      omega
    exact ⟨hr, done listed a w η hl hr hS⟩
  | succ fuel ih =>
    intro listed a w η hl hf hc hS
    refine ⟨fun hr => done listed a w η hl hr hS, fun i hi => ?_⟩
    obtain ⟨o, ho, h1, h2⟩ := (ready listed hl i).1 hi
    have hin : i < ops.size := (Array.getElem?_eq_some_iff.1 ho).1
    have hri : rs[i]? = some (rs[i]'(by rw [h.len]; exact hin)) := List.getElem?_eq_getElem (by rw [h.len]; exact hin)
    obtain ⟨g1, g2, g3, g4⟩ := yDP h hok hc ho hri h2 h1
    refine jG ho (h.spec i o _ ho hri) g2 g3 hS (fun a' w' η' hS' => ?_)
    rw [g4] at hS'
    have gset : ∀ j, (listed.setIfInBounds i true).getD j false = if j = i then true else listed.getD j false := fun j => by
      by_cases e : j = i
      · subst e
        have : j < listed.size := by omega
        simp [this]
      · simp only [e, if_false, Array.getD_eq_getD_getElem?]
        rw [Array.getElem?_setIfInBounds_ne (fun e' => e e'.symm)]
    have geq : (fun j => (listed.setIfInBounds i true).getD j false) = fun j => if j = i then true else listed.getD j false := funext gset
    refine ih (listed.setIfInBounds i true) a' w' η' (by simp [hl]) ?_ ?_ (by rw [geq]; exact hS')
    · have hlt : ((List.range ops.size).filter fun j => !(listed.setIfInBounds i true).getD j false).length < ((List.range ops.size).filter fun j => !listed.getD j false).length := by
        have hsub : ∀ (l : List Nat), i ∈ l → (l.filter fun j => !(listed.setIfInBounds i true).getD j false).length < (l.filter fun j => !listed.getD j false).length := by
          have hle : ∀ (l : List Nat), (l.filter fun j => !(listed.setIfInBounds i true).getD j false).length ≤ (l.filter fun j => !listed.getD j false).length := by
            intro l
            induction l with
            | nil => simp
            | cons x l ihl =>
              simp only [List.filter_cons, gset]
              by_cases e : x = i
              · simp only [e, if_true, Bool.not_true, Bool.false_eq_true, if_false]
                split
                · simp; simp only [gset] at ihl; simpa using Nat.le_succ_of_le ihl
                · simp only [gset] at ihl; exact ihl
              · simp only [e, if_false]
                split
                · simp only [List.length_cons]; simp only [gset] at ihl; omega
                · simp only [gset] at ihl; exact ihl
          intro l
          induction l with
          | nil => intro hi; cases hi
          | cons x l ihl =>
            intro hx
            have hle' := hle l
            simp only [List.filter_cons, gset] at hle' ⊢
            by_cases e : x = i
            · simp only [e, if_true, Bool.not_true, Bool.false_eq_true, if_false, h1, Bool.not_false, List.length_cons]
              omega
            · have hx' : i ∈ l := by
                rcases List.mem_cons.1 hx with hx | hx
                · exact absurd hx.symm e
                · exact hx
              have := ihl hx'
              simp only [gset] at this
              simp only [e, if_false]
              split
              · simp only [List.length_cons]; omega
              · exact this
        exact hsub _ (List.mem_range.2 hin)
      omega
    · intro j hj
      rw [gset] at hj
      rw [geq]
      intro oj hoj ed he hb
      by_cases e : j = i
      · subst e
        have := h2 oj hoj ed he hb
        simp only [this]
        split <;> rfl
      · simp only [e, if_false] at hj
        have := hc j hj oj hoj ed he hb
        simp only [this]
        split <;> rfl
end Go.Ot

namespace Go.Ot
mutual
def VwT (hp : Nm → Option Ob) (len : Nm → Prop) : T → D → Prop
  | .v x, d => d = .t (.v x)
  | .sl n cs, d => d = .t (.sl n cs) ∨ (∃ m off sz ob, d = .msl m off n sz ∧ len m ∧ hp m = some ob ∧ off + n * sz ≤ ob.cells.length ∧ VwTs hp len cs ((ob.cells.drop off).take (n * sz))) ∨ (n = 0 ∧ cs = [] ∧ d = .t (.v (.slice none 0 0)))
  | .ifc t x, d => d = .t (.ifc t x) ∨ ∃ d', d = .ifc t d' ∧ VwT hp len x d'
  | .agg cs, d => d = .t (.agg cs) ∨ ∃ ds, d = .agg ds ∧ VwTs hp len cs ds
def VwTs (hp : Nm → Option Ob) (len : Nm → Prop) : List T → List D → Prop
  | [], ds => ds = []
  | c :: cs, ds => ∃ d ds', ds = d :: ds' ∧ VwT hp len c d ∧ VwTs hp len cs ds'
end
mutual
def Vw (src : Nm → Option Nm) (hp : Nm → Option Ob) (len : Nm → Prop) : D → D → Prop
  | .t x, d => VwT hp len x d
  | .bad, _ => True
  | .agg cs, d => ∃ ds, d = .agg ds ∧ VwL src hp len cs ds
  | .tup cs, d => ∃ ds, d = .tup ds ∧ VwL src hp len cs ds
  | .ifc ty c, d => ∃ d', d = .ifc ty d' ∧ Vw src hp len c d'
  | .ptr m off, d => ∃ m0, src m = some m0 ∧ d = .ptr m0 off
  | .rop cs, d => d = .rop cs ∨ ∃ m off ob, d = .ptr m off ∧ len m ∧ hp m = some ob ∧ VwTs hp len cs ((ob.cells.drop off).take cs.length)
  | .msl m off n sz, d => (∃ m0, src m = some m0 ∧ d = .msl m0 off n sz) ∨ (n = 0 ∧ d = .t (.v (.slice none 0 0)))
  | .fn f caps, d => ∃ ds, d = .fn f ds ∧ VwL src hp len caps ds
def VwL (src : Nm → Option Nm) (hp : Nm → Option Ob) (len : Nm → Prop) : List D → List D → Prop
  | [], ds => ds = []
  | c :: cs, ds => ∃ d ds', ds = d :: ds' ∧ Vw src hp len c d ∧ VwL src hp len cs ds'
end
@[simp] theorem xA (hp : Nm → Option Ob) (len : Nm → Prop) (x : T) : VwT hp len x (.t x) := by
  cases x <;> simp [VwT]
@[simp] theorem yV (hp : Nm → Option Ob) (len : Nm → Prop) : ∀ cs : List T, VwTs hp len cs (cs.map .t)
  | [] => rfl
  | c :: cs => ⟨_, _, rfl, xA hp len c, yV hp len cs⟩
structure Seen (w : World) (M M' : Nat → Prop) (η η' : Et) (src : Nm → Option Nm) (hp : Nm → Option Ob) (len : Nm → Prop) : Prop where
  sub : ∀ b, b < w.heap.size → M' b → M b
  objs : ∀ m ob, hp m = some ob → ObRep w M η m ob
  src : ∀ m m0 q, src m = some m0 → η m0 = some q → η' m = some q
  lent : ∀ m b s, len m → η m = some (b, s) → ¬ M' b
mutual
theorem VwT.rep {w : World} {M M' : Nat → Prop} {η η' : Et} {src : Nm → Option Nm} {hp : Nm → Option Ob} {len : Nm → Prop} (h : Seen w M M' η η' src hp len) : ∀ (x : T) (d : D) (u : Value), VwT hp len x d → Rep w M η d u → RepT w M' x u
  | .v x, d, u, hv, hr => by
    have hv : d = .t (.v x) := hv
    subst hv
    exact hr
  | .sl n cs, d, u, hv, hr => by
    have keep : ∀ (w : World) (y : T), RepT w M y u → (∀ b, b < w.heap.size → M' b → M b) → RepT w M' y u := fun w y hy hs => RepT.keeps (fun _ _ _ => rfl) hs y u hy
    rcases hv with rfl | ⟨m, off, sz, ob, rfl, hl, hm, hle, hv⟩ | ⟨rfl, rfl, rfl⟩
    · exact keep w _ hr h.sub
    · obtain ⟨A, c, rfl, hnc, hcm, hR⟩ := hr
      refine ⟨A, c, rfl, hnc, hcm, ?_⟩
      rcases hR with hR | ⟨b, s, hη, rfl, hR⟩
      · left
        have : n = 0 := by omega
        subst this
        simp only [Nat.zero_mul, List.take_zero] at hv
        cases cs with
        | nil => rfl
        | cons c cs => obtain ⟨_, _, h1, _⟩ := hv; cases h1
      · right
        refine ⟨_, rfl, h.lent m b s hl hη, ?_⟩
        have ho := h.objs m ob hm
        simp only [ObRep, hη] at ho
        obtain ⟨cur, fr, h1, h2, h3, h4, h5, h6⟩ := ho
        have hR2 := (h6.drop off).take (n * sz)
        refine VwTs.repAt h cs _ _ ⟨b, off, none⟩ 0 hv hR2 (fun j u hu => ?_)
        rw [Nat.zero_add, sJ, cell_of_row w b (off + j) cur ob.ty fr h1]
        rw [List.getElem?_take] at hu
        split at hu
        · rw [List.getElem?_drop, List.getElem?_take] at hu
          split at hu
          · simpa using hu
          · cases hu
        · cases hu
    · have hr : u = .slice none 0 0 := hr
      subst hr
      exact ⟨none, 0, rfl, Nat.le_refl _, Nat.zero_le _, .inl rfl⟩
  | .ifc t x, d, u, hv, hr => by
    rcases hv with rfl | ⟨d', rfl, hv⟩
    · exact RepT.keeps (fun _ _ _ => rfl) h.sub (.ifc t x) u hr
    · obtain ⟨y, rfl, hr⟩ := hr
      exact ⟨y, rfl, VwT.rep h x d' y hv hr⟩
  | .agg cs, d, u, hv, hr => by
    rcases hv with rfl | ⟨ds, rfl, hv⟩
    · exact RepT.keeps (fun _ _ _ => rfl) h.sub (.agg cs) u hr
    · obtain ⟨vs, rfl, hr⟩ := hr
      exact ⟨vs, rfl, VwTs.reps h cs ds _ hv hr⟩
theorem VwTs.reps {w : World} {M M' : Nat → Prop} {η η' : Et} {src : Nm → Option Nm} {hp : Nm → Option Ob} {len : Nm → Prop} (h : Seen w M M' η η' src hp len) : ∀ (cs : List T) (ds : List D) (us : List Value), VwTs hp len cs ds → Reps w M η ds us → RepTs w M' cs us
  | [], ds, us, hv, hr => by
    have hv : ds = [] := hv
    subst hv
    exact hr
  | c :: cs, ds, us, hv, hr => by
    obtain ⟨d, ds', rfl, h1, h2⟩ := hv
    obtain ⟨u, us', rfl, h3, h4, h5⟩ := hr
    exact ⟨u, us', rfl, h3, VwT.rep h c d u h1 h4, VwTs.reps h cs ds' us' h2 h5⟩
theorem VwTs.repAt {w : World} {M M' : Nat → Prop} {η η' : Et} {src : Nm → Option Nm} {hp : Nm → Option Ob} {len : Nm → Prop} (h : Seen w M M' η η' src hp len) : ∀ (cs : List T) (ds : List D) (us : List Value) (a : Addr) (j : Nat), VwTs hp len cs ds → Reps w M η ds us →
    (∀ i u, us[i]? = some u → w.cell? (a.add (j + i)) = some u) → RepTAt w M' a j cs
  | [], ds, us, a, j, hv, hr, hc => trivial
  | c :: cs, ds, us, a, j, hv, hr, hc => by
    obtain ⟨d, ds', rfl, h1, h2⟩ := hv
    obtain ⟨u, us', rfl, h3, h4, h5⟩ := hr
    refine ⟨⟨u, by simpa using hc 0 u (by simp), h3, VwT.rep h c d u h1 h4⟩, VwTs.repAt h cs ds' us' a (j + 1) h2 h5 (fun i u hu => ?_)⟩
    have := hc (i + 1) u (by simpa using hu)
    rwa [show j + (i + 1) = j + 1 + i from by omega] at this
end
mutual
theorem Vw.rep {w : World} {M M' : Nat → Prop} {η η' : Et} {src : Nm → Option Nm} {hp : Nm → Option Ob} {len : Nm → Prop} (h : Seen w M M' η η' src hp len) : ∀ (c d : D) (u : Value), Vw src hp len c d → Rep w M η d u → Rep w M' η' c u
  | .t x, d, u, hv, hr => VwT.rep h x d u hv hr
  | .bad, d, u, hv, hr => trivial
  | .agg cs, d, u, hv, hr => by
    obtain ⟨ds, rfl, hv⟩ := hv
    obtain ⟨vs, rfl, hr⟩ := hr
    exact ⟨vs, rfl, VwL.reps h cs ds _ hv hr⟩
  | .tup cs, d, u, hv, hr => by
    obtain ⟨ds, rfl, hv⟩ := hv
    obtain ⟨vs, rfl, hr⟩ := hr
    exact ⟨vs, rfl, VwL.repsA h cs ds _ hv hr⟩
  | .ifc ty c, d, u, hv, hr => by
    obtain ⟨d', rfl, hv⟩ := hv
    obtain ⟨x, rfl, hr⟩ := hr
    exact ⟨x, rfl, Vw.rep h c d' x hv hr⟩
  | .ptr m off, d, u, hv, hr => by
    obtain ⟨m0, hs, rfl⟩ := hv
    obtain ⟨b, s, hη, rfl⟩ := hr
    exact ⟨b, s, h.src m m0 _ hs hη, rfl⟩
  | .rop cs, d, u, hv, hr => by
    rcases hv with rfl | ⟨m, off, ob, rfl, hl, hm, hv⟩
    · exact Rep.keeps (fun _ _ _ => rfl) h.sub (.rop cs) u (by simp [D.has]) hr
    · obtain ⟨b, s, hη, rfl⟩ := hr
      have ho := h.objs m ob hm
      simp only [ObRep, hη] at ho
      obtain ⟨cur, fr, h1, h2, h3, h4, h5, h6⟩ := ho
      have hR2 := (h6.drop off).take cs.length
      refine ⟨_, rfl, .inr ⟨h.lent m b s hl hη, VwTs.repAt h cs _ _ ⟨b, off, none⟩ 0 hv hR2 (fun j u hu => ?_)⟩⟩
      rw [Nat.zero_add, sJ, cell_of_row w b (off + j) cur ob.ty fr h1]
      rw [List.getElem?_take] at hu
      split at hu
      · rw [List.getElem?_drop, List.getElem?_take] at hu
        split at hu
        · simpa using hu
        · cases hu
      · cases hu
  | .msl m off n sz, d, u, hv, hr => by
    rcases hv with ⟨m0, hs, rfl⟩ | ⟨rfl, rfl⟩
    · obtain ⟨A, c, rfl, hnc, hcm, hR⟩ := hr
      refine ⟨A, c, rfl, hnc, hcm, ?_⟩
      rcases hR with hR | ⟨b, s, hη, h1, h2⟩
      · exact .inl hR
      · exact .inr ⟨b, s, h.src m m0 _ hs hη, h1, h2⟩
    · have hr : u = .slice none 0 0 := hr
      subst hr
      exact ⟨none, 0, rfl, Nat.le_refl _, Nat.zero_le _, .inl rfl⟩
  | .fn f caps, d, u, hv, hr => by
    obtain ⟨ds, rfl, hv⟩ := hv
    obtain ⟨vs, rfl, hr⟩ := hr
    exact ⟨vs, rfl, VwL.repsA h caps ds _ hv hr⟩
theorem VwL.reps {w : World} {M M' : Nat → Prop} {η η' : Et} {src : Nm → Option Nm} {hp : Nm → Option Ob} {len : Nm → Prop} (h : Seen w M M' η η' src hp len) : ∀ (cs ds : List D) (us : List Value), VwL src hp len cs ds → Reps w M η ds us → Reps w M' η' cs us
  | [], ds, us, hv, hr => by
    have hv : ds = [] := hv
    subst hv
    exact hr
  | c :: cs, ds, us, hv, hr => by
    obtain ⟨d, ds', rfl, h1, h2⟩ := hv
    obtain ⟨u, us', rfl, h3, h4, h5⟩ := hr
    exact ⟨u, us', rfl, h3, Vw.rep h c d u h1 h4, VwL.reps h cs ds' us' h2 h5⟩
theorem VwL.repsA {w : World} {M M' : Nat → Prop} {η η' : Et} {src : Nm → Option Nm} {hp : Nm → Option Ob} {len : Nm → Prop} (h : Seen w M M' η η' src hp len) : ∀ (cs ds : List D) (us : List Value), VwL src hp len cs ds → RepsA w M η ds us → RepsA w M' η' cs us
  | [], ds, us, hv, hr => by
    have hv : ds = [] := hv
    subst hv
    exact hr
  | c :: cs, ds, us, hv, hr => by
    obtain ⟨d, ds', rfl, h1, h2⟩ := hv
    obtain ⟨u, us', rfl, h4, h5⟩ := hr
    exact ⟨u, us', rfl, Vw.rep h c d u h1 h4, VwL.repsA h cs ds' us' h2 h5⟩
end
structure HpVw (src : Nm → Option Nm) (len : Nm → Prop) (hp hp' : Nm → Option Ob) : Prop where
  objs : ∀ m ob', hp' m = some ob' → (src m = none ∧ ob'.row = true ∧ ob'.cells = []) ∨ ∃ m0 ob, src m = some m0 ∧ hp m0 = some ob ∧ ob'.ty = ob.ty ∧ rowOk m0 ob' ob ∧ (ob'.own = true → ob.own = true) ∧ VwL src hp len ob'.cells ob.cells
  dom : ∀ m m0, src m = some m0 → hp' m ≠ none
  inj : ∀ m m' m0, src m = some m0 → src m' = some m0 → m = m'
  lent : ∀ m m0 ob', src m = some m0 → len m0 → hp' m = some ob' → ob'.own = false
theorem VwL.length {src : Nm → Option Nm} {hp : Nm → Option Ob} {len : Nm → Prop} : ∀ {cs ds : List D}, VwL src hp len cs ds → ds.length = cs.length
  | [], ds, h => by have h : ds = [] := h; simp [h]
  | c :: cs, ds, h => by obtain ⟨d, ds', rfl, _, h2⟩ := h; simp [VwL.length h2]
theorem HpVw.ok {src : Nm → Option Nm} {len : Nm → Prop} {hp hp' : Nm → Option Ob} (hv : HpVw src len hp hp') {w : World} {A A' : Nat → Prop} {η : Et} (h : HpOk w A hp η) (hA : ∀ b, b < w.heap.size → A' b → Mx hp η A b) (hA2 : ∀ m m0 b s, src m = some m0 → η m0 = some (b, s) → ¬ A' b) (hA3 : ∀ m b s, len m → η m = some (b, s) → ¬ A' b) :
    Seen w (Mx hp η A) (Mx hp' (fun m => (src m).bind η) A') η (fun m => (src m).bind η) src hp len ∧ HpOk w A' hp' (fun m => (src m).bind η) := by
  have own : ∀ m ob' m0, hp' m = some ob' → src m = some m0 → ∃ ob, hp m0 = some ob ∧ (ob'.own = true → ob.own = true) := by
    intro m ob' m0 h1 h2
    rcases hv.objs m ob' h1 with ⟨h3, _⟩ | ⟨m1, ob, h3, h4, _, _, h5, _⟩
    · rw [h2] at h3; cases h3
    · rw [h2] at h3; cases h3; exact ⟨ob, h4, h5⟩
  have sn : Seen w (Mx hp η A) (Mx hp' (fun m => (src m).bind η) A') η (fun m => (src m).bind η) src hp len := by
    refine ⟨fun b hb => ?_, h.objs, fun m m0 q h1 h2 => by simp [h1, h2], fun m b s hl hη => ?_⟩
    · rintro (⟨m, ob', s, h1, h2, h3⟩ | h1)
      · cases hs : src m with
        | none => simp [hs] at h3
        | some m0 =>
          simp only [hs, Option.bind_some] at h3
          obtain ⟨ob, h4, h5⟩ := own m ob' m0 h1 hs
          exact .inl ⟨m0, ob, s, h4, h5 h2, h3⟩
      · exact hA b hb h1
    · rintro (⟨m', ob', s', h1, h2, h3⟩ | h1)
      · cases hs : src m' with
        | none => simp [hs] at h3
        | some m0 =>
          simp only [hs, Option.bind_some] at h3
          have e := h.inj m0 m b s' s h3 hη
          subst e
          have := hv.lent m' m0 ob' hs hl h1
          rw [this] at h2
          cases h2
      · exact hA3 m b s hl hη h1
  refine ⟨sn, ⟨fun m ob' h1 => ?_, fun m q h1 => ?_, fun m m' b s s' h1 h2 => ?_, fun m b s h1 => ?_⟩⟩
  · rcases hv.objs m ob' h1 with ⟨h2, h3, h4⟩ | ⟨m0, ob, h2, h3, h4, h5, h6, h7⟩
    · simp [ObRep, h2, h3, h4]
    · have ho := h.objs m0 ob h3
      unfold ObRep at ho ⊢
      simp only [h2, Option.bind_some]
      split
      · rename_i e
        simp only [e] at ho
        have hl7 := h7.length
        rw [ho.2] at hl7
        have hnil : ob'.cells = [] := List.eq_nil_of_length_eq_zero (by simpa using hl7.symm)
        refine ⟨?_, hnil⟩
        rcases h5 with h5 | ⟨_, _, h5, _⟩
        · rw [h5]; exact ho.1
        · exact absurd hnil h5
      · rename_i b s e
        simp only [e] at ho
        obtain ⟨cur, fr, g1, g2, g3, g4, g5, g6⟩ := ho
        have hl := h7.length
        rw [hl] at g4 g6
        exact ⟨cur, fr, by rw [h4]; exact g1, g2, g3, g4, (by
          rw [h4, ← hl]
          rcases h5 with h5 | ⟨_, h5, _⟩
          · rw [h5]; exact g5
          · exact fun _ hne => absurd h5 hne), VwL.reps sn _ _ _ h7 g6⟩
  · cases hs : src m with
    | none => simp [hs] at h1
    | some m0 => exact hv.dom m m0 hs
  · cases hs : src m with
    | none => simp [hs] at h1
    | some m0 =>
      cases hs' : src m' with
      | none => simp [hs'] at h2
      | some m0' =>
        simp only [hs, hs', Option.bind_some] at h1 h2
        have e := h.inj m0 m0' b s s' h1 h2
        subst e
        exact hv.inj m m' m0 hs hs'
  · cases hs : src m with
    | none => simp [hs] at h1
    | some m0 =>
      simp only [hs, Option.bind_some] at h1
      exact hA2 m m0 b s hs h1
structure View (src : Nm → Option Nm) (len : Nm → Prop) (X X' : St) : Prop where
  slots : VwL src X.hp len X'.sl X.sl
  hp : HpVw src len X.hp X'.hp
  par : ∀ k m0, src (.p k) = some m0 → m0 = .p k
  pin : ∀ k ob', X'.hp (.p k) = some ob' → ob'.row = false → src (.p k) = some (.p k)
theorem Sim.view {Γ : Gl} {E : Env} {X X' : St} {a : Act} {w : World} {η : Et} (h : Sim Γ E X a w η) {src : Nm → Option Nm} {len : Nm → Prop} (hv : View src len X X') : Sim Γ E X' a w (fun m => (src m).bind η) := by
  obtain ⟨sn, ok⟩ := hv.hp.ok h.ok (fun b _ hb => .inr hb) (fun m m0 b s _ hη => h.ok.noA m0 b s hη) (fun m b s _ hη => h.ok.noA m b s hη)
  refine { slots := VwL.repsA sn _ _ _ hv.slots h.slots, ok := ok, defers := h.defers, size := h.size, keep := h.keep, mine := ?_, mine2 := ?_, pin := ?_, low := h.low, os := h.os, tape := h.tape, output := h.output, par := h.par, glob := h.glob, gle := h.gle, gM := h.gM }
  · intro m ob' b s h1 h2 h3
    rcases hv.hp.objs m ob' h1 with ⟨h4, _⟩ | ⟨m0, ob, h4, h5, _, _, h6, _⟩
    · simp [h4] at h3
    · simp only [h4, Option.bind_some] at h3
      exact h.mine m0 ob b s h5 (h6 h2) h3
  · intro m b s h3
    cases hs : src m with
    | none => simp [hs] at h3
    | some m0 =>
      simp only [hs, Option.bind_some] at h3
      exact h.mine2 m0 b s h3
  · intro m ob' q h1 h2 h3
    obtain ⟨k, rfl⟩ := h.par m q h3
    have hs := hv.pin k ob' h1 h2
    simp only [hs, Option.bind_some]
    rcases hv.hp.objs _ ob' h1 with ⟨h4, _⟩ | ⟨m0, ob, h4, h5, _, h6, _⟩
    · rw [hs] at h4; cases h4
    · rw [hs] at h4
      cases h4
      rcases h6 with h6 | ⟨_, _, _, h6⟩
      · exact h.pin _ ob q h5 (by rw [← h6]; exact h2) h3
      · cases h6
def Le (Γ : Gl) (X X' : St) : Prop := ∀ (E : Env) (a : Act) (w : World) (η : Et), Sim Γ E X a w η → ∃ η', Sim Γ E X' a w η'
theorem Le.refl (Γ : Gl) (X : St) : Le Γ X X := fun _ _ _ η h => ⟨η, h⟩
theorem Le.trans {Γ : Gl} {X Y Z : St} (h : Le Γ X Y) (k : Le Γ Y Z) : Le Γ X Z := fun E a w η hS => by
  obtain ⟨η', h'⟩ := h E a w η hS
  exact k E a w η' h'
theorem View.le {Γ : Gl} {X X' : St} {src : Nm → Option Nm} {len : Nm → Prop} (h : View src len X X') : Le Γ X X' := fun _ _ _ _ hS => ⟨_, hS.view h⟩
end Go.Ot

namespace Go.Ot
def nH (ps : List Ob) : Nm → Option Ob
  | .p k => ps[k]?
  | _ => none
def tZ (ps' : List (Option Ob)) (ns : List Ob) : Nm → Option Ob
  | .p k => (ps'[k]?).join
  | .n k => ns[k]?
  | _ => none
def Good (Γ : Gl) (P : Program) (f : FuncId) (args : List D) (ps : List Ob) (r : D) (ps' : List (Option Ob)) (ns : List Ob) : Prop :=
  ∀ (w : World) (A : Nat → Prop) (η : Et) (vals : List Value), Γ.G w → Γ.gs ≤ w.heap.size → (∀ b, A b → b < w.heap.size) → HpOk w A (nH ps) η → (∀ m q, η m = some q → ∃ k, m = .p k) → (∀ b, Mut (nH ps) η b → Γ.gs ≤ b) →
    RepsA w (Mx (nH ps) η A) η args vals →
    Calls P f vals.toArray w fun e w' => ∃ v η', e = .returned v ∧ Rep w' (Mx (tZ ps' ns) η' A) η' r v ∧ HpOk w' A (tZ ps' ns) η' ∧ w.heap.size ≤ w'.heap.size ∧ (∀ b, b < w.heap.size → ¬ Mut (nH ps) η b → w'.heap[b]? = w.heap[b]?) ∧
      (∀ m ob b s, tZ ps' ns m = some ob → ob.own = true → η' m = some (b, s) → Mut (nH ps) η b ∨ w.heap.size ≤ b) ∧ (∀ m b s, η' m = some (b, s) → (∃ m0 s0, η m0 = some (b, s0)) ∨ w.heap.size ≤ b) ∧ (∀ m ob q, tZ ps' ns m = some ob → ob.row = false → η m = some q → η' m = some q) ∧ w'.os = w.os ∧ w'.tape = w.tape ∧ w'.output = w.output
mutual
def D.ren (ρ : Nm → Nm) : D → D
  | .t x => .t x
  | .bad => .bad
  | .agg cs => .agg (D.renL ρ cs)
  | .tup cs => .tup (D.renL ρ cs)
  | .ifc ty d => .ifc ty (D.ren ρ d)
  | .ptr m off => .ptr (ρ m) off
  | .rop cs => .rop cs
  | .msl m off n sz => .msl (ρ m) off n sz
  | .fn f caps => .fn f (D.renL ρ caps)
def D.renL (ρ : Nm → Nm) : List D → List D
  | [] => []
  | d :: ds => D.ren ρ d :: D.renL ρ ds
end
mutual
def D.flat : D → Bool
  | .t x => T.flat x
  | .bad => true
  | .agg cs => D.flatL cs
  | .tup cs => D.flatL cs
  | .ifc _ d => D.flat d
  | .ptr _ _ => true
  | .rop cs => cs.isEmpty
  | .msl _ _ _ _ => true
  | .fn _ caps => D.flatL caps
def D.flatL : List D → Bool
  | [] => true
  | d :: ds => D.flat d && D.flatL ds
def T.flat : T → Bool
  | .v _ => true
  | .sl _ cs => cs.isEmpty
  | .ifc _ x => T.flat x
  | .agg cs => T.flatL cs
def T.flatL : List T → Bool
  | [] => true
  | x :: xs => T.flat x && T.flatL xs
end
mutual
theorem RepT.flat {w w' : World} {M M' : Nat → Prop} : ∀ (x : T) (u : Value), x.flat = true → RepT w M x u → RepT w' M' x u
  | .v x, u, _, h => h
  | .sl n cs, u, hf, h => by
    obtain ⟨A, c, h1, h2, h3, _⟩ := h
    simp only [T.flat, List.isEmpty_iff] at hf
    exact ⟨A, c, h1, h2, h3, .inl hf⟩
  | .ifc t x, u, hf, h => by
    obtain ⟨y, h1, h2⟩ := h
    exact ⟨y, h1, RepT.flat x y hf h2⟩
  | .agg cs, u, hf, h => by
    obtain ⟨vs, h1, h2⟩ := h
    exact ⟨vs, h1, RepTs.flat cs _ hf h2⟩
theorem RepTs.flat {w w' : World} {M M' : Nat → Prop} : ∀ (xs : List T) (us : List Value), T.flatL xs = true → RepTs w M xs us → RepTs w' M' xs us
  | [], us, _, h => h
  | x :: xs, us, hf, h => by
    simp only [T.flatL, Bool.and_eq_true] at hf
    obtain ⟨u, us', h1, h2, h3, h4⟩ := h
    exact ⟨u, us', h1, h2, RepT.flat x u hf.1 h3, RepTs.flat xs us' hf.2 h4⟩
end
mutual
theorem Rep.ren {w : World} {M M' : Nat → Prop} {η η' : Et} {ρ : Nm → Nm} {b : Bool} (hM : b = true → ∀ c, c < w.heap.size → M' c → M c) : ∀ (d : D) (u : Value), (b = false → d.flat = true) → (∀ m q, d.has m = true → η m = some q → η' (ρ m) = some q) → Rep w M η d u → Rep w M' η' (d.ren ρ) u
  | .t x, u, hf, _, h => by
    cases b with
    | false => exact RepT.flat x u (hf rfl) h
    | true => exact RepT.keeps (fun _ _ _ => rfl) (hM rfl) x u h
  | .bad, _, _, _, _ => trivial
  | .agg cs, u, hf, hη, h => by
    obtain ⟨vs, hx, h1⟩ := h
    exact ⟨vs, hx, Reps.ren hM cs _ hf hη h1⟩
  | .tup cs, u, hf, hη, h => by
    obtain ⟨vs, hx, h1⟩ := h
    exact ⟨vs, hx, RepsA.ren hM cs _ hf hη h1⟩
  | .ifc ty d, u, hf, hη, h => by
    obtain ⟨x, hx, h1⟩ := h
    exact ⟨x, hx, Rep.ren hM d x hf hη h1⟩
  | .ptr m off, u, hf, hη, h => by
    obtain ⟨c, s, h1, h2⟩ := h
    exact ⟨c, s, hη m _ (by simp [D.has]) h1, h2⟩
  | .rop cs, u, hf, hη, h => by
    cases b with
    | false =>
      have hc := hf rfl
      simp only [D.flat, List.isEmpty_iff] at hc
      obtain ⟨a, h1, h2⟩ := h
      exact ⟨a, h1, .inl hc⟩
    | true => exact Rep.keeps (fun _ _ _ => rfl) (hM rfl) (.rop cs) u (by simp [D.has]) h
  | .msl m off n sz, u, hf, hη, h => by
    obtain ⟨A, c, hu, h1, h2, h3⟩ := h
    refine ⟨A, c, hu, h1, h2, ?_⟩
    rcases h3 with h3 | ⟨c, s, h3, h4, h5⟩
    · exact .inl h3
    · exact .inr ⟨c, s, hη m _ (by simp [D.has]) h3, h4, h5⟩
  | .fn f caps, u, hf, hη, h => by
    obtain ⟨vs, hx, h1⟩ := h
    exact ⟨vs, hx, RepsA.ren hM caps _ hf hη h1⟩
theorem Reps.ren {w : World} {M M' : Nat → Prop} {η η' : Et} {ρ : Nm → Nm} {b : Bool} (hM : b = true → ∀ c, c < w.heap.size → M' c → M c) : ∀ (ds : List D) (us : List Value), (b = false → D.flatL ds = true) → (∀ m q, D.hasL m ds = true → η m = some q → η' (ρ m) = some q) → Reps w M η ds us → Reps w M' η' (D.renL ρ ds) us
  | [], us, _, _, h => h
  | d :: ds, us, hf, hη, h => by
    obtain ⟨u, us', hu, h1, h2, h3⟩ := h
    have hf' : b = false → d.flat = true ∧ D.flatL ds = true := fun e => by simpa [D.flatL] using hf e
    exact ⟨u, us', hu, h1, Rep.ren hM d u (fun e => (hf' e).1) (fun m q hm => hη m q (by simp [D.hasL, hm])) h2, Reps.ren hM ds us' (fun e => (hf' e).2) (fun m q hm => hη m q (by simp [D.hasL, hm])) h3⟩
theorem RepsA.ren {w : World} {M M' : Nat → Prop} {η η' : Et} {ρ : Nm → Nm} {b : Bool} (hM : b = true → ∀ c, c < w.heap.size → M' c → M c) : ∀ (ds : List D) (us : List Value), (b = false → D.flatL ds = true) → (∀ m q, D.hasL m ds = true → η m = some q → η' (ρ m) = some q) → RepsA w M η ds us → RepsA w M' η' (D.renL ρ ds) us
  | [], us, _, _, h => h
  | d :: ds, us, hf, hη, h => by
    obtain ⟨u, us', hu, h2, h3⟩ := h
    have hf' : b = false → d.flat = true ∧ D.flatL ds = true := fun e => by simpa [D.flatL] using hf e
    exact ⟨u, us', hu, Rep.ren hM d u (fun e => (hf' e).1) (fun m q hm => hη m q (by simp [D.hasL, hm])) h2, RepsA.ren hM ds us' (fun e => (hf' e).2) (fun m q hm => hη m q (by simp [D.hasL, hm])) h3⟩
end
theorem D.renL_len {ρ : Nm → Nm} : ∀ ds : List D, (D.renL ρ ds).length = ds.length
  | [] => rfl
  | d :: ds => by simp [D.renL, D.renL_len ds]
mutual
theorem VwT.congr {hp hp' : Nm → Option Ob} {len : Nm → Prop} (h : ∀ m, len m → hp' m = hp m) : ∀ (x : T) (d : D), VwT hp len x d → VwT hp' len x d
  | .v x, d, hv => hv
  | .sl n cs, d, hv => by
    rcases hv with hv | ⟨m, off, sz, ob, h1, h2, h3, h4, h5⟩ | hv
    · exact .inl hv
    · exact .inr (.inl ⟨m, off, sz, ob, h1, h2, (h m h2).trans h3, h4, VwTs.congr h cs _ h5⟩)
    · exact .inr (.inr hv)
  | .ifc t x, d, hv => by
    rcases hv with hv | ⟨d', h1, h2⟩
    · exact .inl hv
    · exact .inr ⟨d', h1, VwT.congr h x d' h2⟩
  | .agg cs, d, hv => by
    rcases hv with hv | ⟨ds, h1, h2⟩
    · exact .inl hv
    · exact .inr ⟨ds, h1, VwTs.congr h cs ds h2⟩
theorem VwTs.congr {hp hp' : Nm → Option Ob} {len : Nm → Prop} (h : ∀ m, len m → hp' m = hp m) : ∀ (xs : List T) (ds : List D), VwTs hp len xs ds → VwTs hp' len xs ds
  | [], ds, hv => hv
  | x :: xs, ds, hv => by
    obtain ⟨d, ds', h1, h2, h3⟩ := hv
    exact ⟨d, ds', h1, VwT.congr h x d h2, VwTs.congr h xs ds' h3⟩
end
mutual
theorem Vw.congr {src : Nm → Option Nm} {hp hp' : Nm → Option Ob} {len : Nm → Prop} (h : ∀ m, len m → hp' m = hp m) : ∀ (c d : D), Vw src hp len c d → Vw src hp' len c d
  | .t x, d, hv => VwT.congr h x d hv
  | .bad, d, hv => trivial
  | .agg cs, d, hv => by obtain ⟨ds, h1, h2⟩ := hv; exact ⟨ds, h1, VwL.congr h cs ds h2⟩
  | .tup cs, d, hv => by obtain ⟨ds, h1, h2⟩ := hv; exact ⟨ds, h1, VwL.congr h cs ds h2⟩
  | .ifc ty c, d, hv => by obtain ⟨d', h1, h2⟩ := hv; exact ⟨d', h1, Vw.congr h c d' h2⟩
  | .ptr m off, d, hv => hv
  | .rop cs, d, hv => by
    rcases hv with hv | ⟨m, off, ob, h1, h2, h3, h4⟩
    · exact .inl hv
    · exact .inr ⟨m, off, ob, h1, h2, (h m h2).trans h3, VwTs.congr h cs _ h4⟩
  | .msl m off n sz, d, hv => hv
  | .fn f caps, d, hv => by obtain ⟨ds, h1, h2⟩ := hv; exact ⟨ds, h1, VwL.congr h caps ds h2⟩
theorem VwL.congr {src : Nm → Option Nm} {hp hp' : Nm → Option Ob} {len : Nm → Prop} (h : ∀ m, len m → hp' m = hp m) : ∀ (cs ds : List D), VwL src hp len cs ds → VwL src hp' len cs ds
  | [], ds, hv => hv
  | c :: cs, ds, hv => by
    obtain ⟨d, ds', h1, h2, h3⟩ := hv
    exact ⟨d, ds', h1, Vw.congr h c d h2, VwL.congr h cs ds' h3⟩
end
def vC (nms : List Nm) : Nm → Option Nm
  | .p k => nms[k]?
  | _ => none
def yDx (nms : List Nm) (rid i : Nat) : Nm → Nm
  | .p k => nms.getD k (.p k)
  | .n k => .r rid i k
  | m => m
def Ob.ren (ρ : Nm → Nm) (ob : Ob) : Ob := { ob with cells := D.renL ρ ob.cells }
def Ob.frz (ob : Ob) : Ob := { ob with own := false }
theorem yCD {m m' : Nm} {d : D} (h : d.has m = false) : (d.poi m').has m = false := by
  unfold D.poi
  split
  · rfl
  · exact h
theorem nT {m m' : Nm} : ∀ {ds : List D}, D.hasL m ds = false → D.hasL m (ds.map (D.poi m')) = false
  | [], _ => rfl
  | d :: ds, h => by
    simp only [D.hasL, Bool.or_eq_false_iff] at h
    simp [D.hasL, yCD h.1, nT h.2]
theorem yBw {Γ : Gl} {E : Env} {a : Act} {w : World} {η : Et} : ∀ (ms : List Nm) {X : St}, Sim Γ E X a w η → Sim Γ E (X.poiL ms) a w η
  | [], X, h => h
  | m :: ms, X, h => yBw ms (h.poi m)
theorem fY {m : Nm} : ∀ (ms : List Nm) {X : St}, D.hasL m X.sl = false → D.hasL m (X.poiL ms).sl = false
  | [], X, h => h
  | m' :: ms, X, h => fY ms (X := X.poi m') (nT h)
theorem yDI {m : Nm} : ∀ (ms : List Nm) {X : St}, m ∈ ms → D.hasL m (X.poiL ms).sl = false
  | m' :: ms, X, h => by
    rcases List.mem_cons.1 h with rfl | h
    · exact fY ms (X := X.poi m) (D.hasL_poi m _)
    · exact yDI ms h
theorem poiL_ob : ∀ (ms : List Nm) {X : St} {m' : Nm} {ob : Ob}, (X.poiL ms).hp m' = some ob → ∃ ob0, X.hp m' = some ob0 ∧ ob.ty = ob0.ty ∧ ob.row = ob0.row ∧ ob.own = ob0.own ∧ (∀ m, D.hasL m ob0.cells = false → D.hasL m ob.cells = false) ∧ ∀ m ∈ ms, D.hasL m ob.cells = false
  | [], X, m', ob, h => ⟨ob, h, rfl, rfl, rfl, fun _ h => h, fun _ h => by cases h⟩
  | m1 :: ms, X, m', ob, h => by
    obtain ⟨ob1, h1, h2, h3, h4, h5, h6⟩ := poiL_ob ms (X := X.poi m1) h
    simp only [St.poi, Option.map_eq_some_iff] at h1
    obtain ⟨ob0, h7, rfl⟩ := h1
    refine ⟨ob0, h7, h2, h3, h4, fun m hm => h5 m (nT hm), fun m hm => ?_⟩
    rcases List.mem_cons.1 hm with rfl | hm
    · exact h5 m (D.hasL_poi m _)
    · exact h6 m hm
theorem poiL_none : ∀ (ms : List Nm) {X : St} {m' : Nm}, (X.poiL ms).hp m' = none ↔ X.hp m' = none
  | [], X, m' => Iff.rfl
  | m1 :: ms, X, m' => by
    rw [show X.poiL (m1 :: ms) = (X.poi m1).poiL ms from rfl, poiL_none ms]
    simp [St.poi]
theorem cM {η : Et} {b : Nat} : ∀ (ms : List Nm) {X : St}, Mut (X.poiL ms).hp η b ↔ Mut X.hp η b
  | [], X => Iff.rfl
  | m :: ms, X => by
    rw [show X.poiL (m :: ms) = (X.poi m).poiL ms from rfl, cM ms]
    exact yFc m b
def yQ (P : Program) (f : FuncId) : Bool := match P.funcs[f]? with | some fn => (fn.name != "runtime.NumGoroutine") && fn.body.isSome | none => false
theorem dC {P : Program} {f : FuncId} (h : yQ P f = true) (args : Array Value) (w : World) : (callFunc f args).run P w = .ok (.enter f args) w := by
  unfold yQ at h
  split at h
  · rename_i fn hf
    simp only [Bool.and_eq_true, bne_iff_ne, ne_eq] at h
    have h2 : fn.body.isNone = false := by cases e : fn.body <;> simp_all
    simp [callFunc, hf, h.1, h2]
    intro h'
    rw [h'] at h2
    cases h2
  · cases h
end Go.Ot

namespace Go.Ot
structure Gr where
  sw : List (Nat × D)
  ow : List (Nm × Option Ob)
  F : List Nm
def mD (sl : List D) : List (Nat × D) → List D
  | [] => sl
  | (s, d) :: r => mD (sl.set s d) r
def St.gapp (X : St) (g : Gr) : St := ⟨mD X.sl g.sw, nL X.hp g.ow⟩
theorem setL_len : ∀ (us : List (Nat × D)) (sl : List D), (mD sl us).length = sl.length
  | [], _ => rfl
  | (s, d) :: us, sl => by rw [mD, setL_len us, List.length_set]
theorem sF {s : Nat} : ∀ {us : List (Nat × D)} {sl : List D}, s ∉ us.map (·.1) → (mD sl us)[s]? = sl[s]?
  | [], _, _ => rfl
  | (s', d) :: us, sl, h => by
    simp only [List.map_cons, List.mem_cons, not_or] at h
    rw [mD, sF h.2, List.getElem?_set_ne (fun e => h.1 e.symm)]
theorem dB {s : Nat} : ∀ {us : List (Nat × D)} {sl sl' : List D}, s ∈ us.map (·.1) → sl.length = sl'.length → (mD sl us)[s]? = (mD sl' us)[s]?
  | [], _, _, h, _ => by simp at h
  | (s', d) :: us, sl, sl', h, hl => by
    simp only [mD]
    by_cases e : s ∈ us.map (·.1)
    · exact dB e (by simp [hl])
    · have e' : s = s' := by simpa [e] using h
      subst e'
      rw [sF e, sF e]
      simp [List.getElem?_set, hl]
def nO (ops : Array Oper) (oi oj : Oper) (gi gj : Gr) : Bool :=
  (gi.sw.map (·.1)).any (fun s => (tS ops oj).contains s || (gj.sw.map (·.1)).contains s) || (gj.sw.map (·.1)).any (fun s => (tS ops oi).contains s) ||
  (gi.ow.map (·.1)).any (fun m => gj.F.contains m || (gj.ow.map (·.1)).contains m) || (gj.ow.map (·.1)).any (fun m => gi.F.contains m)
def kB (ops : Array Oper) (gs : List Gr) : Bool :=
  let an := ancs ops.toList []
  ((List.range ops.size).all fun j => match ops[j]? with | some oj => oj.after.toList.all fun e => !Region.binds .any e || decide (e.on < j) | none => true) &&
  (List.range ops.size).all fun j => (List.range j).all fun i =>
    match ops[i]?, ops[j]?, gs[i]?, gs[j]? with
    | some oi, some oj, some gi, some gj => !nO ops oi oj gi gj || (an.getD j 0).testBit i
    | _, _, _, _ => false
def vS (ops : Array Oper) (gs : List Gr) (X : St) (L : Nat → Bool) : Nat → St
  | 0 => X
  | k + 1 => match ops[k]?, gs[k]? with
    | some _, some g => if L k then (vS ops gs X L k).gapp g else vS ops gs X L k
    | _, _ => vS ops gs X L k
theorem gA {ops : Array Oper} {ms : List Gr} (h : kB ops ms = true) {i j : Nat} (hij : i < j) {oi oj : Oper} {mi mj : Gr} (h1 : ops[i]? = some oi) (h2 : ops[j]? = some oj) (h3 : ms[i]? = some mi) (h4 : ms[j]? = some mj) (hc : nO ops oi oj mi mj = true) :
    ((ancs ops.toList []).getD j 0).testBit i = true := by
  have hj : j < ops.size := (Array.getElem?_eq_some_iff.1 h2).1
  simp only [kB, Bool.and_eq_true, List.all_eq_true, List.mem_range] at h
  have := h.2 j hj i hij
  simp only [h1, h2, h3, h4, hc, Bool.not_true, Bool.false_or] at this
  simpa using this
theorem qU {ops : Array Oper} {ms : List Gr} (h : kB ops ms = true) {j : Nat} {oj : Oper} (hj : ops[j]? = some oj) : ∀ e ∈ oj.after.toList, Region.binds .any e = true → e.on < j := by
  intro e he hb
  simp only [kB, Bool.and_eq_true, List.all_eq_true, List.mem_range] at h
  have := h.1 j (Array.getElem?_eq_some_iff.1 hj).1
  simp only [hj, List.all_eq_true] at this
  have := this e he
  simp only [hb, Bool.not_true, Bool.false_or, decide_eq_true_eq] at this
  exact this
section
variable {ops : Array Oper} {gs : List Gr} {X : St} {L L' : Nat → Bool}
theorem yBT {Y : St} {g : Gr} : (Y.gapp g).sl.length = Y.sl.length := setL_len _ _
theorem gfold_len : ∀ k, (vS ops gs X L k).sl.length = X.sl.length
  | 0 => rfl
  | k + 1 => by
    simp only [vS]
    split
    · split
      · rw [yBT, gfold_len k]
      · exact gfold_len k
    · exact gfold_len k
theorem gfold_congr : ∀ k, (∀ j, j < k → L j = L' j) → vS ops gs X L k = vS ops gs X L' k
  | 0, _ => rfl
  | k + 1, h => by
    simp only [vS]
    rw [gfold_congr k (fun j hj => h j (by omega)), h k (by omega)]
theorem nB (s : Nat) : ∀ n, (∀ k, k < n → (∃ g, gs[k]? = some g ∧ s ∈ g.sw.map (·.1)) → L k = L' k) → (vS ops gs X L n).sl[s]? = (vS ops gs X L' n).sl[s]?
  | 0, _ => rfl
  | n + 1, h => by
    have ih := nB s n (fun k hk => h k (by omega))
    simp only [vS]
    split
    · rename_i o g ho hg
      by_cases hd : s ∈ g.sw.map (·.1)
      · rw [h n (by omega) ⟨g, hg, hd⟩]
        cases e : L' n with
        | true => simp only [if_true]; exact dB hd (by rw [gfold_len, gfold_len])
        | false => simpa using ih
      · have e : ∀ (b : Bool) (Y : St), (if b = true then Y.gapp g else Y).sl[s]? = Y.sl[s]? := by
          intro b Y
          cases b
          · rfl
          · exact sF hd
        rw [e, e, ih]
    · exact ih
theorem nC (m : Nm) : ∀ n, (∀ k, k < n → (∃ g, gs[k]? = some g ∧ m ∈ g.ow.map (·.1)) → L k = L' k) → (vS ops gs X L n).hp m = (vS ops gs X L' n).hp m
  | 0, _ => rfl
  | n + 1, h => by
    have ih := nC m n (fun k hk => h k (by omega))
    simp only [vS]
    split
    · rename_i o g ho hg
      by_cases hd : m ∈ g.ow.map (·.1)
      · rw [h n (by omega) ⟨g, hg, hd⟩]
        cases e : L' n with
        | true => simp only [if_true]; exact nW hd
        | false => simpa using ih
      · have e : ∀ (b : Bool) (Y : St), (if b = true then Y.gapp g else Y).hp m = Y.hp m := by
          intro b Y
          cases b
          · rfl
          · exact qI _ _ hd
        rw [e, e, ih]
    · exact ih
end
structure GOpen (Γ : Gl) (P : Program) (ops : Array Oper) (X : St) (gs : List Gr) (S : Nat → St) : Prop where
  len : gs.length = ops.size
  first : S 0 = X
  next : ∀ i o g, ops[i]? = some o → gs[i]? = some g → S (i + 1) = (S i).gapp g
  spec : ∀ i o g L, ops[i]? = some o → gs[i]? = some g → L i = false → (∀ k, ((ancs ops.toList []).getD k 0).testBit i = true → L k = false) →
    (∀ s ∈ tS ops o, (vS ops gs X L ops.size).sl[s]? = (S i).sl[s]?) → (∀ m ∈ g.F, (vS ops gs X L ops.size).hp m = (S i).hp m) →
    ∀ (E : Env) (Q : Exit → Act → World → Prop) (K : Act → World → Prop) (a : Act) (w : World) (η : Et), Sim Γ E (vS ops gs X L ops.size) a w η → (∀ a' w' η', Sim Γ E ((vS ops gs X L ops.size).gapp g) a' w' η' → K a' w') → wpOp P ops Q i K a w
theorem GOpen.fold {Γ : Gl} {P : Program} {ops : Array Oper} {X : St} {gs : List Gr} {S : Nat → St} (h : GOpen Γ P ops X gs S) (i : Nat) : ∀ k, k ≤ ops.size → i ≤ k → vS ops gs X (fun j => decide (j < i)) k = S i
  | 0, _, hi => by
    have : i = 0 := by omega
    subst this
    exact h.first.symm
  | k + 1, hk, hi => by
    have ho : ops[k]? = some ops[k] := Array.getElem?_eq_getElem (by omega)
    have hr : gs[k]? = some (gs[k]'(by rw [h.len]; omega)) := List.getElem?_eq_getElem (by rw [h.len]; omega)
    simp only [vS, ho, hr]
    by_cases e : k < i
    · have ei : i = k + 1 := by omega
      subst ei
      simp only [decide_eq_true e, if_true]
      rw [h.next k _ _ ho hr, ← GOpen.fold h k k (by omega) (Nat.le_refl _)]
      congr 1
      exact gfold_congr k (fun j hj => by simp; omega)
    · simp only [decide_eq_false e, Bool.false_eq_true, if_false]
      exact GOpen.fold h i k (by omega) (by omega)
theorem yCG {Γ : Gl} {P : Program} {ops : Array Oper} {X : St} {gs : List Gr} {S : Nat → St} (h : GOpen Γ P ops X gs S) (hok : kB ops gs = true) {L : Nat → Bool}
    (hc : ∀ i, L i = true → lR ops L i) {i : Nat} {o : Oper} {r : Gr} (hi : ops[i]? = some o) (hri : gs[i]? = some r) (hw : lR ops L i) (hLi : L i = false) :
    (∀ s ∈ tS ops o, (vS ops gs X L ops.size).sl[s]? = (S i).sl[s]?) ∧ (∀ m ∈ r.F, (vS ops gs X L ops.size).hp m = (S i).hp m) ∧
      (vS ops gs X L ops.size).gapp r = vS ops gs X (fun j => if j = i then true else L j) ops.size ∧ (∀ k, ((ancs ops.toList []).getD k 0).testBit i = true → L k = false) := by
  have hin : i < ops.size := (Array.getElem?_eq_some_iff.1 hi).1
  have hsome : ∀ k, k < ops.size → ∃ ok rk, ops[k]? = some ok ∧ gs[k]? = some rk := fun k hk => ⟨_, _, Array.getElem?_eq_getElem hk, List.getElem?_eq_getElem (by rw [h.len]; exact hk)⟩
  have anc : ∀ j, lR ops L j → ∀ k, ((ancs ops.toList []).getD j 0).testBit k = true → L k = true := cI hc ops.toList [] (fun k => by simp) (fun j _ k hk => by simp at hk)
  have hno : ∀ k, ((ancs ops.toList []).getD k 0).testBit i = true → L k = false := fun k hk => by
    cases e : L k with
    | false => rfl
    | true => have := anc k (hc k e) i hk; rw [hLi] at this; cases this
  have at_ : ∀ k ok rk, k < ops.size → ops[k]? = some ok → gs[k]? = some rk → (k < i → nO ops ok o rk r = true) → (i < k → nO ops o ok r rk = true) → L k = decide (k < i) := fun k ok rk hk h1 h2 h3 h4 => by
    rcases Nat.lt_trichotomy k i with e | e | e
    · rw [anc i hw k (gA hok e h1 hi h2 hri (h3 e))]; simp [e]
    · subst e; rw [hLi]; simp
    · rw [hno k (gA hok e hi h1 hri h2 (h4 e))]; simp; omega
  have full := h.fold i ops.size (Nat.le_refl _) (by omega)
  have con : ∀ {α : Type} [BEq α] [LawfulBEq α] (l : List α) (m : α), m ∈ l → l.contains m = true := fun l m h => by simpa using h
  have slotW : ∀ s k, k < ops.size → (∃ gk, gs[k]? = some gk ∧ s ∈ gk.sw.map (·.1)) → (s ∈ tS ops o ∨ s ∈ r.sw.map (·.1)) → L k = decide (k < i) := fun s k hk ⟨gk, h1, h2⟩ hs => by
    obtain ⟨ok, rk', h3, h1'⟩ := hsome k hk
    rw [h1] at h1'
    cases h1'
    refine at_ k ok gk hk h3 h1 (fun _ => ?_) (fun _ => ?_)
    · have : ((gk.sw.map (·.1)).any fun s => (tS ops o).contains s || (r.sw.map (·.1)).contains s) = true := by
        rw [List.any_eq_true]
        refine ⟨s, h2, ?_⟩
        rcases hs with hs | hs
        · rw [con _ s hs]; rfl
        · rw [con _ s hs, Bool.or_true]
      simp only [nO, this, Bool.true_or]
    · rcases hs with hs | hs
      · have : ((gk.sw.map (·.1)).any fun s => (tS ops o).contains s) = true := by
          rw [List.any_eq_true]; exact ⟨s, h2, con _ s hs⟩
        simp only [nO, this, Bool.true_or, Bool.or_true]
      · have : ((r.sw.map (·.1)).any fun s => (tS ops ok).contains s || (gk.sw.map (·.1)).contains s) = true := by
          rw [List.any_eq_true]
          refine ⟨s, hs, ?_⟩
          rw [con _ s h2, Bool.or_true]
        simp only [nO, this, Bool.true_or]
  have nameW : ∀ m k, k < ops.size → (∃ gk, gs[k]? = some gk ∧ m ∈ gk.ow.map (·.1)) → (m ∈ r.F ∨ m ∈ r.ow.map (·.1)) → L k = decide (k < i) := fun m k hk ⟨gk, h1, h2⟩ hm => by
    obtain ⟨ok, rk', h3, h1'⟩ := hsome k hk
    rw [h1] at h1'
    cases h1'
    refine at_ k ok gk hk h3 h1 (fun _ => ?_) (fun _ => ?_)
    · have : ((gk.ow.map (·.1)).any fun m => r.F.contains m || (r.ow.map (·.1)).contains m) = true := by
        rw [List.any_eq_true]
        refine ⟨m, h2, ?_⟩
        rcases hm with hm | hm
        · rw [con _ m hm]; rfl
        · rw [con _ m hm, Bool.or_true]
      simp only [nO, this, Bool.true_or, Bool.or_true]
    · rcases hm with hm | hm
      · have : ((gk.ow.map (·.1)).any fun m => r.F.contains m) = true := by
          rw [List.any_eq_true]; exact ⟨m, h2, con _ m hm⟩
        simp only [nO, this, Bool.or_true]
      · have : ((r.ow.map (·.1)).any fun m => gk.F.contains m || (gk.ow.map (·.1)).contains m) = true := by
          rw [List.any_eq_true]
          refine ⟨m, hm, ?_⟩
          rw [con _ m h2, Bool.or_true]
        simp only [nO, this, Bool.true_or, Bool.or_true]
  refine ⟨fun s hs => ?_, fun m hm => ?_, ?_, hno⟩
  · rw [← full]; exact nB s _ (fun k hk hwk => slotW s k hk hwk (.inl hs))
  · rw [← full]; exact nC m _ (fun k hk hwk => nameW m k hk hwk (.inl hm))
  · have full' := h.fold (i + 1) ops.size (Nat.le_refl _) (by omega)
    have hnext := h.next i o r hi hri
    have ext : ∀ Y Z : St, (∀ s : Nat, Y.sl[s]? = Z.sl[s]?) → (∀ m, Y.hp m = Z.hp m) → Y = Z := fun Y Z h1 h2 => by
      cases Y; cases Z
      congr 1
      · exact List.ext_getElem? h1
      · exact funext h2
    refine ext _ _ (fun s => ?_) (fun m => ?_)
    · by_cases hd : s ∈ r.sw.map (·.1)
      · have e1 : (vS ops gs X (fun j => if j = i then true else L j) ops.size).sl[s]? = (S (i + 1)).sl[s]? := by
          rw [← full']
          refine nB s _ (fun k hk hwk => ?_)
          by_cases e : k = i
          · simp [e]
          · simp only [e, if_false, slotW s k hk hwk (.inr hd)]
            congr 1
            simp; omega
        rw [e1, hnext]
        exact dB hd (by rw [← full, gfold_len, gfold_len])
      · show (mD (vS ops gs X L ops.size).sl r.sw)[s]? = _
        rw [sF hd]
        refine (nB s _ (fun k hk ⟨g, h1, h2⟩ => ?_)).symm
        have : k ≠ i := by rintro rfl; rw [hri] at h1; cases h1; exact hd h2
        simp only [this, if_false]
    · by_cases hd : m ∈ r.ow.map (·.1)
      · have e1 : (vS ops gs X (fun j => if j = i then true else L j) ops.size).hp m = (S (i + 1)).hp m := by
          rw [← full']
          refine nC m _ (fun k hk hwk => ?_)
          by_cases e : k = i
          · simp [e]
          · simp only [e, if_false, nameW m k hk hwk (.inr hd)]
            congr 1
            simp; omega
        rw [e1, hnext]
        exact nW hd
      · show nL (vS ops gs X L ops.size).hp r.ow m = _
        rw [qI _ _ hd]
        refine (nC m _ (fun k hk ⟨g, h1, h2⟩ => ?_)).symm
        have : k ≠ i := by rintro rfl; rw [hri] at h1; cases h1; exact hd h2
        simp only [this, if_false]
theorem yEs {Γ : Gl} {P : Program} {ops : Array Oper} {X : St} {gs : List Gr} {S : Nat → St} {E : Env} {Q : Exit → Act → World → Prop} (h : GOpen Γ P ops X gs S) (hok : kB ops gs = true)
    (hQ : ∀ a' w' η', Sim Γ E (S ops.size) a' w' η' → Q .normal a' w') : ∀ (fuel : Nat) (listed : Array Bool) (a : Act) (w : World) (η : Et), listed.size = ops.size → ((List.range ops.size).filter fun i => !listed.getD i false).length ≤ fuel →
      (∀ i, listed.getD i false = true → lR ops (fun j => listed.getD j false) i) →
      Sim Γ E (vS ops gs X (fun j => listed.getD j false) ops.size) a w η → wpAny P .any ops Q fuel listed a w := by
  have gd : ∀ (listed : Array Bool) (i : Nat), listed.size = ops.size → i < ops.size → listed.getD i true = listed.getD i false := fun listed i hl hi => by
    have : i < listed.size := by omega
    simp [this]
  have ready : ∀ (listed : Array Bool), listed.size = ops.size → ∀ i, i ∈ Region.ready .any ops listed ↔ ∃ o, ops[i]? = some o ∧ listed.getD i false = false ∧ lR ops (fun j => listed.getD j false) i := fun listed hl i => by
    simp only [Region.ready, List.mem_filter, List.mem_range, Bool.and_eq_true]
    constructor
    · rintro ⟨h1, h2, h3⟩
      have ho : ops[i]? = some ops[i] := Array.getElem?_eq_getElem h1
      rw [gd listed i hl h1] at h2
      refine ⟨_, ho, by simpa using h2, fun o' ho' e he hb => ?_⟩
      rw [ho'] at h3
      simp only [Option.map_some, Option.getD_some] at h3
      have := (Array.all_eq_true_iff_forall_mem.1 h3) e (Array.mem_toList_iff.1 he)
      simpa [hb] using this
    · rintro ⟨o, ho, h1, h2⟩
      have hi : i < ops.size := (Array.getElem?_eq_some_iff.1 ho).1
      refine ⟨hi, by rw [gd listed i hl hi, h1]; rfl, ?_⟩
      rw [ho]
      simp only [Option.map_some, Option.getD_some]
      refine Array.all_eq_true_iff_forall_mem.2 (fun e he => ?_)
      cases hb : Region.binds .any e with
      | false => simp
      | true => simpa using h2 o ho e (Array.mem_toList_iff.2 he) hb
  have done : ∀ (listed : Array Bool) (a : Act) (w : World) (η : Et), listed.size = ops.size → Region.ready .any ops listed = [] → Sim Γ E (vS ops gs X (fun j => listed.getD j false) ops.size) a w η → Q .normal a w := by
    intro listed a w η hl hr hS
    have all : ∀ i, i < ops.size → listed.getD i false = true := by
      intro i
      induction i using Nat.strongRecOn with
      | _ i ih =>
        intro hi
        cases e : listed.getD i false with
        | true => rfl
        | false =>
          have : i ∈ Region.ready .any ops listed := (ready listed hl i).2 ⟨_, Array.getElem?_eq_getElem hi, e, fun o ho ed he hb => ih ed.on (qU hok ho ed he hb) (Nat.lt_trans (qU hok ho ed he hb) hi)⟩
          rw [hr] at this
          cases this
    refine hQ a w η ?_
    rw [← h.fold ops.size ops.size (Nat.le_refl _) (Nat.le_refl _)]
    rwa [gfold_congr (L := fun j => listed.getD j false) (L' := fun j => decide (j < ops.size)) ops.size (fun j hj => by rw [all j hj]; simp [hj])] at hS
  intro fuel
  induction fuel with
  | zero =>
    intro listed a w η hl hf hc hS
    have hr : Region.ready .any ops listed = [] := by
      refine List.eq_nil_iff_forall_not_mem.2 (fun i hi => ?_)
      obtain ⟨o, ho, h1, _⟩ := (ready listed hl i).1 hi
      have : i ∈ (List.range ops.size).filter fun i => !listed.getD i false := List.mem_filter.2 ⟨List.mem_range.2 (Array.getElem?_eq_some_iff.1 ho).1, by rw [h1]; rfl⟩
      have := List.length_pos_of_mem this
      omega
    exact ⟨hr, done listed a w η hl hr hS⟩
  | succ fuel ih =>
    intro listed a w η hl hf hc hS
    refine ⟨fun hr => done listed a w η hl hr hS, fun i hi => ?_⟩
    obtain ⟨o, ho, h1, h2⟩ := (ready listed hl i).1 hi
    have hin : i < ops.size := (Array.getElem?_eq_some_iff.1 ho).1
    have hri : gs[i]? = some (gs[i]'(by rw [h.len]; exact hin)) := List.getElem?_eq_getElem (by rw [h.len]; exact hin)
    obtain ⟨g2, g3, g4, g5⟩ := yCG h hok hc ho hri h2 h1
    refine h.spec i o _ _ ho hri h1 g5 g2 g3 E Q _ a w η hS (fun a' w' η' hS' => ?_)
    rw [g4] at hS'
    have gset : ∀ j, (listed.setIfInBounds i true).getD j false = if j = i then true else listed.getD j false := fun j => by
      by_cases e : j = i
      · subst e
        have : j < listed.size := by omega
        simp [this]
      · simp only [e, if_false, Array.getD_eq_getD_getElem?]
        rw [Array.getElem?_setIfInBounds_ne (fun e' => e e'.symm)]
    have geq : (fun j => (listed.setIfInBounds i true).getD j false) = fun j => if j = i then true else listed.getD j false := funext gset
    refine ih (listed.setIfInBounds i true) a' w' η' (by simp [hl]) ?_ ?_ (by rw [geq]; exact hS')
    · have hlt : ((List.range ops.size).filter fun j => !(listed.setIfInBounds i true).getD j false).length < ((List.range ops.size).filter fun j => !listed.getD j false).length := by
        have hsub : ∀ (l : List Nat), i ∈ l → (l.filter fun j => !(listed.setIfInBounds i true).getD j false).length < (l.filter fun j => !listed.getD j false).length := by
          have hle : ∀ (l : List Nat), (l.filter fun j => !(listed.setIfInBounds i true).getD j false).length ≤ (l.filter fun j => !listed.getD j false).length := by
            intro l
            induction l with
            | nil => simp
            | cons x l ihl =>
              simp only [List.filter_cons, gset]
              by_cases e : x = i
              · simp only [e, if_true, Bool.not_true, Bool.false_eq_true, if_false]
                split
                · simp; simp only [gset] at ihl; simpa using Nat.le_succ_of_le ihl
                · simp only [gset] at ihl; exact ihl
              · simp only [e, if_false]
                split
                · simp only [List.length_cons]; simp only [gset] at ihl; omega
                · simp only [gset] at ihl; exact ihl
          intro l
          induction l with
          | nil => intro hi; cases hi
          | cons x l ihl =>
            intro hx
            have hle' := hle l
            simp only [List.filter_cons, gset] at hle' ⊢
            by_cases e : x = i
            · simp only [e, if_true, Bool.not_true, Bool.false_eq_true, if_false, h1, Bool.not_false, List.length_cons]
              omega
            · have hx' : i ∈ l := by
                rcases List.mem_cons.1 hx with hx | hx
                · exact absurd hx.symm e
                · exact hx
              have := ihl hx'
              simp only [gset] at this
              simp only [e, if_false]
              split
              · simp only [List.length_cons]; omega
              · exact this
        exact hsub _ (List.mem_range.2 hin)
      omega
    · intro j hj
      rw [gset] at hj
      rw [geq]
      intro oj hoj ed he hb
      by_cases e : j = i
      · subst e
        have := h2 oj hoj ed he hb
        simp only [this]
        split <;> rfl
      · simp only [e, if_false] at hj
        have := hc j hj oj hoj ed he hb
        simp only [this]
        split <;> rfl
def toG (m : Nm) (K : List Nat) (KO : List Nm) (Z : St) (o : Oper) (r : Rec) : Gr :=
  ⟨(if r.poi.isEmpty then [] else K.map (·, D.bad)) ++ (match o.dst with | some s => [(s, r.val)] | none => []), (if r.poi.isEmpty then [] else KO.map fun m' => (m', (Z.hp m').map (Ob.poi (r.poi.headD m)))) ++ r.upd, if r.poi.isEmpty then r.F else KO ++ r.F⟩
def eS (m : Nm) (K : List Nat) (KO : List Nm) : St → List Oper → List Rec → List Gr
  | X, o :: os, r :: rs => toG m K KO X o r :: eS m K KO (X.app o.dst r) os rs
  | _, _, _ => []
theorem kP {m : Nm} {K : List Nat} {KO : List Nm} : ∀ {os : List Oper} {rs : List Rec} {i b : Nat} {o : Oper} {r : Rec} {S : Nat → St}, (∀ j o r, os[j]? = some o → rs[j]? = some r → S (b + j + 1) = (S (b + j)).app o.dst r) → os[i]? = some o → rs[i]? = some r → (eS m K KO (S b) os rs)[i]? = some (toG m K KO (S (b + i)) o r)
  | [], _, _, _, _, _, _, _, h, _ => by simp at h
  | _ :: _, [], _, _, _, _, _, _, _, h => by simp at h
  | o' :: os, r' :: rs, 0, b, o, r, S, hS, h1, h2 => by simp at h1 h2; subst h1 h2; rfl
  | o' :: os, r' :: rs, i + 1, b, o, r, S, hS, h1, h2 => by
    have e : (S b).app o'.dst r' = S (b + 1) := (hS 0 o' r' rfl rfl).symm
    have := kP (m := m) (K := K) (KO := KO) (os := os) (rs := rs) (i := i) (b := b + 1) (o := o) (r := r) (S := S) (fun j o r ho hr => by
      have := hS (j + 1) o r (by simpa using ho) (by simpa using hr)
      rwa [show b + (j + 1) = b + 1 + j from by omega] at this) (by simpa using h1) (by simpa using h2)
    simp only [eS, List.getElem?_cons_succ, e]
    rw [this, show b + 1 + i = b + (i + 1) from by omega]
theorem yBf {m : Nm} {K : List Nat} {KO : List Nm} : ∀ {os : List Oper} {rs : List Rec} {X : St}, os.length = rs.length → (eS m K KO X os rs).length = os.length
  | [], [], _, _ => rfl
  | [], _ :: _, _, h => by simp at h
  | _ :: _, [], _, h => by simp at h
  | _ :: os, _ :: rs, _, h => by simp [eS, yBf (os := os) (rs := rs) (by simpa using h)]
def jM (m : Nm) (K : List Nat) : Nat → List D → Bool
  | _, [] => true
  | i, d :: ds => (K.contains i || !d.has m) && jM m K (i + 1) ds
theorem fO {m : Nm} {K : List Nat} : ∀ {ds : List D} {j i : Nat} {d : D}, jM m K j ds = true → ds[i]? = some d → j + i ∉ K → d.has m = false
  | [], _, _, _, _, h, _ => by simp at h
  | d' :: ds, j, 0, d, h, hd, hK => by
    simp at hd; subst hd
    simp only [jM, Bool.and_eq_true, Bool.or_eq_true] at h
    rcases h.1 with h1 | h1
    · simp at h1; exact absurd h1 (by simpa using hK)
    · simpa using h1
  | d' :: ds, j, i + 1, d, h, hd, hK => by
    simp only [jM, Bool.and_eq_true] at h
    exact fO h.2 (by simpa using hd) (by rwa [show j + 1 + i = j + (i + 1) from by omega])
structure GOk (ops : Array Oper) (X : St) (rs : List Rec) (d0 : Nm) (ms : List Nm) (K : List Nat) (KO : List Nm) : Prop where
  reg : kB ops (eS d0 K KO X ops.toList rs) = true
  one : ∀ r ∈ rs, r.poi = [] ∨ ∃ m ∈ ms, r.poi = [m]
  sl : ∀ m ∈ ms, jM m K 0 X.sl = true
  hp : ∀ m ∈ ms, ∀ m' ob, m' ∉ KO → X.hp m' = some ob → D.hasL m ob.cells = false
  upd : ∀ m ∈ ms, ∀ (k : Nat) r, rs[k]? = some r → (∀ p ∈ r.upd, p.1 ∉ KO → ∀ ob, p.2 = some ob → D.hasL m ob.cells = false) ∨ (∀ (i : Nat) r', rs[i]? = some r' → r'.poi ≠ [] → i ≠ k → ((ancs ops.toList []).getD k 0).testBit i = true)
  val : ∀ m ∈ ms, ∀ (k : Nat) o r, ops[k]? = some o → rs[k]? = some r → r.val.has m = false ∨ (∀ s, o.dst = some s → s ∈ K) ∨ ∀ (i : Nat) r', rs[i]? = some r' → r'.poi ≠ [] → i ≠ k → ((ancs ops.toList []).getD k 0).testBit i = true
  lt : ∀ s ∈ K, s < X.sl.length
def eH (m : Nm) (K : List Nat) (X : St) (r : Rec) : Prop := r.poi = [] ∨ ∀ m', r.poi = [m'] → ∀ s ∈ K, (X.sl.getD s .bad).poi m' = .bad
theorem Sim.weak {Γ : Gl} {E : Env} {X X' : St} {a : Act} {w : World} {η : Et} (h : Sim Γ E X a w η) (hp : X'.hp = X.hp) (hl : X'.sl.length = X.sl.length) (hs : ∀ s : Nat, X'.sl[s]? = X.sl[s]? ∨ X'.sl[s]? = some D.bad) : Sim Γ E X' a w η := by
  obtain ⟨sl', hp'⟩ := X'
  simp only at hp hl hs
  subst hp
  refine { h with slots := ?_ }
  have h0 := h.slots
  refine RepsA.of_get (by rw [hl, h0.length]) (fun j d hd => ?_)
  rcases hs j with e | e
  · rw [e] at hd; exact h0.get hd
  · rw [e] at hd
    cases hd
    have hj : j < X.sl.length := by rw [← hl]; exact (List.getElem?_eq_some_iff.1 e).1
    have hj' : j < a.tmps.toList.length := by rw [h0.length]; exact hj
    exact ⟨_, List.getElem?_eq_getElem hj', trivial⟩
theorem yBv {m : Nm} {d : D} (h : d.has m = false) : d.poi m = d := by simp [D.poi, h]
theorem aD {m : Nm} : ∀ {ds : List D}, D.hasL m ds = false → ds.map (D.poi m) = ds
  | [], _ => rfl
  | d :: ds, h => by
    simp only [D.hasL, Bool.or_eq_false_iff] at h
    simp [yBv h.1, aD h.2]
theorem yFH {s : Nat} {K : List Nat} : ∀ {sl : List D}, (∀ s ∈ K, s < sl.length) → s ∈ K → (mD sl (K.map (·, D.bad)))[s]? = some .bad := by
  induction K with
  | nil => intro sl _ h; cases h
  | cons k K ih =>
    intro sl hl h
    simp only [List.map_cons, mD]
    by_cases e : s ∈ K
    · exact ih (fun s hs => by rw [List.length_set]; exact hl s (List.mem_cons_of_mem _ hs)) e
    · have e' : s = k := by simpa [e] using h
      subst e'
      rw [sF (by simpa using e)]
      simp [List.getElem?_set, hl s (by simp)]
theorem yBm {us vs : List (Nat × D)} : ∀ {sl : List D}, mD sl (us ++ vs) = mD (mD sl us) vs := by
  induction us with
  | nil => intro sl; rfl
  | cons p us ih => intro sl; simp only [List.cons_append, mD, ih]
theorem yBc {m' : Nm} {ob : Ob} : ∀ {us : List (Nm × Option Ob)} {h : Nm → Option Ob}, nL h us m' = some ob → h m' = some ob ∨ ∃ p ∈ us, p.1 = m' ∧ p.2 = some ob
  | [], h, e => .inl e
  | (m1, o1) :: us, h, e => by
    simp only [nL] at e
    rcases yBc e with h1 | ⟨p, hp, h1⟩
    · by_cases e2 : m' = m1
      · subst e2; rw [upd_same] at h1; exact .inr ⟨(m', o1), by simp, rfl, h1⟩
      · rw [upd_ne e2] at h1; exact .inl h1
    · exact .inr ⟨p, List.mem_cons_of_mem _ hp, h1⟩
theorem yFt {us vs : List (Nm × Option Ob)} : ∀ {h : Nm → Option Ob}, nL h (us ++ vs) = nL (nL h us) vs := by
  induction us with
  | nil => intro h; rfl
  | cons p us ih => intro h; obtain ⟨m, o⟩ := p; simp only [List.cons_append, nL, ih]
theorem yBb {f : Nm → Option Ob} {m' : Nm} : ∀ {KO : List Nm} {h : Nm → Option Ob}, nL h (KO.map fun m' => (m', f m')) m' = if m' ∈ KO then f m' else h m'
  | [], h => by simp [nL]
  | k :: KO, h => by
    simp only [List.map_cons, nL]
    rw [yBb (KO := KO)]
    by_cases e : m' ∈ KO
    · simp [e]
    · by_cases e2 : m' = k
      · subst e2; simp [e, upd_same]
      · simp [e, e2, upd_ne e2]
theorem yFG {sl : List D} {s : Nat} {v d : D} (h : (sl.set s v)[s]? = some d) : d = v := by
  rw [List.getElem?_set] at h
  simp at h
  exact h.2.symm
section
variable {ops : Array Oper} {X : St} {rs : List Rec} {d0 m : Nm} {ms : List Nm} {K : List Nat} {KO : List Nm} {S : Nat → St}
theorem yBQ (h : GOk ops X rs d0 ms K KO) (hm0 : m ∈ ms) (hl : rs.length = ops.size) (h0 : S 0 = X) (hS : ∀ j o r, ops[j]? = some o → rs[j]? = some r → S (j + 1) = (S j).app o.dst r) {L : Nat → Bool} (hL2 : ∀ (k : Nat) r, rs[k]? = some r → L k = true → (∀ (i : Nat) r', rs[i]? = some r' → r'.poi ≠ [] → i ≠ k → ((ancs ops.toList []).getD k 0).testBit i = true) → ∀ p ∈ r.upd, p.1 ∉ KO → ∀ ob, p.2 = some ob → D.hasL m ob.cells = false) : ∀ n, n ≤ ops.size → ∀ m' ob, m' ∉ KO → (vS ops (eS d0 K KO X ops.toList rs) X L n).hp m' = some ob → D.hasL m ob.cells = false
  | 0, _, m', ob, hm, e => h.hp m hm0 m' ob hm e
  | n + 1, hn, m', ob, hm, e => by
    have ho : ops[n]? = some ops[n] := Array.getElem?_eq_getElem (by omega)
    have hr : rs[n]? = some rs[n] := List.getElem?_eq_getElem (by omega)
    have hg : (eS d0 K KO X ops.toList rs)[n]? = some (toG d0 K KO (S n) ops[n] rs[n]) := by
      have := kP (m := d0) (K := K) (KO := KO) (os := ops.toList) (rs := rs) (i := n) (b := 0) (o := ops[n]) (r := rs[n]) (S := S) (fun j o r ho hr => by rw [Nat.zero_add]; exact hS j o r (by simpa using ho) hr) (by simp) hr
      rwa [h0, Nat.zero_add] at this
    simp only [vS, ho, hg] at e
    split at e
    · rename_i hLn
      rcases yBc e with e1 | ⟨p, hp, e0, e1⟩
      · exact yBQ h hm0 hl h0 hS hL2 n (by omega) m' ob hm e1
      · rcases List.mem_append.1 hp with hp | hp
        · exfalso
          split at hp
          · cases hp
          · obtain ⟨m2, hm2, rfl⟩ := List.mem_map.1 hp
            exact hm (by rw [← e0]; exact hm2)
        · exact (h.upd m hm0 n _ hr).elim (fun h1 => h1 p hp (by rw [e0]; exact hm) ob e1) (fun h1 => hL2 n _ hr hLn h1 p hp (by rw [e0]; exact hm) ob e1)
    · exact yBQ h hm0 hl h0 hS hL2 n (by omega) m' ob hm e
theorem yEu (h : GOk ops X rs d0 ms K KO) (hm0 : m ∈ ms) (hl : rs.length = ops.size) (h0 : S 0 = X) (hS : ∀ j o r, ops[j]? = some o → rs[j]? = some r → S (j + 1) = (S j).app o.dst r) {L : Nat → Bool} (hL : ∀ (k : Nat) r, rs[k]? = some r → L k = true → (∀ (i : Nat) r', rs[i]? = some r' → r'.poi ≠ [] → i ≠ k → ((ancs ops.toList []).getD k 0).testBit i = true) → r.val.has m = false ∨ ∀ s, (ops[k]?.bind (·.dst)) = some s → s ∈ K) :
    ∀ n, n ≤ ops.size → ∀ s d, s ∉ K → (vS ops (eS d0 K KO X ops.toList rs) X L n).sl[s]? = some d → d.has m = false
  | 0, _, s, d, hs, e => fO (h.sl m hm0) e (by rwa [Nat.zero_add])
  | n + 1, hn, s, d, hs, e => by
    have ho : ops[n]? = some ops[n] := Array.getElem?_eq_getElem (by omega)
    have hr : rs[n]? = some rs[n] := List.getElem?_eq_getElem (by omega)
    have hg : (eS d0 K KO X ops.toList rs)[n]? = some (toG d0 K KO (S n) ops[n] rs[n]) := by
      have := kP (m := d0) (K := K) (KO := KO) (os := ops.toList) (rs := rs) (i := n) (b := 0) (o := ops[n]) (r := rs[n]) (S := S) (fun j o r ho hr => by rw [Nat.zero_add]; exact hS j o r (by simpa using ho) hr) (by simp) hr
      rwa [h0, Nat.zero_add] at this
    simp only [vS, ho, hg] at e
    have ih := yEu h hm0 hl h0 hS hL n (by omega) s
    split at e
    · rename_i hLn
      have e : (mD (vS ops (eS d0 K KO X ops.toList rs) X L n).sl (toG d0 K KO (S n) ops[n] rs[n]).sw)[s]? = some d := e
      rw [toG, yBm] at e
      have hnk : ∀ sl : List D, (mD sl (if rs[n].poi.isEmpty then [] else K.map (·, D.bad)))[s]? = sl[s]? := fun sl => by
        split
        · rfl
        · exact sF (by simpa using hs)
      cases hd : ops[n].dst with
      | none =>
        rw [hd] at e
        simp only [mD] at e
        rw [hnk] at e
        exact ih d hs e
      | some t =>
        rw [hd] at e
        simp only [mD] at e
        by_cases est : t = s
        · subst est
          obtain rfl := yFG e
          have key : rs[n].val.has m = false ∨ (∀ s, ops[n].dst = some s → s ∈ K) := by
            rcases h.val m hm0 n _ _ ho hr with h1 | h1 | h1
            · exact .inl h1
            · exact .inr h1
            · rcases hL n _ hr hLn h1 with h2 | h2
              · exact .inl h2
              · exact .inr (fun s' hs' => h2 s' (by rw [ho]; exact hs'))
          rcases key with h1 | h1
          · exact h1
          · exact absurd (h1 t hd) hs
        · rw [List.getElem?_set_ne est, hnk] at e
          exact ih d hs e
    · exact ih d hs e
end
theorem yGq {Γ : Gl} {P : Program} {ops : Array Oper} {X : St} {rs : List Rec} {d0 : Nm} {ms : List Nm} {K : List Nat} {KO : List Nm} {S : Nat → St} (h : GOk ops X rs d0 ms K KO) (hl : rs.length = ops.size) (h0 : S 0 = X)
    (hS : ∀ j o r, ops[j]? = some o → rs[j]? = some r → S (j + 1) = (S j).app o.dst r ∧ Spec Γ P ops o (S j) r ∧ eH d0 K (S j) r) : GOpen Γ P ops X (eS d0 K KO X ops.toList rs) S := by
  have hS1 : ∀ j o r, ops[j]? = some o → rs[j]? = some r → S (j + 1) = (S j).app o.dst r := fun j o r ho hr => (hS j o r ho hr).1
  have hlg : (eS d0 K KO X ops.toList rs).length = ops.size := by rw [yBf (by simpa using hl.symm)]; simp
  have getG : ∀ i o r, ops[i]? = some o → rs[i]? = some r → (eS d0 K KO X ops.toList rs)[i]? = some (toG d0 K KO (S i) o r) := fun i o r ho hr => by
    have := kP (m := d0) (K := K) (KO := KO) (os := ops.toList) (rs := rs) (i := i) (b := 0) (o := o) (r := r) (S := S) (fun j o r ho hr => by rw [Nat.zero_add]; exact hS1 j o r (by simpa using ho) hr) (by simpa using ho) hr
    rwa [h0, Nat.zero_add] at this
  have split : ∀ i g, (eS d0 K KO X ops.toList rs)[i]? = some g → ∀ o, ops[i]? = some o → ∃ r, rs[i]? = some r ∧ g = toG d0 K KO (S i) o r := fun i g hg o ho => by
    have hi : i < ops.size := (Array.getElem?_eq_some_iff.1 ho).1
    have hr : rs[i]? = some rs[i] := List.getElem?_eq_getElem (by omega)
    have := getG i o rs[i] ho hr
    rw [hg] at this
    exact ⟨_, hr, Option.some.inj this⟩
  -- what an application and a G-application share, where the name stands in K and KO alone
  have same : ∀ (Y Z : St) (o : Oper) (r : Rec), (r.poi ≠ [] → ∀ m' ∈ KO, Y.hp m' = Z.hp m') → (∀ m ∈ ms, r.poi = [m] → ∀ m' ob, m' ∉ KO → Y.hp m' = some ob → D.hasL m ob.cells = false) → (r.poi = [] ∨ ∃ m ∈ ms, r.poi = [m]) → (∀ m ∈ ms, r.poi = [m] → ∀ s d, s ∉ K → Y.sl[s]? = some d → d.has m = false) → (∀ s ∈ K, s < Y.sl.length) →
      (Y.gapp (toG d0 K KO Z o r)).hp = (Y.app o.dst r).hp ∧ ∀ s, (Y.gapp (toG d0 K KO Z o r)).sl[s]? = (Y.app o.dst r).sl[s]? ∨ (r.poi ≠ [] ∧ s ∈ K ∧ (Y.gapp (toG d0 K KO Z o r)).sl[s]? = some .bad ∧ o.dst ≠ some s) := by
    intro Y Z o r hYZ hhp h1 hsl hK
    rcases h1 with h1 | ⟨m, hm, h1⟩
    · refine ⟨by simp [St.gapp, toG, St.app, h1, St.poiL], fun s => .inl ?_⟩
      cases hd : o.dst <;> simp [St.gapp, toG, St.app, h1, St.poiL, hd, mD, nR]
    · have hpp : nL Y.hp (KO.map fun m' => (m', (Z.hp m').map (Ob.poi m))) = (Y.poi m).hp := by
        funext m'
        rw [yBb (f := fun m' => (Z.hp m').map (Ob.poi m))]
        simp only [St.poi]
        by_cases hk : m' ∈ KO
        · rw [if_pos hk, ← hYZ (by simp [h1]) m' hk]
        · rw [if_neg hk]
          cases e : Y.hp m' with
          | none => rfl
          | some ob => simp [Ob.poi, aD (hhp m hm h1 m' ob hk e)]
      refine ⟨by
        show nL Y.hp (toG d0 K KO Z o r).ow = _
        have : (toG d0 K KO Z o r).ow = (KO.map fun m' => (m', (Z.hp m').map (Ob.poi m))) ++ r.upd := by simp [toG, h1]
        rw [this, yFt, hpp]
        simp [St.app, h1, St.poiL], fun s => ?_⟩
      have hps : s ∉ K → ((Y.poi m).sl)[s]? = Y.sl[s]? := fun hs => by
        simp only [St.poi, List.getElem?_map]
        cases e : Y.sl[s]? with
        | none => rfl
        | some d => simp [yBv (hsl m hm h1 s d hs e)]
      have e0 : (toG d0 K KO Z o r).sw = K.map (·, D.bad) ++ (match o.dst with | some s => [(s, r.val)] | none => []) := by simp [toG, h1]
      have e1 : (Y.app o.dst r).sl = nR (Y.poi m).sl o.dst r.val := by simp [St.app, h1, St.poiL]
      have e2 : (Y.gapp (toG d0 K KO Z o r)).sl = mD (mD Y.sl (K.map (·, D.bad))) (match o.dst with | some s => [(s, r.val)] | none => []) := by show mD Y.sl (toG d0 K KO Z o r).sw = _; rw [e0, yBm]
      rw [e1, e2]
      have lenP : (Y.poi m).sl.length = Y.sl.length := by simp [St.poi]
      by_cases hd : o.dst = some s
      · left
        rw [hd]
        simp only [mD, nR]
        rw [List.getElem?_set, List.getElem?_set, setL_len, lenP]
        simp
      · have hB : (mD (mD Y.sl (K.map (·, D.bad))) (match o.dst with | some s => [(s, r.val)] | none => []))[s]? = (mD Y.sl (K.map (·, D.bad)))[s]? := by
          cases e : o.dst with
          | none => rfl
          | some t => simp only [mD]; exact List.getElem?_set_ne (fun e2 => hd (by rw [e, e2]))
        rw [hB, mP hd]
        by_cases hs : s ∈ K
        · right; exact ⟨by simp [h1], hs, yFH hK hs, hd⟩
        · left; rw [sF (by simpa using hs), hps hs]
  have lenA : ∀ (Y Z : St) (o : Oper) (r : Rec), (Y.gapp (toG d0 K KO Z o r)).sl.length = (Y.app o.dst r).sl.length := fun Y Z o r => by rw [yBT, app_len]
  have chain : ∀ i, i ≤ ops.size → S i = vS ops (eS d0 K KO X ops.toList rs) X (fun j => decide (j < i)) i := by
    intro i
    induction i with
    | zero => intro _; exact h0
    | succ i ih =>
      intro hi
      have ih := ih (by omega)
      have ho : ops[i]? = some ops[i] := Array.getElem?_eq_getElem (by omega)
      have hr : rs[i]? = some rs[i] := List.getElem?_eq_getElem (by omega)
      have hg := getG i ops[i] rs[i] ho hr
      obtain ⟨h1, _, h3⟩ := hS i _ _ ho hr
      rw [h1]
      simp only [vS, ho, hg, decide_eq_true (Nat.lt_succ_self i), if_true]
      rw [gfold_congr (L := fun j => decide (j < i + 1)) (L' := fun j => decide (j < i)) i (fun j hj => by simp; omega), ← ih]
      have ex : rs[i].poi ≠ [] → ∀ (k : Nat) r, rs[k]? = some r → decide (k < i) = true → (∀ (i : Nat) r', rs[i]? = some r' → r'.poi ≠ [] → i ≠ k → ((ancs ops.toList []).getD k 0).testBit i = true) → False := fun hp k r hk hL hanc => by
        have hki : k < i := by simpa using hL
        have := hanc i _ hr hp (by omega)
        have hlt : k < ops.size := by omega
        have key : ∀ j i', ((ancs ops.toList []).getD j 0).testBit i' = true → i' < j := by
          intro j i' hb
          by_cases hj : i' < j
          · exact hj
          · exfalso
            have := cI (ops := ops) (L := fun k => decide (k < j)) (fun i hi o ho e he hb => by
              have h1 := qU h.reg ho e he hb
              have : i < j := by simpa using hi
              simp; omega) ops.toList [] (fun k => by simp) (fun j _ k hk => by simp at hk) j (fun o ho e he hb => by
              have h1 := qU h.reg ho e he hb
              simp; omega) i' hb
            simp at this
            omega
        have := key k i this
        omega
      have hhp : ∀ m ∈ ms, rs[i].poi = [m] → ∀ m' ob, m' ∉ KO → (S i).hp m' = some ob → D.hasL m ob.cells = false := fun m hm hp => by rw [ih]; exact yBQ h hm hl h0 hS1 (fun k r hk hL hanc => (ex (by rw [hp]; simp) k r hk hL hanc).elim) i (by omega)
      have hlen : (S i).sl.length = X.sl.length := by rw [ih, gfold_len]
      have hsl : ∀ m ∈ ms, rs[i].poi = [m] → ∀ s d, s ∉ K → (S i).sl[s]? = some d → d.has m = false := fun m hm hp => by
        rw [ih]
        exact yEu h hm hl h0 hS1 (fun k r hk hL hanc => (ex (by rw [hp]; simp) k r hk hL hanc).elim) i (by omega)
      obtain ⟨e1, e2⟩ := same (S i) (S i) ops[i] rs[i] (fun _ _ _ => rfl) hhp (h.one _ (List.mem_of_getElem? hr)) hsl (fun s hs => by rw [hlen]; exact h.lt s hs)
      have ext : ∀ Y Z : St, (∀ s : Nat, Y.sl[s]? = Z.sl[s]?) → Y.hp = Z.hp → Y = Z := fun Y Z h1 h2 => by
        cases Y; cases Z
        congr 1
        exact List.ext_getElem? h1
      refine ext _ _ (fun s => ?_) e1.symm
      rcases e2 s with e2 | ⟨h4, h5, h6, h7⟩
      · exact e2.symm
      · rw [h6]
        obtain ⟨m, hm, h1p⟩ := (h.one _ (List.mem_of_getElem? hr)).resolve_left h4
        have h8 := h3.resolve_left h4 m h1p s h5
        have e3 : ((S i).app ops[i].dst rs[i]).sl = nR ((S i).poi m).sl ops[i].dst rs[i].val := by simp [St.app, h1p, St.poiL]
        rw [e3, mP h7]
        have hlt : s < (S i).sl.length := by rw [hlen]; exact h.lt s h5
        simp only [St.poi, List.getElem?_map, List.getElem?_eq_getElem hlt, Option.map_some]
        rw [List.getD_eq_getElem?_getD, List.getElem?_eq_getElem hlt, Option.getD_some] at h8
        rw [h8]
  refine ⟨hlg, h0, fun i o g ho hg => ?_, fun i o g L ho hg hLi hno hsl hF E Q K' a w η hSim hK => ?_⟩
  · have hi : i < ops.size := (Array.getElem?_eq_some_iff.1 ho).1
    rw [chain i (by omega), chain (i + 1) (by omega)]
    simp only [vS, ho, hg, decide_eq_true (Nat.lt_succ_self i), if_true]
    rw [gfold_congr (L := fun j => decide (j < i + 1)) (L' := fun j => decide (j < i)) i (fun j hj => by simp; omega)]
  · obtain ⟨r, hr, rfl⟩ := split i g hg o ho
    obtain ⟨_, h2, _⟩ := hS i o r ho hr
    refine jG ho h2 hsl (fun m' hm' => hF m' (by simp only [toG]; split <;> simp [hm'])) hSim (fun a' w' η' hS' => hK a' w' η' ?_)
    have hhp : ∀ m ∈ ms, r.poi = [m] → ∀ m' ob, m' ∉ KO → (vS ops (eS d0 K KO X ops.toList rs) X L ops.size).hp m' = some ob → D.hasL m ob.cells = false := fun m hm hp =>
      yBQ h hm hl h0 hS1 (L := L) (fun k r' hk hL hanc => by
        by_cases e : i = k
        · subst e; rw [hLi] at hL; cases hL
        · have := hno k (hanc i r hr (by rw [hp]; simp) e); rw [this] at hL; cases hL) ops.size (Nat.le_refl _)
    have hs2 : ∀ m ∈ ms, r.poi = [m] → ∀ s d, s ∉ K → (vS ops (eS d0 K KO X ops.toList rs) X L ops.size).sl[s]? = some d → d.has m = false := fun m hm hp =>
      yEu h hm hl h0 hS1 (fun k r' hk hL hanc => by
        by_cases e : i = k
        · subst e; rw [hLi] at hL; cases hL
        · have := hno k (hanc i r hr (by rw [hp]; simp) e); rw [this] at hL; cases hL) ops.size (Nat.le_refl _)
    obtain ⟨e1, e2⟩ := same _ (S i) o r (fun hp m' hm' => hF m' (by simp only [toG]; rw [if_neg (by simpa using hp)]; simp [hm'])) hhp (h.one _ (List.mem_of_getElem? hr)) hs2 (fun s hs => by rw [gfold_len]; exact h.lt s hs)
    exact hS'.weak e1 (lenA _ _ o r) (fun s => (e2 s).elim .inl (fun h => .inr h.2.2.1))
inductive ChainK (Γ : Gl) (P : Program) (ops : Array Oper) (m : Nm) (K : List Nat) : Nat → St → List Rec → St → Prop
  | nil {i : Nat} {X : St} : i = ops.size → ChainK Γ P ops m K i X [] X
  | cons {i : Nat} {o : Oper} {X Z : St} {r : Rec} {rs : List Rec} : ops[i]? = some o → Spec Γ P ops o X r → eH m K X r → ChainK Γ P ops m K (i + 1) (X.app o.dst r) rs Z → ChainK Γ P ops m K i X (r :: rs) Z
theorem yAY {Γ : Gl} {P : Program} {ops : Array Oper} {m : Nm} {K : List Nat} {i : Nat} {X : St} {rs : List Rec} {Z : St} (h : ChainK Γ P ops m K i X rs Z) : i + rs.length = ops.size ∧ ∃ S : Nat → St, S i = X ∧ S ops.size = Z ∧ (∀ j o r, i ≤ j → ops[j]? = some o → rs[j - i]? = some r → S (j + 1) = (S j).app o.dst r ∧ Spec Γ P ops o (S j) r ∧ eH m K (S j) r) := by
  induction h with
  | @nil i X h => exact ⟨by simp [h], fun _ => X, rfl, rfl, fun j o r _ _ hr => by simp at hr⟩
  | @cons i o X Z r rs hi hs hk hc ih =>
    obtain ⟨h1, S, h2, h3, h4⟩ := ih
    have hlt : i < ops.size := (Array.getElem?_eq_some_iff.1 hi).1
    refine ⟨by simp; omega, fun j => if j = i then X else S j, by simp, ?_, fun j o' r' hj ho hr => ?_⟩
    · have : ops.size ≠ i := by omega
      simp [this, h3]
    · by_cases e : j = i
      · subst e
        rw [hi] at ho
        cases ho
        simp at hr
        subst hr
        simp only [if_true]
        have : j + 1 ≠ j := by omega
        simp only [this, if_false]
        exact ⟨h2, hs, hk⟩
      · have e1 : j + 1 ≠ i := by omega
        simp only [e, e1, if_false]
        refine h4 j o' r' (by omega) ho ?_
        rw [show j - i = (j - (i + 1)) + 1 from by omega] at hr
        simpa using hr
def wpG (Γ : Gl) (P : Program) (ops : Array Oper) (X : St) (K : St → Prop) : Prop := ∃ m ms Ks KO rs Z, ChainK Γ P ops m Ks 0 X rs Z ∧ GOk ops X rs m ms Ks KO ∧ K Z
theorem yA6 {Γ : Gl} {P : Program} {ops : Array Oper} {X : St} {K K' : St → Prop} (hK : ∀ Z, K Z → K' Z) : wpG Γ P ops X K → wpG Γ P ops X K' := fun ⟨m, ms, Ks, KO, rs, Z, h1, h2, h3⟩ => ⟨m, ms, Ks, KO, rs, Z, h1, h2, hK _ h3⟩
theorem dG {Γ : Gl} {P : Program} (hmix : P.follows .mixedOrders = true) {id : Nat} {ops : Array Oper} {K : St → Prop} {X : St} {E : Env} {a : Act} {w : World} {η : Et}
    (h : wpG Γ P ops X K) (hS : Sim Γ E X a w η) : (Code.region id ops true).wp P (fun e a' w' => e = .normal ∧ ∃ Z η', K Z ∧ Sim Γ E Z a' w' η') a w := by
  obtain ⟨m, ms, Ks, KO, rs, Z, hc, hok, hKZ⟩ := h
  refine wp_region_any hmix ?_
  obtain ⟨hlen, S, hS0, hSn, hSt⟩ := yAY hc
  have hO := yGq hok (by omega) hS0 (fun j o r ho hr => hSt j o r (Nat.zero_le _) ho (by simpa using hr))
  have hS' : Sim Γ E X a { w with drawn := w.drawn + 1 } η := hS.world rfl rfl rfl rfl
  refine yEs hO hok.reg (fun a' w' η' hS'' => ⟨rfl, Z, η', hKZ, by rw [hSn] at hS''; exact hS''⟩) ops.size _ a _ η (by simp) ?_ (fun i hi => ?_) ?_
  · exact Nat.le_trans (List.length_filter_le _ _) (by simp)
  · have : (Array.replicate ops.size false).getD i false = false := by
      simp [Array.getD_eq_getD_getElem?, Array.getElem?_replicate]
      split <;> rfl
    rw [this] at hi
    cases hi
  · have e : (fun j => (Array.replicate ops.size false).getD j false) = fun j => decide (j < 0) := by
      funext j
      simp [Array.getD_eq_getD_getElem?, Array.getElem?_replicate]
      split <;> rfl
    rw [e, hO.fold 0 ops.size (Nat.le_refl _) (Nat.zero_le _), hS0]
    exact hS'
end Go.Ot

namespace Go.Ot
def tE (X : St) (nms : List Nm) (ps' : List (Option Ob)) (ns : List Ob) (rid i : Nat) (sh : Bool) (len : List Nm) : List (Nm × Option Ob) :=
  (nms.zip ps').map (fun p => (p.1, p.2.map (Ob.ren (yDx nms rid i)))) ++ (ns.zipIdx.map fun p => (Nm.r rid i p.2, some (p.1.ren (yDx nms rid i)))) ++ (if sh then len.map fun m => (m, (X.hp m).map Ob.frz) else [])
def vM (X : St) (nms : List Nm) (r : D) (ps' : List (Option Ob)) (ns : List Ob) (rid i : Nat) (sh : Bool) (len poi : List Nm) : Rec :=
  { val := r.ren (yDx nms rid i), upd := tE X nms ps' ns rid i sh len, F := nms ++ len ++ (List.range ns.length).map (Nm.r rid i), poi := poi, bar := !poi.isEmpty }
theorem pD {m : Nm} {o : Option Ob} : ∀ {us : List (Nm × Option Ob)} {h : Nm → Option Ob}, (∀ o', (m, o') ∈ us → o' = o) → m ∈ us.map (·.1) → nL h us m = o
  | [], h, _, hm => by simp at hm
  | (m', o') :: us, h, hu, hm => by
    simp only [nL]
    by_cases e : m ∈ us.map (·.1)
    · exact pD (fun o'' ho => hu o'' (by simp [ho])) e
    · have e' : m = m' := by simpa [e] using hm
      subst e'
      rw [qI _ _ e, upd_same]
      exact hu o' (by simp)
theorem yEv {α : Type} {l : List α} {k : Nat} {x d : α} (h : l[k]? = some x) : l.getD k d = x := by simp [List.getD_eq_getElem?_getD, h]
section
variable {Γ : Gl} {P : Program} {o : Oper} {X : St}
theorem bE (g : Operand) (args : Array Operand) (tys : Array TypeId) (h : o.op = .call { callee := .value g, args := args, argTypes := tys }) {f : FuncId} {caps : List D} (hg : ev X g = .fn f caps) (hc : yQ P f = true)
    (nms len : List Nm) {cargs : List D} {ps : List Ob} {r : D} {ps' : List (Option Ob)} {ns : List Ob} (hG : Good Γ P f cargs ps r ps' ns)
    (hv : VwL (vC nms) X.hp (· ∈ len) cargs (args.toList.map (ev X) ++ caps)) (hhp : HpVw (vC nms) (· ∈ len) X.hp (nH ps)) (hl1 : nms.length = ps.length) (hl2 : ps'.length = ps.length) (hex : ∀ m ∈ nms, X.hp m ≠ none)
    (rid i : Nat) (hnew : ∀ k, k < ns.length → X.hp (.r rid i k) = none) (sh : Bool)
    (hsh : sh = false → r.flat = true ∧ (∀ ob ∈ ns, D.flatL ob.cells = true) ∧ ∀ ob, some ob ∈ ps' → D.flatL ob.cells = true)
    (poi : List Nm) (hpoi : ∀ (k : Nat) m, nms[k]? = some m → m ∉ poi → (∃ ob, ps[k]? = some ob ∧ ob.row = false) ∧ ∃ ob', ps'[k]? = some (some ob') ∧ ob'.row = false) (hdis : ∀ m ∈ len, m ∉ nms) (hlex : ∀ m ∈ len, X.hp m ≠ none)
    (hlp : sh = true → ∀ m ∈ len, ∀ ob, X.hp m = some ob → ∀ p ∈ poi, D.hasL p ob.cells = false) (hrow : ∀ (k : Nat) ob1, ps'[k]? = some (some ob1) → ob1.row = false → ∃ ob, ps[k]? = some ob ∧ ob.row = false) :
    xD Γ P o X (vM X nms r ps' ns rid i sh len poi) := by
  intro E Y a w η hA hS K Q hK
  have hopX : ∀ x ∈ args.toList, ev Y x = ev X x := fun x hx => hA.2.1 x (by rw [h]; simp [Op.operands, Call.operands]; exact .inr (by simpa using hx))
  have hgX : ev Y g = ev X g := hA.2.1 g (by rw [h]; simp [Op.operands, Call.operands])
  have hF : ∀ m, m ∈ nms ∨ m ∈ len ∨ (∃ k, k < ns.length ∧ m = .r rid i k) → Y.hp m = X.hp m := fun m hm => hA.2.2 m (by
    simp only [vM, List.mem_append, List.mem_map, List.mem_range]
    rcases hm with hm | hm | ⟨k, hk, rfl⟩
    · exact .inl (.inl hm)
    · exact .inl (.inr hm)
    · exact .inr ⟨k, hk, rfl⟩)
  have hvY : VwL (vC nms) Y.hp (· ∈ len) cargs (args.toList.map (ev X) ++ caps) := VwL.congr (fun m hm => hF m (.inr (.inl hm))) _ _ hv
  have srcmem : ∀ m m0, vC nms m = some m0 → ∃ k, m = .p k ∧ nms[k]? = some m0 ∧ m0 ∈ nms := fun m m0 hm => by
    cases m with
    | p k => exact ⟨k, rfl, hm, List.mem_of_getElem? hm⟩
    | n k => cases hm
    | r a b c => cases hm
  have hhpY : HpVw (vC nms) (· ∈ len) Y.hp (nH ps) := by
    refine ⟨fun m ob' hm => ?_, hhp.dom, hhp.inj, hhp.lent⟩
    rcases hhp.objs m ob' hm with h1 | ⟨m0, ob, h1, h2, h3, h4, h5, h6⟩
    · exact .inl h1
    · obtain ⟨k, _, _, hmem⟩ := srcmem m m0 h1
      exact .inr ⟨m0, ob, h1, (hF m0 (.inl hmem)).trans h2, h3, h4, h5, VwL.congr (fun m hm => hF m (.inr (.inl hm))) _ _ h6⟩
  -- what the callee must not know
  let Ac : Nat → Prop := fun b => Mx Y.hp η E.A b ∧ ∀ m s, m ∈ nms ∨ m ∈ len → η m ≠ some (b, s)
  obtain ⟨sn, ok⟩ := hhpY.ok (A' := Ac) hS.ok (fun b _ hb => hb.1) (fun m m0 b s h1 h2 h3 => by
    obtain ⟨k, _, _, hmem⟩ := srcmem m m0 h1
    exact h3.2 m0 s (.inl hmem) h2) (fun m b s h1 h2 h3 => h3.2 m s (.inr h1) h2)
  generalize hηc : (fun m => (vC nms m).bind η) = ηc at sn ok
  have ηc_p : ∀ k m, nms[k]? = some m → ηc (.p k) = η m := fun k m hk => by rw [← hηc]; simp [vC, hk]
  have ηc_dom : ∀ m q, ηc m = some q → ∃ k, m = .p k := fun m q hq => by
    rw [← hηc] at hq
    cases m with
    | p k => exact ⟨k, rfl⟩
    | n k => simp [vC] at hq
    | r a b c => simp [vC] at hq
  have mutSub : ∀ b, Mut (nH ps) ηc b → ∃ m s, m ∈ nms ∧ η m = some (b, s) ∧ ∃ ob, Y.hp m = some ob ∧ ob.own = true := by
    rintro b ⟨m, ob', s, h1, h2, h3⟩
    rcases hhpY.objs m ob' h1 with ⟨h4, _⟩ | ⟨m0, ob, h4, h5, _, _, h6, _⟩
    · rw [← hηc] at h3; simp [h4] at h3
    · obtain ⟨k, rfl, hk, hmem⟩ := srcmem m m0 h4
      rw [ηc_p k m0 hk] at h3
      exact ⟨m0, s, hmem, h3, ob, h5, h6 h2⟩
  have mutM : ∀ b, Mut (nH ps) ηc b → Mut Y.hp η b := fun b hb => by
    obtain ⟨m, s, _, h2, ob, h3, h4⟩ := mutSub b hb
    exact ⟨m, ob, s, h3, h4, h2⟩
  have hGw : Γ.G w := Γ.st E.w0 w (fun b hb => hS.keep b (Nat.lt_of_lt_of_le hb hS.gle) (fun hM => by have := hS.gM b hM; omega)) hS.glob
  have hgs : Γ.gs ≤ w.heap.size := Nat.le_trans hS.gle hS.size
  have hAc : ∀ b, Ac b → b < w.heap.size := fun b hb => by
    rcases hb.1 with ⟨m, ob, s, h1, h2, h3⟩ | h1
    · exact hS.ok.lt h3
    · exact Nat.lt_of_lt_of_le (hS.low b h1) hS.size
  have hmg : ∀ b, Mut (nH ps) ηc b → Γ.gs ≤ b := fun b hb => by
    obtain ⟨m, s, _, h2, ob, h3, h4⟩ := mutSub b hb
    rcases hS.mine m ob b s h3 h4 h2 with h5 | h5
    · exact hS.gM b h5
    · exact Nat.le_trans hS.gle h5
  -- the arguments
  have hrg := hS.ev g
  rw [hgX, hg] at hrg
  obtain ⟨cv, heg, hcv⟩ := hrg
  have hargs : RepsA w (Mx Y.hp η E.A) η (args.toList.map (ev X) ++ caps) (args.toList.map a.eval ++ cv.toList) := by
    have h1 : RepsA w (Mx Y.hp η E.A) η (args.toList.map (ev X)) (args.toList.map a.eval) := RepsA.of_ops _ (fun x hx => by rw [← hopX x hx]; exact hS.ev x)
    have key : ∀ (ds : List D) (us : List Value) (es : List D) (vs : List Value), RepsA w (Mx Y.hp η E.A) η ds us → RepsA w (Mx Y.hp η E.A) η es vs → RepsA w (Mx Y.hp η E.A) η (ds ++ es) (us ++ vs) := by
      intro ds
      induction ds with
      | nil => intro us es vs h k; have h : us = [] := h; subst h; simpa using k
      | cons d ds ih =>
        intro us es vs h k
        obtain ⟨u, us', rfl, h2, h3⟩ := h
        exact ⟨u, us' ++ vs, rfl, h2, ih us' es vs h3 k⟩
    exact key _ _ _ _ h1 hcv
  have hcargs := VwL.repsA sn _ _ _ hvY hargs
  have hcall := hG w Ac ηc _ hGw hgs hAc ok ηc_dom hmg hcargs
  have hexec : (execOp a.eval o).run P w = .ok (.enter f (args.toList.map a.eval ++ cv.toList).toArray) w := by
    have e1 : (args.map a.eval ++ cv) = (args.toList.map a.eval ++ cv.toList).toArray := by
      apply Array.ext'
      simp
    simp only [execOp, h, resolve, heg, Deferred.ofValue, Sem.run_bind, Sem.run_pure, Result.andThen_ok, invoke, Array.empty_append, e1]
    exact dC hc _ w
  unfold Oper.wp
  rw [hexec]
  show Calls P f _ w _
  refine hcall.mono ?_
  rintro e w' ⟨v, ηr, rfl, hr, okr, hsz, hkeep, hmine, hmine2, hpin, hos, htape, hout⟩
  -- behind the call
  have hP := yBw poi hS
  refine hK _ _ (fun m => match m with
    | .r a b k => if a = rid ∧ b = i ∧ k < ns.length then ηr (.n k) else if m ∈ nms then ηr (.p (nms.idxOf m)) else η m
    | m => if m ∈ nms then ηr (.p (nms.idxOf m)) else η m) ?_
  generalize hηn : (fun m => match m with
    | .r a b k => if a = rid ∧ b = i ∧ k < ns.length then ηr (.n k) else if m ∈ nms then ηr (.p (nms.idxOf m)) else η m
    | m => if m ∈ nms then ηr (.p (nms.idxOf m)) else η m : Et) = ηn
  have newNot : ∀ k, k < ns.length → Nm.r rid i k ∉ nms := fun k hk hm => hex _ hm (hnew k hk)
  have nodup : ∀ k k' m, nms[k]? = some m → nms[k']? = some m → k = k' := fun k k' m h1 h2 => by
    have := hhp.inj (.p k) (.p k') m h1 h2
    simpa using this
  have idx : ∀ k m, nms[k]? = some m → nms.idxOf m = k := fun k m hk => by
    have hm : m ∈ nms := List.mem_of_getElem? hk
    have h1 : nms[nms.idxOf m]? = some m := by
      have := List.idxOf_lt_length_of_mem hm
      rw [List.getElem?_eq_getElem this, List.getElem_idxOf]
    exact nodup _ _ m h1 hk
  have ηn_new : ∀ k, k < ns.length → ηn (.r rid i k) = ηr (.n k) := fun k hk => by rw [← hηn]; simp [hk]
  have ηn_p : ∀ k m, nms[k]? = some m → ηn m = ηr (.p k) := fun k m hk => by
    have hm : m ∈ nms := List.mem_of_getElem? hk
    rw [← hηn]
    cases m with
    | r a b c =>
      have : ¬ (a = rid ∧ b = i ∧ c < ns.length) := fun ⟨h1, h2, h3⟩ => by subst h1; subst h2; exact newNot c h3 hm
      simp only [this, if_false, hm, if_true, idx k _ hk]
    | p c => simp only [hm, if_true, idx k _ hk]
    | n c => simp only [hm, if_true, idx k _ hk]
  have isNew : ∀ m : Nm, (∃ k, k < ns.length ∧ m = .r rid i k) ∨ ¬ ∃ k, k < ns.length ∧ m = .r rid i k := fun m => Classical.em _
  have ηn_old : ∀ m, m ∉ nms → (¬ ∃ k, k < ns.length ∧ m = .r rid i k) → ηn m = η m := fun m hm hn => by
    rw [← hηn]
    cases m with
    | r a b c =>
      have : ¬ (a = rid ∧ b = i ∧ c < ns.length) := fun ⟨h1, h2, h3⟩ => hn ⟨c, h3, by rw [h1, h2]⟩
      simp only [this, if_false, hm]
    | p c => simp only [hm, if_false]
    | n c => simp only [hm, if_false]
  have memN : ∀ m, m ∈ nms → ∃ k, nms[k]? = some m ∧ k < ps.length := fun m hm => by
    obtain ⟨k, hk, he⟩ := List.mem_iff_getElem.1 hm
    exact ⟨k, by rw [List.getElem?_eq_getElem hk, he], by rw [← hl1]; exact hk⟩
  -- the heap's objects by names
  let ρ := yDx nms rid i
  let Z := Y.poiL poi
  let hp' := nL Z.hp (tE X nms ps' ns rid i sh len)
  have hp_p : ∀ k m, nms[k]? = some m → hp' m = ((ps'[k]?).join).map (Ob.ren ρ) := fun k m hk => by
    have hk' : k < ps'.length := by rw [hl2, ← hl1]; exact (List.getElem?_eq_some_iff.1 hk).1
    have hm : m ∈ nms := List.mem_of_getElem? hk
    refine pD (fun o' ho => ?_) ?_
    · simp only [tE, List.mem_append, List.mem_map] at ho
      rcases ho with (⟨⟨m1, o1⟩, h1, h2⟩ | ⟨⟨ob, j⟩, h1, h2⟩) | h1
      · simp only [Prod.mk.injEq] at h2
        obtain ⟨rfl, rfl⟩ := h2
        obtain ⟨j, hj⟩ := List.mem_iff_getElem?.1 h1
        rw [List.getElem?_zip_eq_some] at hj
        have : j = k := nodup _ _ _ hj.1 hk
        subst this
        rw [hj.2]
        rfl
      · simp only [Prod.mk.injEq] at h2
        obtain ⟨rfl, _⟩ := h2
        have := (List.mem_zipIdx h1)
        exact absurd hm (newNot j (by simpa using this.2.1))
      · split at h1
        · obtain ⟨m1, h2, h3⟩ := List.mem_map.1 h1
          simp only [Prod.mk.injEq] at h3
          obtain ⟨rfl, _⟩ := h3
          exact absurd hm (hdis _ h2)
        · cases h1
    · simp only [tE, List.map_append, List.mem_append, List.map_map]
      refine .inl (.inl (List.mem_map.2 ⟨(m, ps'[k]), ?_, rfl⟩))
      refine List.mem_iff_getElem?.2 ⟨k, ?_⟩
      rw [List.getElem?_zip_eq_some]
      exact ⟨hk, List.getElem?_eq_getElem hk'⟩
  have hp_n : ∀ k ob, ns[k]? = some ob → hp' (.r rid i k) = some (ob.ren ρ) := fun k ob hk => by
    have hk' : k < ns.length := (List.getElem?_eq_some_iff.1 hk).1
    refine pD (fun o' ho => ?_) ?_
    · simp only [tE, List.mem_append, List.mem_map] at ho
      rcases ho with (⟨⟨m1, o1⟩, h1, h2⟩ | ⟨⟨ob', j⟩, h1, h2⟩) | h1
      · simp only [Prod.mk.injEq] at h2
        obtain ⟨rfl, _⟩ := h2
        exact absurd (List.of_mem_zip h1).1 (newNot k hk')
      · simp only [Prod.mk.injEq, Nm.r.injEq] at h2
        obtain ⟨⟨_, _, rfl⟩, rfl⟩ := h2
        have h3 := List.mem_zipIdx_iff_getElem?.1 h1
        simp only at h3
        rw [hk] at h3
        cases h3
        rfl
      · split at h1
        · obtain ⟨m1, h2, h3⟩ := List.mem_map.1 h1
          simp only [Prod.mk.injEq] at h3
          obtain ⟨rfl, _⟩ := h3
          exact absurd (hnew k hk') (hlex _ h2)
        · cases h1
    · simp only [tE, List.map_append, List.mem_append, List.map_map]
      refine .inl (.inr (List.mem_map.2 ⟨(ob, k), List.mem_zipIdx_iff_getElem?.2 hk, rfl⟩))
  have hp_o : ∀ m, m ∉ nms → (¬ ∃ k, k < ns.length ∧ m = .r rid i k) → hp' m = Z.hp m ∨ (sh = true ∧ m ∈ len ∧ hp' m = (X.hp m).map Ob.frz) := fun m hm hn => by
    by_cases hl : sh = true ∧ m ∈ len
    · refine .inr ⟨hl.1, hl.2, pD (fun o' ho => ?_) ?_⟩
      · simp only [tE, List.mem_append, List.mem_map] at ho
        rcases ho with (⟨⟨m1, o1⟩, h1, h2⟩ | ⟨⟨ob', j⟩, h1, h2⟩) | h1
        · simp only [Prod.mk.injEq] at h2
          obtain ⟨rfl, _⟩ := h2
          exact absurd (List.of_mem_zip h1).1 hm
        · simp only [Prod.mk.injEq] at h2
          obtain ⟨rfl, _⟩ := h2
          have := (List.mem_zipIdx h1)
          exact absurd ⟨j, by simpa using this.2.1, rfl⟩ hn
        · rw [if_pos hl.1] at h1
          obtain ⟨m1, h2, h3⟩ := List.mem_map.1 h1
          simp only [Prod.mk.injEq] at h3
          obtain ⟨rfl, rfl⟩ := h3
          rfl
      · simp only [tE, if_pos hl.1, List.map_append, List.mem_append, List.map_map]
        exact .inr (List.mem_map.2 ⟨m, hl.2, rfl⟩)
    · refine .inl (qI _ _ (fun hmem => ?_))
      simp only [tE, List.map_append, List.mem_append, List.map_map] at hmem
      rcases hmem with (h1 | h1) | h1
      · obtain ⟨⟨m1, o1⟩, h2, h3⟩ := List.mem_map.1 h1
        simp only [Function.comp] at h3
        subst h3
        exact hm (List.of_mem_zip h2).1
      · obtain ⟨⟨ob', j⟩, h2, h3⟩ := List.mem_map.1 h1
        simp only [Function.comp] at h3
        have := (List.mem_zipIdx h2)
        exact hn ⟨j, by simpa using this.2.1, h3.symm⟩
      · split at h1
        · obtain ⟨p1, h2, h3⟩ := List.mem_map.1 h1
          obtain ⟨m1, h4, h5⟩ := List.mem_map.1 h2
          have h6 : m1 = m := by rw [← h3, ← h5]
          subst h6
          exact hl ⟨by assumption, h4⟩
        · simp at h1
  have Zown : ∀ m ob, Z.hp m = some ob → ∃ ob0, Y.hp m = some ob0 ∧ ob.own = ob0.own ∧ ob.row = ob0.row ∧ ∀ p ∈ poi, D.hasL p ob.cells = false := fun m ob hm => by
    obtain ⟨ob0, h1, _, h2, h3, _, h4⟩ := poiL_ob poi hm
    exact ⟨ob0, h1, h3, h2, h4⟩
  have jn : ∀ (k : Nat) ob1, (ps'[k]?).join = some ob1 → ps'[k]? = some (some ob1) := fun k ob1 hk => by
    cases e : ps'[k]? with
    | none => simp [e] at hk
    | some x => simp [e] at hk; rw [hk]
  -- of which kind a name is
  have kinds : ∀ m ob', hp' m = some ob' → (∃ c ob1, tZ ps' ns c = some ob1 ∧ ob' = ob1.ren ρ ∧ ηn m = ηr c ∧ ((∃ k, c = .p k ∧ nms[k]? = some m) ∨ ∃ k, c = .n k ∧ m = .r rid i k)) ∨
      (m ∉ nms ∧ (¬ ∃ k, k < ns.length ∧ m = .r rid i k) ∧ ηn m = η m ∧ (Z.hp m = some ob' ∧ (sh = true → m ∉ len ∨ True) ∧ hp' m = Z.hp m ∨ sh = true ∧ m ∈ len ∧ ∃ ob0, X.hp m = some ob0 ∧ ob' = ob0.frz)) := fun m ob' hm => by
    by_cases h1 : m ∈ nms
    · obtain ⟨k, hk, _⟩ := memN m h1
      rw [hp_p k m hk] at hm
      simp only [Option.map_eq_some_iff] at hm
      obtain ⟨ob1, h2, rfl⟩ := hm
      exact .inl ⟨.p k, ob1, h2, rfl, ηn_p k m hk, .inl ⟨k, rfl, hk⟩⟩
    · rcases isNew m with ⟨k, hk, rfl⟩ | h2
      · have hk' : ns[k]? = some ns[k] := List.getElem?_eq_getElem hk
        rw [hp_n k _ hk'] at hm
        cases hm
        exact .inl ⟨.n k, ns[k], hk', rfl, ηn_new k hk, .inr ⟨k, rfl, rfl⟩⟩
      · refine .inr ⟨h1, h2, ηn_old m h1 h2, ?_⟩
        rcases hp_o m h1 h2 with h3 | ⟨h3, h4, h5⟩
        · exact .inl ⟨h3 ▸ hm, fun _ => .inr trivial, h3⟩
        · rw [h5] at hm
          simp only [Option.map_eq_some_iff] at hm
          obtain ⟨ob0, h6, rfl⟩ := hm
          exact .inr ⟨h3, h4, ob0, h6, rfl⟩
  -- if a lent object is not frozen, nothing is shared
  have lenFz : sh = true → ∀ m, m ∈ len → ∀ ob', hp' m = some ob' → ob'.own = false := fun h1 m hm ob' hob => by
    have h2 : m ∉ nms := hdis m hm
    have h3 : ¬ ∃ k, k < ns.length ∧ m = .r rid i k := fun ⟨k, hk, e⟩ => hlex m hm (by rw [e]; exact hnew k hk)
    have : hp' m = (X.hp m).map Ob.frz := by
      rcases hp_o m h2 h3 with h4 | ⟨_, _, h5⟩
      · refine pD (fun o' ho => ?_) ?_
        · simp only [tE, List.mem_append, List.mem_map] at ho
          rcases ho with (⟨⟨m1, o1⟩, g1, g2⟩ | ⟨⟨ob', j⟩, g1, g2⟩) | g1
          · simp only [Prod.mk.injEq] at g2
            obtain ⟨rfl, _⟩ := g2
            exact absurd (List.of_mem_zip g1).1 h2
          · simp only [Prod.mk.injEq] at g2
            obtain ⟨rfl, _⟩ := g2
            have := (List.mem_zipIdx g1)
            exact absurd ⟨j, by simpa using this.2.1, rfl⟩ h3
          · rw [if_pos h1] at g1
            obtain ⟨m1, g2, g3⟩ := List.mem_map.1 g1
            simp only [Prod.mk.injEq] at g3
            obtain ⟨rfl, rfl⟩ := g3
            rfl
        · simp only [tE, if_pos h1, List.map_append, List.mem_append, List.map_map]
          exact .inr (List.mem_map.2 ⟨m, hm, rfl⟩)
      · exact h5
    rw [this] at hob
    simp only [Option.map_eq_some_iff] at hob
    obtain ⟨ob0, _, rfl⟩ := hob
    rfl
  have oldOwn : ∀ m ob', hp' m = some ob' → m ∉ nms → (¬ ∃ k, k < ns.length ∧ m = .r rid i k) → ob'.own = true → ∃ ob0, Y.hp m = some ob0 ∧ ob0.own = true := fun m ob' hm h1 h2 h3 => by
    rcases kinds m ob' hm with ⟨c, ob1, h5, _, _, h4⟩ | ⟨_, _, _, h4⟩
    · rcases h4 with ⟨k, _, hk⟩ | ⟨k, hk, hm'⟩
      · exact absurd (List.mem_of_getElem? hk) h1
      · subst hk
        have : k < ns.length := (List.getElem?_eq_some_iff.1 (show ns[k]? = some ob1 from h5)).1
        exact absurd ⟨k, this, hm'⟩ h2
    · rcases h4 with ⟨h4, _, _⟩ | ⟨h5, h6, ob0, _, rfl⟩
      · obtain ⟨ob0, h5, h6, _⟩ := Zown m ob' h4
        exact ⟨ob0, h5, by rw [← h6]; exact h3⟩
      · cases h3
  have blk : ∀ m ob' b s, hp' m = some ob' → ob'.own = true → ηn m = some (b, s) → Mut (nH ps) ηc b ∨ w.heap.size ≤ b ∨ (m ∉ nms ∧ (¬ ∃ k, k < ns.length ∧ m = .r rid i k) ∧ η m = some (b, s) ∧ ∃ ob0, Y.hp m = some ob0 ∧ ob0.own = true) := fun m ob' b s h1 h2 h3 => by
    rcases kinds m ob' h1 with ⟨c, ob1, h4, rfl, h5, _⟩ | ⟨h4, h5, h6, _⟩
    · rw [h5] at h3
      rcases hmine c ob1 b s h4 h2 h3 with h6 | h6
      · exact .inl h6
      · exact .inr (.inl h6)
    · exact .inr (.inr ⟨h4, h5, by rw [← h6]; exact h3, oldOwn m ob' h1 h4 h5 h2⟩)
  have subM : ∀ b, b < w.heap.size → Mx hp' ηn E.A b → Mx Y.hp η E.A b := fun b hb hM => by
    rcases hM with ⟨m, ob', s, h1, h2, h3⟩ | h1
    · rcases blk m ob' b s h1 h2 h3 with h4 | h4 | ⟨_, _, h4, ob0, h5, h6⟩
      · exact .inl (mutM b h4)
      · omega
      · exact .inl ⟨m, ob0, s, h5, h6, h4⟩
    · exact .inr h1
  have subC : sh = true → ∀ b, b < w'.heap.size → Mx hp' ηn E.A b → Mx (tZ ps' ns) ηr Ac b := fun hs b hb hM => by
    rcases hM with ⟨m, ob', s, h1, h2, h3⟩ | h1
    · rcases kinds m ob' h1 with ⟨c, ob1, h4, rfl, h5, _⟩ | ⟨h4, h5, h6, _⟩
      · rw [h5] at h3
        exact .inl ⟨c, ob1, s, h4, h2, h3⟩
      · obtain ⟨ob0, h7, h8⟩ := oldOwn m ob' h1 h4 h5 h2
        rw [h6] at h3
        refine .inr ⟨.inl ⟨m, ob0, s, h7, h8, h3⟩, fun m2 s2 hm2 h9 => ?_⟩
        have e := hS.ok.inj m2 m b s2 s h9 h3
        subst e
        rcases hm2 with hm2 | hm2
        · exact h4 hm2
        · rw [lenFz hs m2 hm2 ob' h1] at h2
          cases h2
    · exact .inr ⟨.inr h1, fun m2 s2 hm2 h9 => hS.ok.noA m2 b s2 h9 h1⟩
  have keepsM : lC w w' (Mx Y.hp η E.A) := fun b hb hM => hkeep b hb (fun hm => hM (.inl (mutM b hm)))
  have hηn' : ∀ m q, m ∉ poi → η m = some q → ηn m = some q := fun m q hm hq => by
    by_cases h1 : m ∈ nms
    · obtain ⟨k, hk, _⟩ := memN m h1
      obtain ⟨_, ob1, h2, h3⟩ := hpoi k m hk hm
      rw [ηn_p k m hk]
      exact hpin (.p k) ob1 q (by simp [tZ, h2]) h3 ((ηc_p k m hk).trans hq)
    · rcases isNew m with ⟨k, hk, rfl⟩ | h2
      · exact absurd ((hF _ (.inr (.inr ⟨k, hk, rfl⟩))).trans (hnew k hk)) (hS.ok.dom _ _ hq)
      · rw [ηn_old m h1 h2]; exact hq
  have hρ : ∀ m q, ηr m = some q → ηn (ρ m) = some q := fun m q hq => by
    have hd := okr.dom m q hq
    cases m with
    | p k =>
      have hk : k < nms.length := by
        rw [hl1, ← hl2]
        cases e : ps'[k]? with
        | none => simp [tZ, e] at hd
        | some x => exact (List.getElem?_eq_some_iff.1 e).1
      have hk' : nms[k]? = some nms[k] := List.getElem?_eq_getElem hk
      have : ρ (.p k) = nms[k] := yEv hk'
      rw [this, ηn_p k _ hk']
      exact hq
    | n k =>
      have hk : k < ns.length := by
        cases e : ns[k]? with
        | none => simp [tZ, e] at hd
        | some x => exact (List.getElem?_eq_some_iff.1 e).1
      exact (ηn_new k hk).trans hq
    | r a b c => simp [tZ] at hd
  have hMxZ : Mx Z.hp η E.A = Mx Y.hp η E.A := by
    funext b
    exact propext ⟨fun h => h.imp (cM poi).1 id, fun h => h.imp (cM poi).2 id⟩
  have hval : Rep w' (Mx hp' ηn E.A) ηn (r.ren ρ) v := Rep.ren (b := sh) (fun e => subC e) r v (fun e => (hsh e).1) (fun m q _ hq => hρ m q hq) hr
  have obs : ∀ c ob1 m, tZ ps' ns c = some ob1 → ηn m = ηr c → ObRep w' (Mx hp' ηn E.A) ηn m (ob1.ren ρ) := fun c ob1 m h1 h2 => by
    have h3 := okr.objs c ob1 h1
    unfold ObRep at h3 ⊢
    rw [h2]
    split
    · rename_i e
      simp only [e] at h3
      exact ⟨h3.1, by simp [Ob.ren, h3.2, D.renL]⟩
    · rename_i b s e
      simp only [e] at h3
      obtain ⟨cur, fr, g1, g2, g3, g4, g5, g6⟩ := h3
      refine ⟨cur, fr, g1, g2, g3, by simpa [Ob.ren, D.renL_len] using g4, by simpa [Ob.ren, D.renL_len] using g5, ?_⟩
      simp only [Ob.ren, D.renL_len]
      refine Reps.ren (b := sh) (fun e => subC e) _ _ (fun esh => ?_) (fun m q _ hq => hρ m q hq) g6
      cases c with
      | p k => exact (hsh esh).2.2 ob1 (List.mem_of_getElem? (jn k ob1 h1))
      | n k => exact (hsh esh).2.1 ob1 (List.mem_of_getElem? h1)
      | r a b c => simp [tZ] at h1
  have base : Sim Γ E { Z with hp := hp' } a w' ηn := by
    refine { slots := ?_, ok := ⟨?_, ?_, ?_, ?_⟩, defers := hS.defers, size := Nat.le_trans hS.size hsz, keep := ?_, mine := ?_, mine2 := ?_, pin := ?_, low := hS.low, os := hos.trans hS.os, tape := htape.trans hS.tape, output := hout.trans hS.output, par := hS.par, glob := hS.glob, gle := hS.gle, gM := hS.gM }
    · have h1 := hP.slots
      rw [hMxZ] at h1
      refine RepsA.keeps keepsM subM _ _ (fun m q hm hq => hηn' m q (fun hp => ?_) hq) h1
      rw [yDI poi hp] at hm
      cases hm
    · intro m ob' hm
      rcases kinds m ob' hm with ⟨c, ob1, h1, rfl, h2, _⟩ | ⟨h1, h2, h3, h4⟩
      · exact obs c ob1 m h1 h2
      · have hblk : ∀ b s, η m = some (b, s) → w'.heap[b]? = w.heap[b]? := fun b s hb => hkeep b (hS.ok.lt hb) (fun hmut => by
          obtain ⟨m2, s2, h5, h6, _⟩ := mutSub b hmut
          exact h1 (hS.ok.inj m2 m b s2 s h6 hb ▸ h5))
        rcases h4 with ⟨h4, _, _⟩ | ⟨h5, h6, ob0, h7, rfl⟩
        · have h8 := hP.ok.objs m ob' h4
          rw [hMxZ] at h8
          obtain ⟨_, _, _, _, h9⟩ := Zown m ob' h4
          exact h8.keeps keepsM subM hblk h3 (fun m' q hm' hq => hηn' m' q (fun hp => by rw [h9 m' hp] at hm'; cases hm') hq)
        · have h8 := hS.ok.objs m ob0 ((hF m (.inr (.inl h6))).trans h7)
          have := h8.keeps keepsM subM hblk h3 (fun m' q hm' hq => hηn' m' q (fun hp => by rw [hlp h5 m h6 ob0 h7 m' hp] at hm'; cases hm') hq)
          exact this
    · intro m q hq
      by_cases h1 : m ∈ nms
      · obtain ⟨k, hk, _⟩ := memN m h1
        rw [ηn_p k m hk] at hq
        have hd := okr.dom _ _ hq
        show hp' m ≠ none
        rw [hp_p k m hk]
        intro e
        simp only [Option.map_eq_none_iff] at e
        exact hd e
      · rcases isNew m with ⟨k, hk, rfl⟩ | h2
        · show hp' _ ≠ none
          rw [hp_n k _ (List.getElem?_eq_getElem hk)]
          simp
        · rw [ηn_old m h1 h2] at hq
          have hd := hS.ok.dom m q hq
          show hp' m ≠ none
          rcases hp_o m h1 h2 with h3 | ⟨_, h4, h5⟩
          · rw [h3]
            exact fun e => hd ((poiL_none poi).1 e)
          · rw [h5]
            intro e
            simp only [Option.map_eq_none_iff] at e
            exact hlex m h4 e
    · -- no two names have one block
      have cls : ∀ m q, ηn m = some q → (∃ c, ηr c = some q ∧ ρ c = m) ∨ (m ∉ nms ∧ η m = some q) := fun m q hq => by
        by_cases h1 : m ∈ nms
        · obtain ⟨k, hk, _⟩ := memN m h1
          rw [ηn_p k m hk] at hq
          exact .inl ⟨.p k, hq, yEv hk⟩
        · rcases isNew m with ⟨k, hk, rfl⟩ | h2
          · rw [ηn_new k hk] at hq
            exact .inl ⟨.n k, hq, rfl⟩
          · rw [ηn_old m h1 h2] at hq
            exact .inr ⟨h1, hq⟩
      have mixed : ∀ c b s m s', ηr c = some (b, s) → m ∉ nms → η m = some (b, s') → False := fun c b s m s' h1 h2 h3 => by
        rcases hmine2 c b s h1 with ⟨m0, s0, h4⟩ | h4
        · obtain ⟨k, rfl⟩ := ηc_dom m0 _ h4
          cases e : nms[k]? with
          | none => rw [← hηc] at h4; simp [vC, e] at h4
          | some m1 =>
            rw [ηc_p k m1 e] at h4
            exact h2 (hS.ok.inj m1 m b s0 s' h4 h3 ▸ List.mem_of_getElem? e)
        · have := hS.ok.lt h3
          omega
      intro m m' b s s' h1 h2
      rcases cls m _ h1 with ⟨c, h3, h4⟩ | ⟨h3, h4⟩ <;> rcases cls m' _ h2 with ⟨c', h5, h6⟩ | ⟨h5, h6⟩
      · rw [← h4, ← h6, okr.inj c c' b s s' h3 h5]
      · exact (mixed c b s m' s' h3 h5 h6).elim
      · exact (mixed c' b s' m s h5 h3 h4).elim
      · exact hS.ok.inj m m' b s s' h4 h6
    · intro m b s h1 hAb
      have hAc' : Ac b := ⟨.inr hAb, fun m2 s2 _ h9 => hS.ok.noA m2 b s2 h9 hAb⟩
      by_cases h2 : m ∈ nms
      · obtain ⟨k, hk, _⟩ := memN m h2
        rw [ηn_p k m hk] at h1
        exact okr.noA _ b s h1 hAc'
      · rcases isNew m with ⟨k, hk, rfl⟩ | h3
        · rw [ηn_new k hk] at h1
          exact okr.noA _ b s h1 hAc'
        · rw [ηn_old m h2 h3] at h1
          exact hS.ok.noA m b s h1 hAb
    · intro b hb hM0
      rw [hkeep b (Nat.lt_of_lt_of_le hb hS.size) (fun hmut => by
        obtain ⟨m, s, _, h2, ob, h3, h4⟩ := mutSub b hmut
        rcases hS.mine m ob b s h3 h4 h2 with h5 | h5
        · exact hM0 h5
        · omega)]
      exact hS.keep b hb hM0
    · intro m ob' b s h1 h2 h3
      rcases blk m ob' b s h1 h2 h3 with h4 | h4 | ⟨_, _, h4, ob0, h5, h6⟩
      · obtain ⟨m2, s2, _, h5, ob, h6, h7⟩ := mutSub b h4
        exact hS.mine m2 ob b s2 h6 h7 h5
      · exact .inr (Nat.le_trans hS.size h4)
      · exact hS.mine m ob0 b s h5 h6 h4
    · intro m b s h1
      have fromR : ∀ c, ηr c = some (b, s) → (∃ m0 s0, E.η0 m0 = some (b, s0)) ∨ E.w0.heap.size ≤ b := fun c hc => by
        rcases hmine2 c b s hc with ⟨m0, s0, h4⟩ | h4
        · obtain ⟨k, rfl⟩ := ηc_dom m0 _ h4
          cases e : nms[k]? with
          | none => rw [← hηc] at h4; simp [vC, e] at h4
          | some m1 =>
            rw [ηc_p k m1 e] at h4
            exact hS.mine2 m1 b s0 h4
        · exact .inr (Nat.le_trans hS.size h4)
      by_cases h2 : m ∈ nms
      · obtain ⟨k, hk, _⟩ := memN m h2
        rw [ηn_p k m hk] at h1
        exact fromR _ h1
      · rcases isNew m with ⟨k, hk, rfl⟩ | h3
        · rw [ηn_new k hk] at h1
          exact fromR _ h1
        · rw [ηn_old m h2 h3] at h1
          exact hS.mine2 m b s h1
    · intro m ob' q h1 h2 h3
      rcases kinds m ob' h1 with ⟨c, ob1, h4, rfl, h5, h6⟩ | ⟨h4, h5, h6, h7⟩
      · rcases h6 with ⟨k, rfl, hk⟩ | ⟨k, rfl, rfl⟩
        · rw [h5]
          obtain ⟨obp, h8, h9⟩ := hrow k ob1 (jn k ob1 h4) h2
          refine hpin (.p k) ob1 q h4 h2 ?_
          rw [ηc_p k m hk]
          rcases hhpY.objs (.p k) obp h8 with ⟨h10, _⟩ | ⟨m0, ob0, h10, h11, _, h12, _⟩
          · simp only [vC] at h10; rw [hk] at h10; cases h10
          · simp only [vC] at h10
            rw [hk] at h10
            cases h10
            rcases h12 with h12 | ⟨_, _, _, h12⟩
            · exact hS.pin m ob0 q h11 (by rw [← h12]; exact h9) h3
            · obtain ⟨k', rfl⟩ := hS.par _ _ h3; cases h12
        · obtain ⟨k', hk'⟩ := hS.par _ _ h3
          cases hk'
      · rw [h6]
        rcases h7 with ⟨h7, _, _⟩ | ⟨_, h8, ob0, h9, rfl⟩
        · obtain ⟨ob0, h8, _, h9, _⟩ := Zown m ob' h7
          exact hS.pin m ob0 q h8 (by rw [← h9]; exact h2) h3
        · exact hS.pin m ob0 q ((hF m (.inr (.inl h8))).trans h9) h2 h3
  have := base.put (d := r.ren ρ) hval o.dst
  have happ : Y.app o.dst (vM X nms r ps' ns rid i sh len poi) = { ({ Z with hp := hp' } : St) with sl := match o.dst with | some s => Z.sl.set s (r.ren ρ) | none => Z.sl } := by
    cases o.dst <;> rfl
  rw [happ]
  exact this
end
end Go.Ot

namespace Go.Ot
def vV (ops : Array Oper) (X : St) (g : Nat) : D := match (ops[g]?).bind (·.dst) with | some s => X.sl.getD s .bad | none => .bad
def wpR (Γ : Gl) (P : Program) (ops : Array Oper) : List Oper → St → List Meta → (St → List Meta → Prop) → Prop
  | [], X, acc, K => K X acc
  | o :: os, X, acc, K =>
    match o.guard with
    | none => ∃ r, xD Γ P o X r ∧ Tidy r ∧ wpR Γ P ops os (X.app o.dst r) (acc ++ [r.info]) K
    | some (g, want) => ∃ b, vO (vV ops X g) want = some b ∧ (b = true → ∃ r, xD Γ P o X r ∧ Tidy r ∧ wpR Γ P ops os (X.app o.dst r) (acc ++ [r.info]) K) ∧
        (b = false → wpR Γ P ops os (X.app o.dst { val := udf }) (acc ++ [⟨[], [], false⟩]) K)
def wpC (Γ : Gl) (P : Program) : Code → (Exit → St → Prop) → St → Prop
  | .skip, Q, X => Q .normal X
  | .region _ ops draw, Q, X => (wpR Γ P ops ops.toList X [] fun Z ms => (draw = true → mK ops ms = true) ∧ Q .normal Z) ∨ (draw = true ∧ wpG Γ P ops X (Q .normal))
  | .seq a b, Q, X => wpC Γ P a (fun e Z => match e with | .normal => ∃ Z', Le Γ Z Z' ∧ wpC Γ P b Q Z' | e => Q e Z) X
  | .cond c x y, Q, X => ∃ b, ev X c = .t (.v (.bool b)) ∧ (b = true → wpC Γ P x Q X) ∧ (b = false → wpC Γ P y Q X)
  | .block id c, Q, X => wpC Γ P c (fun e Z => match e with | .exit id' => if id' = id then Q .normal Z else Q (.exit id') Z | e => Q e Z) X
  | .loop c, Q, X => ∃ (I : St → Prop) (μ : St → Nat), (∃ X', Le Γ X X' ∧ I X') ∧ ∀ Y, I Y → wpC Γ P c (fun e Z => match e with | .normal => ∃ Z', Le Γ Z Z' ∧ I Z' ∧ μ Z' < μ Y | e => Q e Z) Y
  | .exit id, Q, X => Q (.exit id) X
  | .label _, Q, X => Q .normal X
  | .goto l, Q, X => Q (.goto l) X
  | .ret, Q, X => Q .ret X
  | _, _, _ => False
theorem jD {Γ : Gl} {P : Program} {ops : Array Oper} {K : St → List Meta → Prop} : ∀ (os : List Oper) (i : Nat) (X : St) (acc : List Meta), i ≤ ops.size → (∀ k, os[k]? = ops[i + k]?) → wpR Γ P ops os X acc K →
    ∃ rs Z, Chain Γ P ops i X rs Z ∧ (∀ r ∈ rs, Tidy r) ∧ K Z (acc ++ rs.map Rec.info)
  | [], i, X, acc, hle, hos, h => by
    have hlen : i = ops.size := by
      have := hos 0
      simp only [List.getElem?_nil, Nat.add_zero] at this
      have := Array.getElem?_eq_none_iff.1 this.symm
      omega
    exact ⟨[], X, .nil hlen, by simp, by simpa [wpR] using h⟩
  | o :: os, i, X, acc, hle, hos, h => by
    have ho : ops[i]? = some o := by simpa using (hos 0).symm
    have hle' : i + 1 ≤ ops.size := (Array.getElem?_eq_some_iff.1 ho).1
    have hos' : ∀ k, os[k]? = ops[i + 1 + k]? := fun k => by
      have := hos (k + 1)
      rw [List.getElem?_cons_succ] at this
      rw [this]
      congr 1
      omega
    have run : ∀ (hw : kI ops X o = some true), (∃ r, xD Γ P o X r ∧ Tidy r ∧ wpR Γ P ops os (X.app o.dst r) (acc ++ [r.info]) K) → ∃ rs Z, Chain Γ P ops i X rs Z ∧ (∀ r ∈ rs, Tidy r) ∧ K Z (acc ++ rs.map Rec.info) := by
      intro hw ⟨r, h1, h2, h3⟩
      obtain ⟨rs, Z, h4, h5, h6⟩ := jD os (i + 1) _ _ hle' hos' h3
      exact ⟨r :: rs, Z, .cons ho (.inl ⟨hw, h1⟩) h4, fun x hx => (List.mem_cons.1 hx).elim (fun e => e ▸ h2) (h5 x), by simpa using h6⟩
    simp only [wpR] at h
    cases hg : o.guard with
    | none =>
      rw [hg] at h
      exact run (by simp [kI, hg]) h
    | some gw =>
      obtain ⟨g, want⟩ := gw
      rw [hg] at h
      obtain ⟨b, hb, h1, h2⟩ := h
      have hw : kI ops X o = some b := by
        unfold vV at hb
        unfold kI
        rw [hg]
        simp only
        split at hb
        · rename_i s hs
          rw [hs]
          exact hb
        · cases hb
      cases b with
      | true => exact run hw (h1 rfl)
      | false =>
        obtain ⟨rs, Z, h4, h5, h6⟩ := jD os (i + 1) _ _ hle' hos' (h2 rfl)
        exact ⟨{ val := udf } :: rs, Z, .cons ho (.inr ⟨hw, rfl⟩) h4, fun x hx => (List.mem_cons.1 hx).elim (fun e => by subst e; exact fun _ => rfl) (h5 x), by simpa [Rec.info] using h6⟩
theorem yCR {Γ : Gl} {P : Program} {ops : Array Oper} : ∀ {i : Nat} {X : St} {rs : List Rec} {Z : St}, Chain Γ P ops i X rs Z → i + rs.length = ops.size ∧ ∃ S : Nat → St, S i = X ∧ S ops.size = Z ∧ (∀ j o r, i ≤ j → ops[j]? = some o → rs[j - i]? = some r → S (j + 1) = (S j).app o.dst r ∧ Spec Γ P ops o (S j) r) := by
  intro i X rs Z h
  induction h with
  | @nil i X h => exact ⟨by simp [h], fun _ => X, rfl, rfl, fun j o r _ _ hr => by simp at hr⟩
  | @cons i o X Z r rs hi hs hc ih =>
    obtain ⟨h1, S, h2, h3, h4⟩ := ih
    have hlt : i < ops.size := (Array.getElem?_eq_some_iff.1 hi).1
    refine ⟨by simp; omega, fun j => if j = i then X else S j, by simp, ?_, fun j o' r' hj ho hr => ?_⟩
    · have : ops.size ≠ i := by omega
      simp [this, h3]
    · by_cases e : j = i
      · subst e
        rw [hi] at ho
        cases ho
        simp at hr
        subst hr
        simp only [if_true]
        have : j + 1 ≠ j := by omega
        simp only [this, if_false]
        exact ⟨h2, hs⟩
      · have e1 : j + 1 ≠ i := by omega
        simp only [e, e1, if_false]
        refine h4 j o' r' (by omega) ho ?_
        rw [show j - i = (j - (i + 1)) + 1 from by omega] at hr
        simpa using hr
theorem bT {Γ : Gl} {P : Program} (hmix : P.follows .mixedOrders = true) {id : Nat} {ops : Array Oper} {draw : Bool} {K : St → Prop} {X : St} {E : Env} {a : Act} {w : World} {η : Et}
    (h : wpR Γ P ops ops.toList X [] fun Z ms => (draw = true → mK ops ms = true) ∧ K Z) (hS : Sim Γ E X a w η) : (Code.region id ops draw).wp P (fun e a' w' => e = .normal ∧ ∃ Z η', K Z ∧ Sim Γ E Z a' w' η') a w := by
  obtain ⟨rs, Z, hc, ht, h1, h2⟩ := jD ops.toList 0 X [] (Nat.zero_le _) (fun k => by simp) h
  cases draw with
  | false =>
    refine wp_region ?_
    have := yEV hc hS (Q := fun e a' w' => e = .normal ∧ ∃ Z η', K Z ∧ Sim Γ E Z a' w' η') (fun a' w' η' hS' => ⟨rfl, Z, η', h2, hS'⟩)
    rw [List.range_eq_range']
    simpa using this
  | true =>
    refine wp_region_any hmix ?_
    obtain ⟨hlen, S, hS0, hSn, hSt⟩ := yCR hc
    have hO : Open Γ P ops X rs S := by
      refine ⟨by omega, hS0, fun i o r ho hr => (hSt i o r (Nat.zero_le _) ho (by simpa using hr)).1, fun i o r ho hr => (hSt i o r (Nat.zero_le _) ho (by simpa using hr)).2, fun i r hr => ht r (List.mem_of_getElem? hr)⟩
    have hS' : Sim Γ E X a { w with drawn := w.drawn + 1 } η := hS.world rfl rfl rfl rfl
    refine open_any hO (by simpa using h1 rfl) (fun a' w' η' hS'' => ⟨rfl, Z, η', h2, by rw [hSn] at hS''; exact hS''⟩) ops.size _ a _ η (by simp) ?_ (fun i hi => ?_) ?_
    · exact Nat.le_trans (List.length_filter_le _ _) (by simp)
    · have : (Array.replicate ops.size false).getD i false = false := by
        simp [Array.getD_eq_getD_getElem?, Array.getElem?_replicate]
        split <;> rfl
      rw [this] at hi
      cases hi
    · have e : (fun j => (Array.replicate ops.size false).getD j false) = fun j => decide (j < 0) := by
        funext j
        simp [Array.getD_eq_getD_getElem?, Array.getElem?_replicate]
        split <;> rfl
      rw [e, hO.fold 0 ops.size (Nat.le_refl _) (Nat.zero_le _), hS0]
      exact hS'
theorem tP {Γ : Gl} {P : Program} (hmix : P.follows .mixedOrders = true) {E : Env} : ∀ (c : Code) (Q : Exit → St → Prop) (X : St) (a : Act) (w : World) (η : Et), wpC Γ P c Q X → Sim Γ E X a w η → c.wp P (fun e a' w' => ∃ Z η', Q e Z ∧ Sim Γ E Z a' w' η') a w
  | .skip, Q, X, a, w, η, h, hS => wp_skip ⟨X, η, h, hS⟩
  | .region id ops draw, Q, X, a, w, η, h, hS => by
    rcases h with h | ⟨rfl, h⟩
    · refine wp_mono (bT hmix h hS) (fun e a' w' he => ?_)
      obtain ⟨rfl, Z, η', h1, h2⟩ := he
      exact ⟨Z, η', h1, h2⟩
    · refine wp_mono (dG hmix h hS) (fun e a' w' he => ?_)
      obtain ⟨rfl, Z, η', h1, h2⟩ := he
      exact ⟨Z, η', h1, h2⟩
  | .seq x y, Q, X, a, w, η, h, hS => by
    refine wp_seq (wp_mono (tP hmix x _ X a w η h hS) (fun e a' w' he => ?_))
    obtain ⟨Z, η', h1, h2⟩ := he
    cases e with
    | normal =>
      obtain ⟨Z', h3, h4⟩ := h1
      obtain ⟨η'', h5⟩ := h3 E a' w' η' h2
      exact tP hmix y Q Z' a' w' η'' h4 h5
    | exit id => exact ⟨Z, η', h1, h2⟩
    | goto l => exact ⟨Z, η', h1, h2⟩
    | ret => exact ⟨Z, η', h1, h2⟩
    | panic ch => exact ⟨Z, η', h1, h2⟩
    | outgrown => exact ⟨Z, η', h1, h2⟩
  | .cond c x y, Q, X, a, w, η, h, hS => by
    obtain ⟨b, hb, h1, h2⟩ := h
    have he := hS.ev c
    rw [hb] at he
    have he : a.eval c = .bool b := he
    exact wp_cond_split he (fun e => tP hmix x Q X a w η (h1 e) hS) (fun e => tP hmix y Q X a w η (h2 e) hS)
  | .block id c, Q, X, a, w, η, h, hS => by
    refine wp_block (wp_mono (tP hmix c _ X a w η h hS) (fun e a' w' he => ?_))
    obtain ⟨Z, η', h1, h2⟩ := he
    cases e with
    | exit id' =>
      simp only [Exit.inBlock]
      split
      · rename_i e; simp only [e, if_true] at h1; exact ⟨Z, η', h1, h2⟩
      · rename_i e; simp only [e, if_false] at h1; exact ⟨Z, η', h1, h2⟩
    | normal => exact ⟨Z, η', h1, h2⟩
    | goto l => exact ⟨Z, η', h1, h2⟩
    | ret => exact ⟨Z, η', h1, h2⟩
    | panic ch => exact ⟨Z, η', h1, h2⟩
    | outgrown => exact ⟨Z, η', h1, h2⟩
  | .loop c, Q, X, a, w, η, h, hS => by
    obtain ⟨I, μ, ⟨X', hle, hI⟩, hr⟩ := h
    obtain ⟨η0, hS'⟩ := hle E a w η hS
    intro b k cs
    have key : ∀ n Y a w η, μ Y = n → I Y → Sim Γ E Y a w η → ∃ e a' w', (∃ Z η', Q e Z ∧ Sim Γ E Z a' w' η') ∧ Arrives P (lone (b.at a (.code c :: .inLoop c :: k)) cs w) b k cs e a' w' := by
      intro n
      induction n using Nat.strongRecOn with
      | _ n ih =>
        intro Y a w η hn hI hS
        obtain ⟨e, a₁, w₁, ⟨Z, η', hq, hS1⟩, harr⟩ := tP hmix c _ Y a w η (hr Y hI) hS b (.inLoop c :: k) cs
        cases e with
        | normal =>
          obtain ⟨Z', hle, hI', hlt⟩ := hq
          obtain ⟨η'', hS2⟩ := hle E a₁ w₁ η' hS1
          obtain ⟨e₂, a₂, w₂, hq₂, harr₂⟩ := ih (μ Z') (hn ▸ hlt) Z' a₁ w₁ η'' rfl hI' hS2
          exact ⟨e₂, a₂, w₂, hq₂, .of_steps (Steps.trans harr (.one step_inLoop)) harr₂⟩
        | exit id => exact ⟨_, a₁, w₁, ⟨Z, η', hq, hS1⟩, .pass (x := .inLoop c) rfl (fun _ _ => .inl (by simp)) harr⟩
        | goto l => exact ⟨_, a₁, w₁, ⟨Z, η', hq, hS1⟩, .pass (x := .inLoop c) rfl (fun _ _ => .inl (by simp)) harr⟩
        | ret => exact ⟨_, a₁, w₁, ⟨Z, η', hq, hS1⟩, .pass (x := .inLoop c) rfl (fun _ _ => .inl (by simp)) harr⟩
        | panic ch => exact ⟨_, a₁, w₁, ⟨Z, η', hq, hS1⟩, .pass (x := .inLoop c) rfl (fun _ _ => .inl (by simp)) harr⟩
        | outgrown => exact ⟨_, a₁, w₁, ⟨Z, η', hq, hS1⟩, .pass (x := .inLoop c) rfl (fun _ _ => .inl (by simp)) harr⟩
    obtain ⟨e, a', w', hq, harr⟩ := key _ X' a w η0 rfl hI hS'
    exact ⟨e, a', w', hq, .of_steps (.one step_loop) harr⟩
  | .exit id, Q, X, a, w, η, h, hS => wp_exit ⟨X, η, h, hS⟩
  | .label l, Q, X, a, w, η, h, hS => wp_label ⟨X, η, h, hS⟩
  | .goto l, Q, X, a, w, η, h, hS => wp_goto ⟨X, η, h, hS⟩
  | .ret, Q, X, a, w, η, h, hS => wp_ret ⟨X, η, h, hS⟩
  | .scope c, Q, X, a, w, η, h, hS => h.elim
  | .rangeFunc f ps as b, Q, X, a, w, η, h, hS => h.elim
  | .refuse why, Q, X, a, w, η, h, hS => h.elim
def mJ (P : Program) (X : St) : ResultVar → Option D
  | .tmp t => some (X.sl.getD t .bad)
  | .cell a t => match X.sl.getD a .bad with
    | .ptr m off => match X.hp m with
      | some ob => if off + P.cellsOf t ≤ ob.cells.length ∧ ((P.underlying t).isSome && (P.info? t).isSome) = true ∧ (xP P t = false → P.cellsOf t = 1) then some (D.ofCells (xP P t) ((ob.cells.drop off).take (P.cellsOf t))) else none
      | none => none
    | _ => none
def resD (P : Program) (X : St) (rs : List ResultVar) : Option D :=
  match rs.mapM (mJ P X) with
  | some [d] => some d
  | some ds => some (.tup ds)
  | none => none
structure RetOk (P : Program) (fn : Func) (Z : St) (r : D) (ps' : List (Option Ob)) (ns : List Ob) : Prop where
  ex : ∃ (d : D) (src : Nm → Option Nm) (len : Nm → Prop), resD P Z fn.results.toList = some d ∧ Vw src Z.hp len r d ∧ HpVw src len Z.hp (tZ ps' ns) ∧ (∀ k ob', tZ ps' ns (.p k) = some ob' → ob'.row = false → src (.p k) = some (.p k))
def yBq (tmps : Array Value) : ResultVar → Sem Value
  | .tmp t => pure (tmps.getD t undef)
  | .cell a t => do loadVar t (← asAddr (tmps.getD a undef))
theorem yCq (fn : Func) (tmps : Array Value) : results fn tmps = (do let vs ← fn.results.mapM (yBq tmps); pure (if h : vs.size = 1 then vs[0] else .tuple vs)) := by
  unfold results
  congr 1
theorem yCr {Γ : Gl} {P : Program} {E : Env} {X : St} {a : Act} {w : World} {η : Et} (hS : Sim Γ E X a w η) {rv : ResultVar} {d : D} (h : mJ P X rv = some d) :
    ∃ v, (yBq a.tmps rv).run P w = .ok v w ∧ Rep w (Mx X.hp η E.A) η d v := by
  cases rv with
  | tmp t =>
    cases h
    exact ⟨_, rfl, hS.ev (.tmp t)⟩
  | cell c t =>
    simp only [mJ] at h
    split at h
    · rename_i m off hd
      split at h
      · rename_i ob hm
        split at h
        · rename_i hc
          obtain ⟨h1, h2, h3⟩ := hc
          simp only [Bool.and_eq_true] at h2
          cases h
          have hr := hS.ev (.tmp c)
          simp only [ev, hd] at hr
          obtain ⟨b, s, hη, he⟩ := hr
          have he : a.tmps.getD c undef = .pointer (some ⟨b, off, none⟩) := he
          obtain ⟨cur, fr, hb⟩ := hS.block hm hη
          have hR := (hb.reps.drop off).take (P.cellsOf t)
          generalize hus : (List.take (P.cellsOf t) (List.drop off (List.take ob.cells.length cur.toList))) = us at hR
          have hlen : us.length = P.cellsOf t := by
            rw [← hus]
            have := hb.le
            have := hb.size
            simp; omega
          have hcl : ∀ j u, us[j]? = some u → w.cell? ((⟨b, off, none⟩ : Addr).add j) = some u := by
            intro j u hu
            rw [sJ, cell_of_row w b (off + j) cur ob.ty fr hb.heap]
            rw [← hus, List.getElem?_take] at hu
            split at hu
            · rw [List.getElem?_drop, List.getElem?_take] at hu
              split at hu
              · simpa using hu
              · cases hu
            · cases hu
          obtain ⟨u, hu0, hrun⟩ := vJ (P := P) ⟨b, off, none⟩ us h2.1 h2.2 hlen h3 hcl
          refine ⟨if xP P t then .agg us.toArray else u, ?_, hR.ofCells _ hu0⟩
          simp only [yBq, he, asAddr, Sem.run_bind, Sem.run_pure, Result.andThen_ok, hrun]
        · cases h
      · cases h
    · cases h
theorem yAB {Γ : Gl} {P : Program} {E : Env} {X : St} {a : Act} {w : World} {η : Et} (hS : Sim Γ E X a w η) {fn : Func} {d : D} (h : resD P X fn.results.toList = some d) : ∃ v, (results fn a.tmps).run P w = .ok v w ∧ Rep w (Mx X.hp η E.A) η d v := by
  have key : ∀ (rs : List ResultVar) (ds : List D), rs.mapM (mJ P X) = some ds → ∃ vs, (rs.mapM (yBq a.tmps)).run P w = .ok vs w ∧ RepsA w (Mx X.hp η E.A) η ds vs := by
    intro rs
    induction rs with
    | nil => intro ds h; simp at h; subst h; exact ⟨[], rfl, rfl⟩
    | cons rv rs ih =>
      intro ds h
      rw [List.mapM_cons] at h
      cases e1 : mJ P X rv with
      | none => simp [e1] at h
      | some d =>
        cases e2 : rs.mapM (mJ P X) with
        | none => simp [e1, e2] at h
        | some ds' =>
          simp [e1, e2] at h
          subst h
          obtain ⟨v, h1, h2⟩ := yCr hS e1
          obtain ⟨vs, h3, h4⟩ := ih ds' e2
          refine ⟨v :: vs, ?_, v, vs, rfl, h2, h4⟩
          rw [List.mapM_cons]
          simp only [Sem.run_bind, h1, h3, Result.andThen_ok, Sem.run_pure]
  unfold resD at h
  cases e : fn.results.toList.mapM (mJ P X) with
  | none => simp [e] at h
  | some ds =>
    obtain ⟨vs, h1, h2⟩ := key _ ds e
    have hl := h2.length
    have hrun : (results fn a.tmps).run P w = .ok (if h : vs.toArray.size = 1 then vs.toArray[0] else .tuple vs.toArray) w := by
      rw [yCq, Array.mapM_eq_mapM_toList]
      simp only [Sem.run_bind, Sem.run_map, h1, Result.andThen_ok, Sem.run_pure]
    rw [hrun]
    simp only [e] at h
    match ds, vs, h2, hl, h with
    | [d0], [v0], h2, hl, h =>
      cases h
      obtain ⟨u, us', hu, h3, _⟩ := h2
      cases hu
      exact ⟨_, rfl, by simpa using h3⟩
    | [], vs, h2, hl, h =>
      cases h
      have : vs = [] := List.eq_nil_of_length_eq_zero (by simpa using hl)
      subst this
      exact ⟨_, rfl, #[], by simp, rfl⟩
    | d0 :: d1 :: ds, vs, h2, hl, h =>
      cases h
      have : ¬ vs.toArray.size = 1 := by simp at hl ⊢; omega
      simp only [this, dif_neg, not_false_eq_true]
      exact ⟨_, rfl, vs.toArray, rfl, by simpa using h2⟩
theorem yCH {Γ : Gl} {P : Program} (hmix : P.follows .mixedOrders = true) {f : FuncId} {fn : Func} {c : Code} (hf : P.funcs[f]? = some fn) (hb : fn.body = some c) {args : List D} {ps : List Ob} {r : D} {ps' : List (Option Ob)} {ns : List Ob}
    (h : wpC Γ P c (fun e Z => (e = .normal ∨ e = .ret) ∧ RetOk P fn Z r ps' ns) { sl := args ++ List.replicate (fn.ntmps - args.length) .bad, hp := nH ps }) : Good Γ P f args ps r ps' ns := by
  intro w A η vals hG hgs hA hok hdom hmg hargs
  refine calls_of_wp hf hb ?_
  let E : Env := { w0 := w, M0 := Mut (nH ps) η, A := A, η0 := η }
  have hl := hargs.length
  have hS : Sim Γ E { sl := args ++ List.replicate (fn.ntmps - args.length) .bad, hp := nH ps } { tmps := vals.toArray ++ Array.replicate (fn.ntmps - vals.toArray.size) undef, defers := [] } w η := by
    refine { slots := ?_, ok := hok, defers := rfl, size := Nat.le_refl _, keep := fun _ _ _ => rfl, mine := fun m ob b s h1 h2 h3 => .inl ⟨m, ob, s, h1, h2, h3⟩, mine2 := fun m b s h1 => .inl ⟨m, s, h1⟩, pin := fun m ob q _ _ h => h, low := hA, os := rfl, tape := rfl, output := rfl, par := hdom, glob := hG, gle := hgs, gM := hmg }
    have hcat : ∀ (ds : List D) (us : List Value) (n : Nat), RepsA w (Mx (nH ps) η A) η ds us → RepsA w (Mx (nH ps) η A) η (ds ++ List.replicate n .bad) (us ++ List.replicate n undef) := by
      intro ds us n hr
      refine RepsA.of_get (by simp [hr.length]) (fun j d hd => ?_)
      by_cases e : j < ds.length
      · rw [List.getElem?_append_left e] at hd
        obtain ⟨u, h1, h2⟩ := hr.get hd
        exact ⟨u, by rw [List.getElem?_append_left (by rw [hr.length]; exact e)]; exact h1, h2⟩
      · rw [List.getElem?_append_right (by omega)] at hd
        rw [List.getElem?_replicate] at hd
        split at hd
        · rename_i h1
          cases hd
          exact ⟨undef, by rw [List.getElem?_append_right (by rw [hr.length]; omega), hr.length, List.getElem?_replicate, if_pos h1], trivial⟩
        · cases hd
    have := hcat args vals (fn.ntmps - args.length) hargs
    simpa [hl] using this
  refine wp_mono (tP hmix c _ _ _ w η h hS) (fun e a' w' he => ?_)
  obtain ⟨Z, η', ⟨h1, hret⟩, hS'⟩ := he
  obtain ⟨d, src, len, hd, hvw, hhp, hpin⟩ := hret.ex
  obtain ⟨v, hrun, hv⟩ := yAB hS' hd
  obtain ⟨sn, ok'⟩ := hhp.ok (A' := A) hS'.ok (fun b _ hb => .inr hb) (fun m m0 b s _ hη => hS'.ok.noA m0 b s hη) (fun m b s _ hη => hS'.ok.noA m b s hη)
  have fin : (fun e w' => ∃ v η', e = Ending.returned v ∧ Rep w' (Mx (tZ ps' ns) η' A) η' r v ∧ HpOk w' A (tZ ps' ns) η' ∧ w.heap.size ≤ w'.heap.size ∧ (∀ b, b < w.heap.size → ¬ Mut (nH ps) η b → w'.heap[b]? = w.heap[b]?) ∧
      (∀ m ob b s, tZ ps' ns m = some ob → ob.own = true → η' m = some (b, s) → Mut (nH ps) η b ∨ w.heap.size ≤ b) ∧ (∀ m b s, η' m = some (b, s) → (∃ m0 s0, η m0 = some (b, s0)) ∨ w.heap.size ≤ b) ∧ (∀ m ob q, tZ ps' ns m = some ob → ob.row = false → η m = some q → η' m = some q) ∧ w'.os = w.os ∧ w'.tape = w.tape ∧ w'.output = w.output) (.returned v) w' := by
    refine ⟨v, _, rfl, Vw.rep sn r d v hvw hv, ok', hS'.size, hS'.keep, ?_, ?_, ?_, hS'.os, hS'.tape, hS'.output⟩
    · intro m ob' b s h2 h3 h4
      rcases hhp.objs m ob' h2 with ⟨h5, _⟩ | ⟨m0, ob, h5, h6, _, _, h7, _⟩
      · simp [h5] at h4
      · simp only [h5, Option.bind_some] at h4
        exact hS'.mine m0 ob b s h6 (h7 h3) h4
    · intro m b s h2
      cases hs : src m with
      | none => simp [hs] at h2
      | some m0 =>
        simp only [hs, Option.bind_some] at h2
        exact hS'.mine2 m0 b s h2
    · intro m ob' q h2 h3 h4
      obtain ⟨k, rfl⟩ := hdom m q h4
      have hs := hpin k ob' h2 h3
      simp only [hs, Option.bind_some]
      rcases hhp.objs _ ob' h2 with ⟨h5, _⟩ | ⟨m0, ob, h5, h6, _, h7, _⟩
      · rw [hs] at h5; cases h5
      · rw [hs] at h5
        cases h5
        rcases h7 with h7 | ⟨_, _, _, h7⟩
        · exact hS'.pin _ ob q h6 (by rw [← h7]; exact h3) h4
        · cases h7
  rcases h1 with rfl | rfl
  · exact ⟨hS'.defers, v, hrun, fin⟩
  · exact ⟨hS'.defers, v, hrun, fin⟩
end Go.Ot

namespace Go.Ot
def S (l : List UInt8) : ByteArray := ⟨l.toArray⟩
@[simp] theorem S_l (l : List UInt8) : (S l).data.toList = l := rfl
@[simp] theorem S_size (l : List UInt8) : (S l).size = l.length := rfl
theorem yG9 (a b : List UInt8) : S a ++ S b = S (a ++ b) := by
  apply ByteArray.ext
  simp [S, ByteArray.data_append]
theorem yAi (l : List UInt8) (i j : Nat) : (S l).extract i j = S ((l.take j).drop i) := by
  apply ByteArray.ext
  simp [S, ByteArray.data_extract, List.drop_take]
def binV (P : Program) (t : TypeId) : BinOp → Value → Value → Option (Value × Prop)
  | .shl, .int k x, .int _ y => some (.int k (k.wrap (x * 2 ^ min y.toNat k.bits)), 0 ≤ y)
  | .shr, .int k x, .int _ y => some (.int k (x / 2 ^ min y.toNat k.bits), 0 ≤ y)
  | .add, .int k x, .int k' y => some (.int k (k.wrap (x + y)), k = k')
  | .sub, .int k x, .int k' y => some (.int k (k.wrap (x - y)), k = k')
  | .mul, .int k x, .int k' y => some (.int k (k.wrap (x * y)), k = k')
  | .quo, .int k x, .int k' y => some (.int k (k.wrap (x.tdiv y)), k = k' ∧ y ≠ 0)
  | .rem, .int k x, .int k' y => some (.int k (x.tmod y), k = k' ∧ y ≠ 0)
  | .and, .int k x, .int k' y => some (.int k (bits .and k x y), k = k')
  | .or, .int k x, .int k' y => some (.int k (bits .or k x y), k = k')
  | .xor, .int k x, .int k' y => some (.int k (bits .xor k x y), k = k')
  | .eql, .int k x, .int k' y => some (.bool (decide (x = y)), k = k')
  | .neq, .int k x, .int k' y => some (.bool (!decide (x = y)), k = k')
  | .lss, .int k x, .int k' y => some (.bool (decide (x < y)), k = k')
  | .leq, .int k x, .int k' y => some (.bool (decide (x ≤ y)), k = k')
  | .gtr, .int k x, .int k' y => some (.bool (decide (y < x)), k = k')
  | .geq, .int k x, .int k' y => some (.bool (decide (y ≤ x)), k = k')
  | .add, .string a, .string b => some (.string (S (a.data.toList ++ b.data.toList)), a.data.toList.length + b.data.toList.length ≤ 9223372036854775807)
  | .eql, .string a, .string b => some (.bool (a.data.toList == b.data.toList), True)
  | .neq, .string a, .string b => some (.bool (!(a.data.toList == b.data.toList)), True)
  | .lss, .string a, .string b => some (.bool (Op.bytesLess a.data.toList b.data.toList), True)
  | .eql, .bool a, .bool b => some (.bool (a == b), P.underlying t = some .bool)
  | .neq, .bool a, .bool b => some (.bool (!(a == b)), P.underlying t = some .bool)
  | .eql, .slice A n c, .slice none 0 0 => some (.bool A.isNone, P.underlying t = some (.slice (P.elem t)))
  | .neq, .slice A n c, .slice none 0 0 => some (.bool (!A.isNone), P.underlying t = some (.slice (P.elem t)))
  | _, _, _ => none
theorem lE {P : Program} {w : World} {a b : Operand} {op : BinOp} {t : TypeId} {x y : Value} (h : ¬ (x = .nilIface ∧ y = .nilIface)) (h2 : ∀ c d, x = .agg c → y = .agg d → False) : (eqGuard op t a b x y).run P w = .ok () w := by
  unfold eqGuard
  cases op
  case eql => cases x <;> cases y <;> first | rfl | (exact absurd ⟨rfl, rfl⟩ h) | exact (h2 _ _ rfl rfl).elim
  case neq => cases x <;> cases y <;> first | rfl | (exact absurd ⟨rfl, rfl⟩ h) | exact (h2 _ _ rfl rfl).elim
  all_goals rfl
theorem yA1 (a b : ByteArray) : Op.bytesLess a.toList b.toList = Op.bytesLess a.data.toList b.data.toList := by rw [ByteArray.toList_eq, ByteArray.toList_eq]
theorem eK (x y : Int) : (x == y) = decide (x = y) := by by_cases h : x = y <;> simp [h]
theorem yGX {P : Program} {t : TypeId} {op : BinOp} {a b v : Value} {c : Prop} (h : binV P t op a b = some (v, c)) (hc : c) (hn : ¬ (a = .nilIface ∧ b = .nilIface)) (w : World) : (binOp op t a b).run P w = .ok v w := by
  unfold binV at h
  split at h <;> cases h
  · simp only [binOp_shl, shift_shl_any _ _ _ _ hc, Sem.run_pure]
  · simp only [binOp_shr, shift_shr_any _ _ _ _ hc, Sem.run_pure]
  · subst hc; simp [binOp, Op.intArith]
  · subst hc; simp [binOp, Op.intArith]
  · subst hc; simp [binOp, Op.intArith]
  · obtain ⟨rfl, h2⟩ := hc; simp [binOp, Op.intDiv, h2]
  · obtain ⟨rfl, h2⟩ := hc; simp [binOp, Op.intDiv, h2]
  · subst hc; simp [binOp, intBits_and]
  · subst hc; simp [binOp, intBits_or]
  · subst hc; simp [binOp, intBits_xor]
  · subst hc; simp [binOp, Op.intCmp, eK]
  · subst hc; simp [binOp, Op.intCmp, bne, eK]
  · subst hc; simp [binOp, Op.intCmp]
  · subst hc; simp [binOp, Op.intCmp]
  · subst hc; simp [binOp, Op.intCmp]
  · subst hc; simp [binOp, Op.intCmp]
  · rename_i x y
    have := run_string_add_sum (P := P) w x y hc
    have e : x ++ y = S (x.data.toList ++ y.data.toList) := yG9 x.data.toList y.data.toList
    rw [binOp_string_add, this, e]
  · rw [binOp_string_eql, ByteArray.toList_eq, ByteArray.toList_eq]; rfl
  · rw [binOp_string_neq, ByteArray.toList_eq, ByteArray.toList_eq]; rfl
  · rw [binOp_string_lss, yA1]; rfl
  · exact run_eql_bool w t _ _ hc
  · exact run_neq_bool w t _ _ hc
  · exact Go.run_eql_slice_nil w t _ _ _ _ hc
  · exact Go.run_neq_slice_nil w t _ _ _ _ hc
def unV : UnOp → Value → Option Value
  | .not, .bool b => some (.bool (!b))
  | .neg, .int k n => some (.int k (k.wrap (0 - n)))
  | .xor, .int k n => some (.int k (bits .xor k (if k.signed then -1 else k.max) n))
  | _, _ => none
section
variable {Γ : Gl} {P : Program} {o : Oper} {X : St}
theorem yFF (op : BinOp) (t u : TypeId) (x y : Operand) (h : o.op = .binOp op t x y u) {a b v : Value} {c : Prop} (hx : ev X x = .t (.v a)) (hy : ev X y = .t (.v b)) (hv : binV P t op a b = some (v, c)) (hc : c) (hn : ¬ (a = .nilIface ∧ b = .nilIface)) : xD Γ P o X { val := .t (.v v) } := by
  refine uI (by simp [h]) (fun z hz => ?_) v (fun w => ?_)
  · rw [h] at hz
    simp [Op.operands] at hz
    rcases hz with rfl | rfl <;> simp [hx, hy, D.isAtom]
  · have hagg : ∀ c d, a = .agg c → b = .agg d → False := by
      rintro c d rfl rfl
      cases op <;> simp [binV] at hv
    simp only [execOp, h, hx, hy, D.atom, Sem.run_bind, lE hn hagg, Result.andThen_ok, yGX hv hc hn w, Sem.run_pure]
theorem yH4 (op : UnOp) (t : TypeId) (x : Operand) (h : o.op = .unOp op t x) {a v : Value} (hx : ev X x = .t (.v a)) (hv : unV op a = some v) : xD Γ P o X { val := .t (.v v) } := by
  refine uI (by simp [h]) (fun z hz => ?_) v (fun w => ?_)
  · rw [h] at hz
    simp [Op.operands] at hz
    subst hz
    simp [hx, D.isAtom]
  · unfold unV at hv
    split at hv <;> cases hv <;> simp [execOp, h, hx, D.atom, Op.unary, Op.intArith, intBits_xor]
theorem fM (t u : TypeId) (x y : Operand) (neg : Bool) (h : o.op = .binOp (if neg then .neq else .eql) t x y u) (hx : (∃ q z, ev X x = .t (.ifc q z)) ∨ ∃ q z, ev X x = .ifc q z) (hy : y = .const .nilIface) (ht : P.underlying t = some (.interface (P.methodsAt t))) : xD Γ P o X { val := .t (.v (.bool neg)) } := by
  intro E Y a w η hA hS K Q hK
  subst hy
  have hr := hS.ev x
  rw [hA.2.1 x (by simp [h, Op.operands])] at hr
  obtain ⟨q, v, he⟩ : ∃ q v, a.eval x = .iface q v := by
    rcases hx with ⟨q, z, hx⟩ | ⟨q, z, hx⟩
    · rw [hx] at hr; obtain ⟨v, he, _⟩ := hr; exact ⟨q, v, he⟩
    · rw [hx] at hr; obtain ⟨v, he, _⟩ := hr; exact ⟨q, v, he⟩
  have hcn : a.eval (.const .nilIface) = .nilIface := rfl
  refine wR (v := .bool neg) (w' := w) ?_ (hK _ _ η ?_)
  · cases neg
    · simp only [execOp, h, he, hcn, Bool.false_eq_true, if_false, Sem.run_bind, lE (P := P) (w := w) (x := .iface q v) (y := .nilIface) (by simp) (by simp), Result.andThen_ok]
      rw [run_eql_held_nil (P := P) (w := w) t q v ht]; rfl
    · simp only [execOp, h, he, hcn, if_true, Sem.run_bind, lE (P := P) (w := w) (x := .iface q v) (y := .nilIface) (by simp) (by simp), Result.andThen_ok]
      rw [run_neq_held_nil (P := P) (w := w) t q v ht]; rfl
  · rw [wW]
    exact hS.put (d := .t (.v (.bool neg))) (by exact rfl) o.dst
theorem jH (t u : TypeId) (x y : Operand) (neg : Bool) (h : o.op = .binOp (if neg then .neq else .eql) t x y u) (hx : ev X x = .t (.v .nilIface)) (hy : y = .const .nilIface) (ht : P.underlying t = some (.interface (P.methodsAt t))) : xD Γ P o X { val := .t (.v (.bool !neg)) } := by
  refine uI (by cases neg <;> simp [h]) (fun z hz => ?_) _ (fun w => ?_)
  · subst hy
    have hz' : z = x ∨ z = .const .nilIface := by cases neg <;> simpa [h, Op.operands] using hz
    rcases hz' with rfl | rfl
    · rw [hx]; rfl
    · rfl
  · subst hy
    have hg : ∀ op, (eqGuard op t x (.const .nilIface) .nilIface .nilIface).run P w = .ok () w := by
      intro op
      unfold eqGuard
      cases op
      case eql => cases x <;> rfl
      case neq => cases x <;> rfl
      all_goals rfl
    cases neg
    · have hc : ev X (.const .nilIface) = .t (.v .nilIface) := rfl
      simp only [execOp, h, hx, hc, D.atom, Bool.false_eq_true, if_false, Sem.run_bind, hg, Result.andThen_ok]
      rw [run_eql_nil_nil (P := P) (w := w) t ht]; rfl
    · have hc : ev X (.const .nilIface) = .t (.v .nilIface) := rfl
      simp only [execOp, h, hx, hc, D.atom, if_true, Sem.run_bind, hg, Result.andThen_ok]
      have := run_eql_nil_nil (P := P) (w := w) t ht
      simp only [binOp, Sem.run_bind] at this ⊢
      cases e : (Op.equal t .nilIface .nilIface).run P w with
      | ok b w' =>
        rw [e] at this
        simp only [Result.andThen_ok, Sem.run_pure, Result.ok.injEq, Value.bool.injEq] at this
        obtain ⟨rfl, rfl⟩ := this
        simp
      | halt q w' => rw [e] at this; simp at this
theorem fL (t u : TypeId) (x : Operand) (neg : Bool) (h : o.op = .binOp (if neg then .neq else .eql) t x (.const (.slice none 0 0)) u) {n : Nat} {c : T} {cs : List T} (hx : ev X x = .t (.sl n (c :: cs))) (ht : P.underlying t = some (.slice (P.elem t))) : xD Γ P o X { val := .t (.v (.bool neg)) } := by
  intro E Y a w η hA hS K Q hK
  have hr := hS.ev x
  rw [hA.2.1 x (by simp [h, Op.operands]), hx] at hr
  obtain ⟨A, c', he, _, _, hR⟩ := hr
  rcases hR with hR | ⟨ad, rfl, _⟩
  · cases hR
  have hcn : a.eval (.const (.slice none 0 0)) = .slice none 0 0 := rfl
  refine wR (v := .bool neg) (w' := w) ?_ (hK _ _ η ?_)
  · cases neg
    · simp only [execOp, h, he, hcn, Bool.false_eq_true, if_false, Sem.run_bind, lE (P := P) (w := w) (x := .slice (some ad) n c') (y := .slice none 0 0) (by simp) (by simp), Result.andThen_ok]
      rw [Go.run_eql_slice_nil w t _ _ _ _ ht]; rfl
    · simp only [execOp, h, he, hcn, if_true, Sem.run_bind, lE (P := P) (w := w) (x := .slice (some ad) n c') (y := .slice none 0 0) (by simp) (by simp), Result.andThen_ok]
      rw [Go.run_neq_slice_nil w t _ _ _ _ ht]; rfl
  · rw [wW]
    exact hS.put (d := .t (.v (.bool neg))) (by exact rfl) o.dst
theorem gV (t : TypeId) (x i : Operand) (h : o.op = .index t x i) (ht : P.underlying t = some .string) {s : ByteArray} {k : IntKind} {j : Int} (hx : ev X x = .t (.v (.string s))) (hi : ev X i = .t (.v (.int k j))) (h0 : 0 ≤ j) (hj : j < s.data.toList.length) :
    xD Γ P o X { val := .t (.v (.int .u8 (s.data.toList.getD j.toNat 0).toNat)) } := by
  refine uI (by simp [h]) (fun z hz => ?_) _ (fun w => ?_)
  · rw [h] at hz
    simp [Op.operands] at hz
    rcases hz with rfl | rfl <;> simp [hx, hi, D.isAtom]
  · have hj' : j < s.size := hj
    have hlt : j.toNat < s.data.toList.length := by omega
    simp only [execOp, h, hx, hi, D.atom, Sem.run_bind, run_index_string w t s k j ht]
    rw [dif_pos ⟨h0, hj'⟩]
    simp only [Result.andThen_ok, Sem.run_pure, List.getD_eq_getElem?_getD, List.getElem?_eq_getElem hlt, Option.getD_some]
    rfl
theorem gR (t : TypeId) (x : Operand) (lo hi : Option Operand) (h : o.op = .slice t x lo hi none) (ht : P.underlying t = some .string) {s : ByteArray} (hx : ev X x = .t (.v (.string s)))
    {l r : Nat} (hr' : bound X s.data.toList.length hi = some r) (hl' : bound X 0 lo = some l) (hlr : l ≤ r) (hrn : r ≤ s.data.toList.length) : xD Γ P o X { val := .t (.v (.string (S ((s.data.toList.take r).drop l)))) } := by
  intro E Y a w η hA hS K Q hK
  have he := hS.ev x
  rw [hA.2.1 x (by simp [h, Op.operands]), hx] at he
  have he : a.eval x = .string s := he
  have hb := pX (P := P) (X := X) hS lo hi (fun y hy => hA.2.1 y (by
    rw [h]
    simp only [Op.operands, Array.toList_append, Option.toArray]
    rcases List.mem_append.1 hy with hy | hy
    · cases lo <;> simp_all
    · cases hi <;> simp_all)) false (len := s.size) (cap := s.size) hr' hl' hlr hrn
  refine wR (v := .string (s.extract l r)) (w' := w) (by
    simp only [execOp, h, he, Instr.sliceAt, Instr.slice, Sem.run_bind, run_underlying ht, Result.andThen_ok, Option.map_none, Option.isSome_none, Bool.false_eq_true, if_false, hb, Sem.run_pure]) (hK _ _ η ?_)
  rw [wW]
  refine hS.put (d := .t (.v _)) ?_ o.dst
  exact congrArg Value.string (yAi s.data.toList l r)
theorem bA (x : Operand) (t : TypeId) (h : o.op = .call { callee := .builtin .len, args := #[x], argTypes := #[t] }) (ht : P.underlying t = some .string) {s : ByteArray} (hx : ev X x = .t (.v (.string s))) :
    xD Γ P o X { val := .t (.v (.int .i64 s.data.toList.length)) } := by
  refine uI (by simp [h]) (fun z hz => ?_) _ (fun w => ?_)
  · rw [h] at hz
    simp [Op.operands, Call.operands] at hz
    subst hz
    simp [hx, D.isAtom]
  · simp [execOp, h, resolve, invoke, builtin, hx, D.atom, run_len_string w t o.type s ht, goInt]
theorem bB (x : Operand) (t : TypeId) (h : o.op = .call { callee := .builtin .len, args := #[x], argTypes := #[t] }) (ht : P.underlying t = some (.slice (P.elem t))) {A : Option Addr} {n c : Nat} (hx : ev X x = .t (.v (.slice A n c))) :
    xD Γ P o X { val := .t (.v (.int .i64 n)) } := by
  refine uI (by simp [h]) (fun z hz => ?_) _ (fun w => ?_)
  · rw [h] at hz
    simp [Op.operands, Call.operands] at hz
    subst hz
    simp [hx, D.isAtom]
  · simp [execOp, h, resolve, invoke, builtin, hx, D.atom, run_len_slice w t o.type A n c ht, goInt]
theorem jI (mx : Bool) (x y : Operand) (ts : Array TypeId) (h : o.op = .call { callee := .builtin (if mx then .max else .min), args := #[x, y], argTypes := ts }) {k k' : IntKind} {a b : Int} (hx : ev X x = .t (.v (.int k a))) (hy : ev X y = .t (.v (.int k' b))) :
    xD Γ P o X { val := .t (.v (.int k (if mx then max a b else min a b))) } := by
  refine uI (by cases mx <;> simp [h]) (fun z hz => ?_) _ (fun w => ?_)
  · cases mx <;> (simp [h, Op.operands, Call.operands] at hz; rcases hz with rfl | rfl <;> simp [hx, hy, D.isAtom])
  · cases mx
    · have := run_min_int2 (P := P) (w := w) ts o.type k k' a b
      have e : (if b < a then b else a) = min a b := by omega
      simp [execOp, h, resolve, invoke, builtin, hx, hy, D.atom, this, e]
    · have := run_max_int2 (P := P) (w := w) ts o.type k k' a b
      have e : (if b > a then b else a) = max a b := by split <;> omega
      simp [execOp, h, resolve, invoke, builtin, hx, hy, D.atom, this, e]
theorem dA (src dst : TypeId) (x : Operand) (h : o.op = .convert src dst x) {k : IntKind} {n : Int} (hx : ev X x = .t (.v (.int k n))) (hs : (P.underlying src).isSome = true) {k' : IntKind} (hd : P.underlying dst = some (.int k')) : xD Γ P o X { val := .t (.v (.int k' (k'.wrap n))) } := by
  refine uI (by simp [h]) (fun z hz => ?_) _ (fun w => ?_)
  · rw [h] at hz
    simp [Op.operands] at hz
    subst hz
    simp [hx, D.isAtom]
  · have e : P.intKind dst = k' := by simp [Program.intKind, hd]
    have := run_convert_int w src dst k n hs (by rw [e]; exact hd)
    simp [execOp, h, hx, D.atom, this, e]
theorem eZ (src dst : TypeId) (x : Operand) (h : o.op = .convert src dst x) {s : ByteArray} (hx : ev X x = .t (.v (.string s))) (hs : P.underlying src = some .string) (hd : P.underlying dst = some .string) : xD Γ P o X { val := .t (.v (.string s)) } := by
  refine uI (by simp [h]) (fun z hz => ?_) _ (fun w => ?_)
  · rw [h] at hz
    simp [Op.operands] at hz
    subst hz
    simp [hx, D.isAtom]
  · simp [execOp, h, hx, D.atom, convert, run_underlying hs, run_underlying hd]
end
end Go.Ot
