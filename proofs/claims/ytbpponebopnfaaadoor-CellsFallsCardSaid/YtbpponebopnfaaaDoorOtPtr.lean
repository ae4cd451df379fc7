/- Pointers that are compared and turned; bytes that are read as a string where they lie (strings.Builder). -/
import Derived.Test.YtbpponebopnfaaaDoorOtIface
import Derived.LaidEqlPtr
import Derived.Lib.Builder
import Derived.Lib.UnsafeStr
set_option linter.unusedVariables false
set_option linter.unusedSimpArgs false
namespace Go.Ot
/-- An own object is given up, and its block turned. -/
theorem Sim.lose {Γ : Gl} {E : Env} {X : St} {a : Act} {w : World} {η : Et} (h : Sim Γ E X a w η) {m : Nm} {ob : Ob} (hm : X.hp m = some ob) (ho : ob.own = true)
    (hns : D.hasL m X.sl = false) (hno : ∀ m' ob', m' ≠ m → X.hp m' = some ob' → D.hasL m ob'.cells = false) {w' : World} {b s : Nat} (hη : η m = some (b, s))
    (hh : ∀ b', b' ≠ b → w'.heap[b']? = w.heap[b']?) (hsz : w'.heap.size = w.heap.size) (h1 : w'.os = w.os) (h2 : w'.tape = w.tape) (h3 : w'.output = w.output) :
    Sim Γ E { X with hp := upd X.hp m none } a w' (updE η m none) := by
  have hMut : Mut X.hp η b := ⟨m, ob, s, hm, ho, hη⟩
  have hk : Keeps w w' (Mx X.hp η E.A) := fun b' hb' hM => hh b' (fun e => hM (e ▸ .inl hMut))
  have hM : ∀ b', b' < w.heap.size → Mx (upd X.hp m none) (updE η m none) E.A b' → Mx X.hp η E.A b' := by
    rintro b' hb' (⟨m', ob', s', h1, h2, h3⟩ | h1)
    · by_cases e : m' = m
      · subst e; simp at h1
      · rw [upd_ne e] at h1
        rw [updE_ne e] at h3
        exact .inl ⟨m', ob', s', h1, h2, h3⟩
    · exact .inr h1
  have hηD : ∀ ds, D.hasL m ds = false → ∀ m' q, D.hasL m' ds = true → η m' = some q → updE η m none m' = some q := fun ds hd m' q h1 h2 => by
    rw [updE_ne (by rintro rfl; rw [hd] at h1; cases h1)]; exact h2
  refine { slots := RepsA.keeps hk hM _ _ (hηD _ hns) h.slots, ok := ⟨?_, ?_, ?_, ?_⟩, defers := h.defers, size := by rw [hsz]; exact h.size, keep := ?_, mine := ?_, mine2 := ?_, pin := ?_, low := h.low, os := h1.trans h.os, tape := h2.trans h.tape, output := h3.trans h.output, par := h.par, glob := h.glob, gle := h.gle, gM := h.gM }
  · intro m' ob' hm'
    by_cases e : m' = m
    · subst e; simp at hm'
    · have hm'' : X.hp m' = some ob' := by simpa [upd_ne e] using hm'
      refine (h.ok.objs m' ob' hm'').keeps hk hM (fun b' s' hb' => hh b' (fun e' => ?_)) (updE_ne e) (hηD _ (hno m' ob' e hm''))
      subst e'
      exact e (h.ok.inj m' m _ _ _ hb' hη)
  · intro m' q hq
    by_cases e : m' = m
    · subst e; simp at hq
    · rw [updE_ne e] at hq
      simpa [upd_ne e] using h.ok.dom m' q hq
  · intro m1 m2 b1 s1 s2 e1 e2
    by_cases e : m1 = m
    · subst e; simp at e1
    · by_cases e' : m2 = m
      · subst e'; simp at e2
      · rw [updE_ne e] at e1; rw [updE_ne e'] at e2; exact h.ok.inj _ _ _ _ _ e1 e2
  · intro m' b' s' e1
    by_cases e : m' = m
    · subst e; simp at e1
    · rw [updE_ne e] at e1; exact h.ok.noA _ _ _ e1
  · intro b' hb' hn
    rw [← h.keep b' hb' hn]
    refine hh b' ?_
    rintro rfl
    rcases h.mine m ob _ s hm ho hη with hx | hx
    · exact hn hx
    · omega
  · intro m' ob' b' s' e1 e2 e3
    by_cases e : m' = m
    · subst e; simp at e1
    · rw [updE_ne e] at e3
      exact h.mine m' ob' b' s' (by simpa [upd_ne e] using e1) e2 e3
  · intro m' b' s' e1
    by_cases e : m' = m
    · subst e; simp at e1
    · rw [updE_ne e] at e1; exact h.mine2 _ _ _ e1
  · intro m' ob' q e1 e2 e3
    by_cases e : m' = m
    · subst e; simp at e1
    · rw [updE_ne e]; exact h.pin m' ob' q (by simpa [upd_ne e] using e1) e2 e3
section
variable {Γ : Gl} {P : Program} {o : Oper} {X : St}
theorem spec_ptrNil {t u : TypeId} {x : Operand} (neg : Bool) (h : o.op = .binOp (if neg then .neq else .eql) t x (.const (.pointer none)) u) {m : Nm} {off : Nat} (hx : ev X x = .ptr m off) (ht : P.underlying t = some (.pointer (P.pointee t))) : OpSpec Γ P o X { val := .t (.v (.bool neg)) } := by
  intro E Y a w η hA hS K Q hK
  have hr := hS.ev x
  rw [hA.2.1 x (by cases neg <;> simp [h, Op.operands]), hx] at hr
  obtain ⟨b, s, hη, he⟩ := hr
  have hcn : a.eval (.const (.pointer none)) = .pointer none := rfl
  refine wp_val (v := .bool neg) (w' := w) ?_ (hK _ _ η ?_)
  · cases neg
    · simp only [execOp, h, he, hcn, Bool.false_eq_true, if_false, Sem.run_bind, run_fst (P := P) (w := w) (x := .pointer (some ⟨b, off, none⟩)) (y := .pointer none) (by simp) (by simp), Result.andThen_ok]
      rw [run_eql_pointer_nil w t _ ht]; rfl
    · simp only [execOp, h, he, hcn, if_true, Sem.run_bind, run_fst (P := P) (w := w) (x := .pointer (some ⟨b, off, none⟩)) (y := .pointer none) (by simp) (by simp), Result.andThen_ok]
      rw [run_neq_pointer_nil w t _ ht]; rfl
  · rw [app_val]
    exact hS.put (by exact rfl) o.dst
theorem spec_ptrSame {t u te : TypeId} {x y : Operand} (h : o.op = .binOp .neq t x y u) {m : Nm} {off : Nat} (hx : ev X x = .ptr m off) (hy : ev X y = .ptr m off) (ht : P.underlying t = some (.pointer te)) (hj : (P.info? te).isSome = true) : OpSpec Γ P o X { val := .t (.v (.bool false)) } := by
  obtain ⟨j, hj⟩ := Option.isSome_iff_exists.1 hj
  intro E Y a w η hA hS K Q hK
  have hr := hS.ev x
  rw [hA.2.1 x (by simp [h, Op.operands]), hx] at hr
  have hr2 := hS.ev y
  rw [hA.2.1 y (by simp [h, Op.operands]), hy] at hr2
  obtain ⟨b, s, hη, he⟩ := hr
  obtain ⟨b', s', hη', he'⟩ := hr2
  rw [hη] at hη'
  cases hη'
  refine wp_val (v := .bool false) (w' := w) ?_ (hK _ _ η ?_)
  · simp only [execOp, h, he, he', Sem.run_bind, run_fst (P := P) (w := w) (x := .pointer (some ⟨b, off, none⟩)) (y := .pointer (some ⟨b, off, none⟩)) (by simp) (by simp), Result.andThen_ok]
    rw [Lib.run_neq_ptr_same w _ ht hj]; rfl
  · rw [app_val]
    exact hS.put (by exact rfl) o.dst
def sizedB (P : Program) (t : TypeId) : Bool := match P.info? t with | some j => j.size != 0 | none => false
theorem spec_toUnsafe {src dst t : TypeId} {x : Operand} (h : o.op = .convert src dst x) {m : Nm} {off : Nat} (hx : ev X x = .ptr m off) {ob : Ob} (hm : X.hp m = some ob) (hoff : off < ob.cells.length)
    (hs : P.underlying src = some (.pointer t)) (hd : P.underlying dst = some .unsafePointer) (hj : sizedB P t = true) : OpSpec Γ P o X { val := .ptr m off, F := [m] } := by
  unfold sizedB at hj
  split at hj
  case h_2 => cases hj
  rename_i j ht
  have hj : j.size ≠ 0 := by simpa using hj
  intro E Y a w η hA hS K Q hK
  have hr := hS.ev x
  rw [hA.2.1 x (by simp [h, Op.operands]), hx] at hr
  obtain ⟨b, s, hη, he⟩ := hr
  have hm' : Y.hp m = some ob := (hA.2.2 m (by simp)).trans hm
  obtain ⟨cur, fr, hb⟩ := hS.block hm' hη
  have hsh : w.shape? b = some (ob.ty, cur.size) := by simp [World.shape?, hb.heap]
  have := Lib.run_to_unsafe (P := P) w (src := src) (dst := dst) ⟨b, off, none⟩ hs hd ht hj hsh (by have := hb.le; have := hb.size; simp; omega)
  refine wp_val (v := .pointer (some ⟨b, off, none⟩)) (w' := w) (by simp [execOp, h, he, this]) (hK _ _ η ?_)
  rw [app_val]
  exact hS.put (d := .ptr m off) (u := .pointer (some ⟨b, off, none⟩)) ⟨b, s, hη, rfl⟩ o.dst
theorem spec_fromUnsafe {src dst t : TypeId} {x : Operand} (h : o.op = .convert src dst x) {m : Nm} {off : Nat} (hx : ev X x = .ptr m off) {ob : Ob} (hm : X.hp m = some ob) (hrow : ob.row = false) (hlt : ob.ty ≠ looseT)
    (hs : P.underlying src = some .unsafePointer) (hd : P.underlying dst = some (.pointer t)) (ht : (P.info? t).isSome = true) (hlies : liesAt P P.depth ob.ty (ob.cells.length / P.cellsOf ob.ty) off t 1 = true) : OpSpec Γ P o X { val := .ptr m off, F := [m] } := by
  obtain ⟨j, ht⟩ := Option.isSome_iff_exists.1 ht
  intro E Y a w η hA hS K Q hK
  have hr := hS.ev x
  rw [hA.2.1 x (by simp [h, Op.operands]), hx] at hr
  obtain ⟨b, s, hη, he⟩ := hr
  have hm' : Y.hp m = some ob := (hA.2.2 m (by simp)).trans hm
  obtain ⟨cur, fr, hb⟩ := hS.block hm' hη
  have hsh : w.shape? b = some (ob.ty, ob.cells.length) := by simp [World.shape?, hb.heap]; rw [hb.size, hb.box hrow hlt]
  have := Lib.run_from_unsafe (P := P) w (src := src) (dst := dst) ⟨b, off, none⟩ hs hd ht hsh hlies
  refine wp_val (v := .pointer (some ⟨b, off, none⟩)) (w' := w) (by simp [execOp, h, he, this]) (hK _ _ η ?_)
  rw [app_val]
  exact hS.put (d := .ptr m off) (u := .pointer (some ⟨b, off, none⟩)) ⟨b, s, hη, rfl⟩ o.dst
/-- An external that hands its argument back. -/
theorem spec_extSame {f : FuncId} {x : Operand} {tys : Array TypeId} (h : o.op = .call { callee := .value (.func f), args := #[x], argTypes := tys }) (hr : ∀ v w, (callFunc f #[v]).run P w = .ok (.value v) w) : OpSpec Γ P o X { val := ev X x } := by
  intro E Y a w η hA hS K Q hK
  have hx := hS.ev x
  rw [hA.2.1 x (by simp [h, Op.operands, Call.operands])] at hx
  refine wp_val (v := a.eval x) (w' := w) ?_ (hK _ _ η ?_)
  · have hf : a.eval (.func f) = .func (.func f) #[] #[] := rfl
    simp only [execOp, h, resolve, hf, Deferred.ofValue, Sem.run_bind, Sem.run_pure, Result.andThen_ok, invoke]
    simp [hr]
  · rw [app_val]
    exact hS.put hx o.dst
theorem spec_sliceData {x : Operand} {t : TypeId} (h : o.op = .call { callee := .builtin .unsafeSliceData, args := #[x], argTypes := #[t] }) {m : Nm} {off n sz : Nat} (hx : ev X x = .msl m off n sz) (hn : 0 < n) : OpSpec Γ P o X { val := .ptr m off } := by
  intro E Y a w η hA hS K Q hK
  have hr := hS.ev x
  rw [hA.2.1 x (by simp [h, Op.operands, Call.operands]), hx] at hr
  obtain ⟨A, c, he, h1, h2, h3⟩ := hr
  rcases h3 with h3 | ⟨b, s, hη, rfl, _⟩
  · omega
  have := Lib.run_unsafeSliceData_row (P := P) w #[t] o.type ⟨b, off, none⟩ n c (by omega)
  refine wp_val (v := .pointer (some ⟨b, off, none⟩)) (w' := w) (by simp [execOp, h, resolve, invoke, builtin, he, this]) (hK _ _ η ?_)
  rw [app_val]
  exact hS.put (d := .ptr m off) (u := .pointer (some ⟨b, off, none⟩)) ⟨b, s, hη, rfl⟩ o.dst
theorem spec_unsafeString {pt it : TypeId} {x y : Operand} (h : o.op = .call { callee := .builtin .unsafeString, args := #[x, y], argTypes := #[pt, it] }) {m : Nm} (hx : ev X x = .ptr m 0) (l : List UInt8) (hy : ev X y = .t (.v (.int .i64 l.length))) {ob : Ob} (hm : X.hp m = some ob) (ho : ob.own = true)
    (hl : l ≠ []) (hc : ∀ (j : Nat) (z : UInt8), l[j]? = some z → ob.cells[j]? = some (D.t (.v (.int .u8 z.toNat)))) (hlen : l.length ≤ ob.cells.length) (h63 : l.length ≤ 9223372036854775807) (hp : P.underlying pt = some (.pointer ob.ty)) (hc1 : P.cellsOf ob.ty = 1) :
    OpSpec Γ P o X { val := .t (.v (.string (S l))), upd := [(m, none)], F := [m], poi := [m], bar := true } := by
  intro E Y a w η hA hS K Q hK
  have e := hA.1 rfl
  subst e
  have hr := hS.ev x
  rw [hx] at hr
  have hr2 := hS.ev y
  rw [hy] at hr2
  obtain ⟨b, s, hη, he⟩ := hr
  have he2 : a.eval y = .int .i64 l.length := hr2
  obtain ⟨cur, fr, hb⟩ := hS.block hm hη
  have hsh : w.shape? b = some (ob.ty, cur.size) := by simp [World.shape?, hb.heap]
  have hrun := Lib.run_unsafeString_row (P := P) w pt it o.type ob.ty hp hc1 b cur.size hsh l hl (by have := hb.le; have := hb.size; omega) h63 (fun j z hz => by
    obtain ⟨u, hu, _, hu2⟩ := hb.cell (hc j z hz)
    have hu2 : u = .int .u8 z.toNat := hu2
    subst hu2
    rw [add_at]
    simpa using hu)
  have hl0 : l.length ≠ 0 := by simpa using hl
  refine wp_val (v := .string (S l)) (w' := w.freeze ⟨b, 0, none⟩ l.length) (by simp [execOp, h, resolve, invoke, builtin, he, he2, hrun, S]) (hK _ _ (updE η m none) ?_)
  have h1 := hS.poi m
  have h2 := Sim.lose (w' := w.freeze ⟨b, 0, none⟩ l.length) h1 (m := m) (ob := ob.poi m) (by simp [St.poi, hm]) ho (by simp [St.poi, D.hasL_poi]) (fun m' ob' _ h' => by
      simp only [St.poi, Option.map_eq_some_iff] at h'
      obtain ⟨ob0, _, rfl⟩ := h'
      simp [Ob.poi, D.hasL_poi]) hη (fun b' hb' => by
        simp only [World.freeze, hl0, if_false]
        rw [Array.getElem?_modify]
        simp [Ne.symm hb']) (by simp [World.freeze, hl0]) (by simp [World.freeze, hl0]) (by simp [World.freeze, hl0]) (by simp [World.freeze, hl0])
  exact h2.put (d := .t (.v (.string (S l)))) (by exact rfl) o.dst
end

/-! ### calls that are handed objects -/
/-- The objects that a call is handed, one by one. -/
def ObsAt (src : Nm → Option Nm) (len : Nm → Prop) (hp : Nm → Option Ob) : List Nm → List Ob → Prop
  | m :: ms, o' :: ps => (∃ ob, hp m = some ob ∧ o'.ty = ob.ty ∧ rowOk m o' ob ∧ (o'.own = true → ob.own = true) ∧ VwL src hp len o'.cells ob.cells) ∧ ObsAt src len hp ms ps
  | [], [] => True
  | _, _ => False
theorem ObsAt.len {src : Nm → Option Nm} {len : Nm → Prop} {hp : Nm → Option Ob} : ∀ {nms : List Nm} {ps : List Ob}, ObsAt src len hp nms ps → nms.length = ps.length
  | [], [], _ => rfl
  | [], _ :: _, h => h.elim
  | _ :: _, [], h => h.elim
  | _ :: ms, _ :: ps, h => by simp [ObsAt.len h.2]
theorem ObsAt.get {src : Nm → Option Nm} {len : Nm → Prop} {hp : Nm → Option Ob} : ∀ {nms : List Nm} {ps : List Ob}, ObsAt src len hp nms ps → ∀ {k : Nat} {o' : Ob}, ps[k]? = some o' → ∃ m ob, nms[k]? = some m ∧ hp m = some ob ∧ o'.ty = ob.ty ∧ rowOk m o' ob ∧ (o'.own = true → ob.own = true) ∧ VwL src hp len o'.cells ob.cells
  | [], [], _, k, o', h => by simp at h
  | [], _ :: _, h, _, _, _ => h.elim
  | _ :: _, [], h, _, _, _ => h.elim
  | m :: ms, o1 :: ps, h, 0, o', h1 => by
    simp at h1
    subst h1
    obtain ⟨ob, h2⟩ := h.1
    exact ⟨m, ob, rfl, h2⟩
  | m :: ms, o1 :: ps, h, k + 1, o', h1 => by
    simpa using ObsAt.get h.2 (k := k) (by simpa using h1)
theorem HpVw_of {nms len : List Nm} {hp : Nm → Option Ob} {ps : List Ob} (h : ObsAt (srcOf nms) (· ∈ len) hp nms ps) (hnd : nms.Nodup) (hd : ∀ m ∈ len, m ∉ nms) : HpVw (srcOf nms) (· ∈ len) hp (HpOf ps) where
  objs := by
    intro m o' hm
    cases m with
    | p k =>
      obtain ⟨m0, ob, h1, h2⟩ := h.get (k := k) hm
      exact .inr ⟨m0, ob, h1, h2⟩
    | _ => simp [HpOf] at hm
  dom := by
    intro m m0 hm
    cases m with
    | p k =>
      have hk : k < nms.length := (List.getElem?_eq_some_iff.1 hm).1
      rw [h.len] at hk
      simp [HpOf, List.getElem?_eq_getElem hk]
    | _ => simp [srcOf] at hm
  inj := by
    intro m m' m0 h1 h2
    cases m with
    | p k =>
      cases m' with
      | p k' =>
        have hk : k < nms.length := (List.getElem?_eq_some_iff.1 h1).1
        have := (List.getElem?_inj hk hnd).1 (h1.trans h2.symm)
        rw [this]
      | _ => simp [srcOf] at h2
    | _ => simp [srcOf] at h1
  lent := by
    intro m m0 ob' h1 h2 h3
    cases m with
    | p k => exact absurd (List.mem_of_getElem? h1) (hd m0 h2)
    | _ => simp [srcOf] at h1
def PoiOk (poi : List Nm) : List Nm → List Ob → List (Option Ob) → Prop
  | m :: ms, o1 :: ps, o2 :: ps' => (m ∈ poi ∨ (o1.row = false ∧ ∃ o', o2 = some o' ∧ o'.row = false)) ∧ (∀ o', o2 = some o' → o'.row = false → o1.row = false) ∧ PoiOk poi ms ps ps'
  | [], [], [] => True
  | _, _, _ => False
theorem PoiOk.get {poi : List Nm} : ∀ {nms : List Nm} {ps : List Ob} {ps' : List (Option Ob)}, PoiOk poi nms ps ps' → ps'.length = ps.length ∧ (∀ (k : Nat) m, nms[k]? = some m → m ∉ poi → (∃ ob, ps[k]? = some ob ∧ ob.row = false) ∧ ∃ ob', ps'[k]? = some (some ob') ∧ ob'.row = false) ∧ ∀ (k : Nat) ob1, ps'[k]? = some (some ob1) → ob1.row = false → ∃ ob, ps[k]? = some ob ∧ ob.row = false
  | [], [], [], _ => ⟨rfl, by simp, by simp⟩
  | m :: ms, o1 :: ps, o2 :: ps', h => by
    obtain ⟨i1, i2, i3⟩ := PoiOk.get h.2.2
    refine ⟨by simp [i1], fun k m' h1 h2 => ?_, fun k ob1 h1 h2 => ?_⟩
    · cases k with
      | zero =>
        simp at h1
        subst h1
        rcases h.1 with h3 | ⟨h3, o', rfl, h4⟩
        · exact absurd h3 h2
        · exact ⟨⟨o1, rfl, h3⟩, o', rfl, h4⟩
      | succ k => simpa using i2 k m' (by simpa using h1) h2
    · cases k with
      | zero =>
        simp at h1
        exact ⟨o1, rfl, h.2.1 ob1 h1 h2⟩
      | succ k => simpa using i3 k ob1 (by simpa using h1) h2
  | [], [], _ :: _, h => h.elim
  | [], _ :: _, [], h => h.elim
  | [], _ :: _, _ :: _, h => h.elim
  | _ :: _, [], [], h => h.elim
  | _ :: _, [], _ :: _, h => h.elim
  | _ :: _, _ :: _, [], h => h.elim
section
variable {Γ : Gl} {P : Program} {X : St} {ops ops' : Array Oper} {rid i : Nat} {o : Oper} {os : List Oper} {acc : List Meta} {Q : Exit → St → Prop} {K : St → List Meta → Prop} {draw : Bool}
theorem spec_callp {g : Operand} {args : Array Operand} {tys : Array TypeId} (h : o.op = .call { callee := .value g, args := args, argTypes := tys }) {f : FuncId} {caps : List D} (hg : ev X g = .fn f caps) (hc : callOk P f = true)
    (nms len poi : List Nm) {cargs : List D} {ps : List Ob} {r : D} {ps' : List (Option Ob)} {ns : List Ob} (hG : Good Γ P f cargs ps r ps' ns)
    (hv : VwL (srcOf nms) X.hp (· ∈ len) cargs (args.toList.map (ev X) ++ caps)) (hobs : ObsAt (srcOf nms) (· ∈ len) X.hp nms ps) (hnd : nms.Nodup) (hdis : ∀ m ∈ len, m ∉ nms) (hlex : ∀ m ∈ len, X.hp m ≠ none)
    (hpoi : PoiOk poi nms ps ps') (rid i : Nat) (hnew : ∀ k, k < ns.length → X.hp (.r rid i k) = none) (sh : Bool)
    (hsh : sh = false → r.flat = true ∧ (∀ ob ∈ ns, D.flatL ob.cells = true) ∧ ∀ ob, some ob ∈ ps' → D.flatL ob.cells = true)
    (hlp : sh = true → ∀ m ∈ len, ∀ ob, X.hp m = some ob → ∀ p ∈ poi, D.hasL p ob.cells = false) : OpSpec Γ P o X (callRec X nms r ps' ns rid i sh len poi) :=
  spec_call g args tys h hg hc nms len hG hv (HpVw_of hobs hnd hdis) hobs.len hpoi.get.1 (fun m hm => by
    obtain ⟨k, hk, rfl⟩ := List.mem_iff_getElem.1 hm
    obtain ⟨o', ho'⟩ : ∃ o', ps[k]? = some o' := ⟨_, List.getElem?_eq_getElem (by rw [← hobs.len]; exact hk)⟩
    obtain ⟨m0, ob, h1, h2, _⟩ := hobs.get ho'
    rw [List.getElem?_eq_getElem hk] at h1
    cases h1
    rw [h2]; simp) rid i hnew sh hsh poi hpoi.get.2.1 hdis hlex hlp hpoi.get.2.2
theorem a_by {r : Rec} {X' : St} {i' : Nat} (hsp : OpSpec Γ P o X r) (h : wpS Γ P ops rid i' os X' [] (regK ops' false Q)) (hg : o.guard = none := by rfl)
  (hs : stepF P rid i X o = none := by (first | (simp only [push_cast, reduceCtorEq, Nat.reduceAdd, Nat.reduceSub, Nat.reduceMul, Nat.reduceEqDiff, Nat.reduceLT, Nat.reduceLeDiff, Nat.reduceMod, Nat.reduceDiv, Int.reduceLE, Int.reduceLT, Int.reduceEq, Int.reduceToNat, Int.reduceAdd, Int.reduceSub, Int.reduceMul, Int.reduceNeg]) | (simp only [stepF, callF])))
  (ht : Tidy r := by first | exact (fun _ => rfl) | exact (fun h => by cases h))
  (hX : X.app o.dst r = X' := by (simp only [push_cast, reduceCtorEq, Nat.reduceAdd, Nat.reduceEqDiff] <;> rfl))
  (hi : i + 1 = i' := by (simp only [Nat.reduceAdd] <;> rfl)) : wpS Γ P ops rid i (o :: os) X [] (regK ops' false Q) := s_by0 hg hs hsp ht hX hi h
theorem a_callp {g : Operand} {args : Array Operand} {tys : Array TypeId} {f : FuncId} {caps cargs : List D} {r : D} {ps : List Ob} {ps' : List (Option Ob)} {ns : List Ob} {X' : St} {i' : Nat} (nms len poi : List Nm) (sh : Bool) (hG : Good Γ P f cargs ps r ps' ns) (h : wpS Γ P ops rid i' os X' [] (regK ops' false Q)) (hg : o.guard = none := by rfl)
  (ho : o.op = .call { callee := .value g, args := args, argTypes := tys } := by rfl)
  (hs : stepF P rid i X o = none := by (simp only [stepF, callF]))
  (hf : ev X g = .fn f caps := by (simp only [push_cast, reduceCtorEq, Nat.reduceAdd, Nat.reduceSub, Nat.reduceMul, Nat.reduceEqDiff, Nat.reduceLT, Nat.reduceLeDiff, Nat.reduceMod, Nat.reduceDiv, Int.reduceLE, Int.reduceLT, Int.reduceEq, Int.reduceToNat, Int.reduceAdd, Int.reduceSub, Int.reduceMul, Int.reduceNeg] <;> rfl))
  (hk : callOk P f = true := by (simp only [push_cast]))
  (hv : VwL (srcOf nms) X.hp (· ∈ len) cargs (args.toList.map (ev X) ++ caps) := by (simp [-List.map_map, -List.map_drop, -List.map_take, VwL_cons, VwL_nil, Vw_bad, Vw_t, Vw_ptr, Vw_msl, Vw_rop, Vw_agg, Vw_tup, Vw_ifc, VwT_refl, VwL_refl_map, Vw_nilmsl, VwT_msl, VwT_agg, VwT_v, VwT_nil, VwTs_cons, VwTs_nil, VwTs_refl, VwTs_app, List.take_of_length_le, srcL, notIn, ObsVw, SrcOk, pOk, Go.Ot.look, resP, resN, ev, evc, mkS, push_cast, srcOf, ObsAt, PoiOk]))
  (hobs : ObsAt (srcOf nms) (· ∈ len) X.hp nms ps := by (simp [-List.map_map, -List.map_drop, -List.map_take, VwL_cons, VwL_nil, Vw_bad, Vw_t, Vw_ptr, Vw_msl, Vw_rop, Vw_agg, Vw_tup, Vw_ifc, VwT_refl, VwL_refl_map, Vw_nilmsl, VwT_msl, VwT_agg, VwT_v, VwT_nil, VwTs_cons, VwTs_nil, VwTs_refl, VwTs_app, List.take_of_length_le, srcL, notIn, ObsVw, SrcOk, pOk, Go.Ot.look, resP, resN, ev, evc, mkS, push_cast, srcOf, ObsAt, PoiOk]))
  (hnd : nms.Nodup := by (simp [-List.map_map, -List.map_drop, -List.map_take, VwL_cons, VwL_nil, Vw_bad, Vw_t, Vw_ptr, Vw_msl, Vw_rop, Vw_agg, Vw_tup, Vw_ifc, VwT_refl, VwL_refl_map, Vw_nilmsl, VwT_msl, VwT_agg, VwT_v, VwT_nil, VwTs_cons, VwTs_nil, VwTs_refl, VwTs_app, List.take_of_length_le, srcL, notIn, ObsVw, SrcOk, pOk, Go.Ot.look, resP, resN, ev, evc, mkS, push_cast, srcOf, ObsAt, PoiOk]))
  (hdis : ∀ m ∈ len, m ∉ nms := by (simp))
  (hlex : ∀ m ∈ len, X.hp m ≠ none := by (simp [Go.Ot.look]))
  (hpoi : PoiOk poi nms ps ps' := by (simp [-List.map_map, -List.map_drop, -List.map_take, VwL_cons, VwL_nil, Vw_bad, Vw_t, Vw_ptr, Vw_msl, Vw_rop, Vw_agg, Vw_tup, Vw_ifc, VwT_refl, VwL_refl_map, Vw_nilmsl, VwT_msl, VwT_agg, VwT_v, VwT_nil, VwTs_cons, VwTs_nil, VwTs_refl, VwTs_app, List.take_of_length_le, srcL, notIn, ObsVw, SrcOk, pOk, Go.Ot.look, resP, resN, ev, evc, mkS, push_cast, srcOf, ObsAt, PoiOk]))
  (hnew : ∀ k, k < ns.length → X.hp (.r rid i k) = none := by (simp [Go.Ot.look]))
  (hsh : sh = false → r.flat = true ∧ (∀ ob ∈ ns, D.flatL ob.cells = true) ∧ ∀ ob, some ob ∈ ps' → D.flatL ob.cells = true := by (simp [-List.map_map, -List.map_drop, -List.map_take, D.flat, D.flatL, T.flat, T.flatL, flatL_map_t, push_cast]))
  (hlp : sh = true → ∀ m ∈ len, ∀ ob, X.hp m = some ob → ∀ p ∈ poi, D.hasL p ob.cells = false := by (simp [Go.Ot.look, D.hasL, D.has, push_cast]))
  (ht : Tidy (callRec X nms r ps' ns rid i sh len poi) := by first | exact (fun _ => rfl) | exact (fun h => by cases h))
  (hX : X.app o.dst (callRec X nms r ps' ns rid i sh len poi) = X' := by (simp only [push_cast, reduceCtorEq, Nat.reduceAdd, Nat.reduceEqDiff] <;> rfl))
  (hi : i + 1 = i' := by (simp only [Nat.reduceAdd] <;> rfl)) : wpS Γ P ops rid i (o :: os) X [] (regK ops' false Q) := s_by0 hg hs (spec_callp ho hf hk nms len poi hG hv hobs hnd hdis hlex hpoi rid i hnew sh hsh hlp) ht hX hi h
theorem a_byd {r : Rec} {X' : St} {ms : Meta} {i' : Nat} (hsp : OpSpec Γ P o X r) (h : wpS Γ P ops rid i' os X' (acc ++ [ms]) (regK ops' draw Q)) (hg : o.guard = none := by rfl)
  (hs : stepF P rid i X o = none := by (first | (simp only [push_cast, reduceCtorEq, Nat.reduceAdd, Nat.reduceSub, Nat.reduceMul, Nat.reduceEqDiff, Nat.reduceLT, Nat.reduceLeDiff, Nat.reduceMod, Nat.reduceDiv, Int.reduceLE, Int.reduceLT, Int.reduceEq, Int.reduceToNat, Int.reduceAdd, Int.reduceSub, Int.reduceMul, Int.reduceNeg]) | (simp only [stepF, callF])))
  (ht : Tidy r := by first | exact (fun _ => rfl) | exact (fun h => by cases h))
  (hX : X.app o.dst r = X' := by (simp only [push_cast, reduceCtorEq, Nat.reduceAdd, Nat.reduceEqDiff] <;> rfl))
  (hm : (r).info = ms := by (simp only [Rec.info, push_cast, reduceCtorEq, Nat.reduceAdd, Nat.reduceEqDiff] <;> rfl))
  (hi : i + 1 = i' := by (simp only [Nat.reduceAdd] <;> rfl)) : wpS Γ P ops rid i (o :: os) X acc (regK ops' draw Q) := s_by hg hs hsp ht hX hm hi h
theorem a_callpd {g : Operand} {args : Array Operand} {tys : Array TypeId} {f : FuncId} {caps cargs : List D} {r : D} {ps : List Ob} {ps' : List (Option Ob)} {ns : List Ob} {X' : St} {ms : Meta} {i' : Nat} (nms len poi : List Nm) (sh : Bool) (hG : Good Γ P f cargs ps r ps' ns) (h : wpS Γ P ops rid i' os X' (acc ++ [ms]) (regK ops' draw Q)) (hg : o.guard = none := by rfl)
  (ho : o.op = .call { callee := .value g, args := args, argTypes := tys } := by rfl)
  (hs : stepF P rid i X o = none := by (simp only [stepF, callF]))
  (hf : ev X g = .fn f caps := by (simp only [push_cast, reduceCtorEq, Nat.reduceAdd, Nat.reduceSub, Nat.reduceMul, Nat.reduceEqDiff, Nat.reduceLT, Nat.reduceLeDiff, Nat.reduceMod, Nat.reduceDiv, Int.reduceLE, Int.reduceLT, Int.reduceEq, Int.reduceToNat, Int.reduceAdd, Int.reduceSub, Int.reduceMul, Int.reduceNeg] <;> rfl))
  (hk : callOk P f = true := by (simp only [push_cast]))
  (hv : VwL (srcOf nms) X.hp (· ∈ len) cargs (args.toList.map (ev X) ++ caps) := by (simp [-List.map_map, -List.map_drop, -List.map_take, VwL_cons, VwL_nil, Vw_bad, Vw_t, Vw_ptr, Vw_msl, Vw_rop, Vw_agg, Vw_tup, Vw_ifc, VwT_refl, VwL_refl_map, Vw_nilmsl, VwT_msl, VwT_agg, VwT_v, VwT_nil, VwTs_cons, VwTs_nil, VwTs_refl, VwTs_app, List.take_of_length_le, srcL, notIn, ObsVw, SrcOk, pOk, Go.Ot.look, resP, resN, ev, evc, mkS, push_cast, srcOf, ObsAt, PoiOk]))
  (hobs : ObsAt (srcOf nms) (· ∈ len) X.hp nms ps := by (simp [-List.map_map, -List.map_drop, -List.map_take, VwL_cons, VwL_nil, Vw_bad, Vw_t, Vw_ptr, Vw_msl, Vw_rop, Vw_agg, Vw_tup, Vw_ifc, VwT_refl, VwL_refl_map, Vw_nilmsl, VwT_msl, VwT_agg, VwT_v, VwT_nil, VwTs_cons, VwTs_nil, VwTs_refl, VwTs_app, List.take_of_length_le, srcL, notIn, ObsVw, SrcOk, pOk, Go.Ot.look, resP, resN, ev, evc, mkS, push_cast, srcOf, ObsAt, PoiOk]))
  (hnd : nms.Nodup := by (simp [-List.map_map, -List.map_drop, -List.map_take, VwL_cons, VwL_nil, Vw_bad, Vw_t, Vw_ptr, Vw_msl, Vw_rop, Vw_agg, Vw_tup, Vw_ifc, VwT_refl, VwL_refl_map, Vw_nilmsl, VwT_msl, VwT_agg, VwT_v, VwT_nil, VwTs_cons, VwTs_nil, VwTs_refl, VwTs_app, List.take_of_length_le, srcL, notIn, ObsVw, SrcOk, pOk, Go.Ot.look, resP, resN, ev, evc, mkS, push_cast, srcOf, ObsAt, PoiOk]))
  (hdis : ∀ m ∈ len, m ∉ nms := by (simp))
  (hlex : ∀ m ∈ len, X.hp m ≠ none := by (simp [Go.Ot.look]))
  (hpoi : PoiOk poi nms ps ps' := by (simp [-List.map_map, -List.map_drop, -List.map_take, VwL_cons, VwL_nil, Vw_bad, Vw_t, Vw_ptr, Vw_msl, Vw_rop, Vw_agg, Vw_tup, Vw_ifc, VwT_refl, VwL_refl_map, Vw_nilmsl, VwT_msl, VwT_agg, VwT_v, VwT_nil, VwTs_cons, VwTs_nil, VwTs_refl, VwTs_app, List.take_of_length_le, srcL, notIn, ObsVw, SrcOk, pOk, Go.Ot.look, resP, resN, ev, evc, mkS, push_cast, srcOf, ObsAt, PoiOk]))
  (hnew : ∀ k, k < ns.length → X.hp (.r rid i k) = none := by (simp [Go.Ot.look]))
  (hsh : sh = false → r.flat = true ∧ (∀ ob ∈ ns, D.flatL ob.cells = true) ∧ ∀ ob, some ob ∈ ps' → D.flatL ob.cells = true := by (simp [-List.map_map, -List.map_drop, -List.map_take, D.flat, D.flatL, T.flat, T.flatL, flatL_map_t, push_cast]))
  (hlp : sh = true → ∀ m ∈ len, ∀ ob, X.hp m = some ob → ∀ p ∈ poi, D.hasL p ob.cells = false := by (simp [Go.Ot.look, D.hasL, D.has, push_cast]))
  (ht : Tidy (callRec X nms r ps' ns rid i sh len poi) := by first | exact (fun _ => rfl) | exact (fun h => by cases h))
  (hX : X.app o.dst (callRec X nms r ps' ns rid i sh len poi) = X' := by (simp only [push_cast, reduceCtorEq, Nat.reduceAdd, Nat.reduceEqDiff] <;> rfl))
  (hm : (callRec X nms r ps' ns rid i sh len poi).info = ms := by (simp only [Rec.info, push_cast, reduceCtorEq, Nat.reduceAdd, Nat.reduceEqDiff] <;> rfl))
  (hi : i + 1 = i' := by (simp only [Nat.reduceAdd] <;> rfl)) : wpS Γ P ops rid i (o :: os) X acc (regK ops' draw Q) := s_by hg hs (spec_callp ho hf hk nms len poi hG hv hobs hnd hdis hlex hpoi rid i hnew sh hsh hlp) ht hX hm hi h
end
theorem flatL_append (a b : List D) : D.flatL (a ++ b) = (D.flatL a && D.flatL b) := by
  induction a with
  | nil => simp [D.flatL]
  | cons x a ih => simp [D.flatL, ih, Bool.and_assoc]
theorem renL_append (ρ : Nm → Nm) (a b : List D) : D.renL ρ (a ++ b) = D.renL ρ a ++ D.renL ρ b := by
  induction a with
  | nil => simp [D.renL]
  | cons x a ih => simp [D.renL, ih]
attribute [push_cast] flatL_append renL_append
end Go.Ot
