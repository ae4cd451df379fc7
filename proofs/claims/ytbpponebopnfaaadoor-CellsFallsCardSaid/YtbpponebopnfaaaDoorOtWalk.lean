/- What an operation does, reckoned; what is left to be shown of a body. -/
import Derived.Test.YtbpponebopnfaaaDoorOtMake
set_option linter.unusedVariables false
set_option linter.unusedSimpArgs false
namespace Go.Ot

def look : List (Nm × Ob) → Nm → Option Ob
  | [], _ => none
  | (m, o) :: r, m' => if m = m' then some o else look r m'
def putL (m : Nm) (o : Ob) : List (Nm × Ob) → List (Nm × Ob)
  | [] => [(m, o)]
  | (m', o') :: r => if m' = m then (m, o) :: r else (m', o') :: putL m o r
def delL (m : Nm) : List (Nm × Ob) → List (Nm × Ob)
  | [] => []
  | (m', o') :: r => if m' = m then delL m r else (m', o') :: delL m r
theorem upd_look_some (m : Nm) (o : Ob) : ∀ L : List (Nm × Ob), upd (look L) m (some o) = look (putL m o L)
  | [] => by
    funext m'
    by_cases e : m' = m
    · subst e; simp [upd, look, putL]
    · simp [upd, look, putL, e, Ne.symm e]
  | (m1, o1) :: L => by
    have ih := upd_look_some m o L
    funext m'
    have ih' := congrFun ih m'
    by_cases e1 : m1 = m
    · subst e1
      by_cases e : m' = m1
      · subst e; simp [upd, look, putL]
      · simp [upd, look, putL, e, Ne.symm e]
    · by_cases e : m' = m
      · subst e
        simp only [upd_same] at ih' ⊢
        simp [look, putL, e1, ← ih']
      · rw [upd_ne e] at ih' ⊢
        simp [look, putL, e1, ← ih']
theorem upd_look_none (m : Nm) : ∀ L : List (Nm × Ob), upd (look L) m none = look (delL m L)
  | [] => by funext m'; by_cases e : m' = m <;> simp [upd, look, delL, e]
  | (m1, o1) :: L => by
    have ih := upd_look_none m L
    funext m'
    have ih' := congrFun ih m'
    by_cases e1 : m1 = m
    · subst e1
      by_cases e : m' = m1
      · subst e; simp only [upd_same] at ih' ⊢; simp [look, delL, ← ih']
      · rw [upd_ne e] at ih' ⊢; simp [look, delL, Ne.symm e, ← ih']
    · by_cases e : m' = m
      · subst e
        simp only [upd_same] at ih' ⊢
        simp [look, delL, e1, ← ih']
      · rw [upd_ne e] at ih' ⊢
        simp [look, delL, e1, ← ih']
theorem poi_look (m : Nm) : ∀ L : List (Nm × Ob), (fun m' => (look L m').map (Ob.poi m)) = look (L.map fun p => (p.1, p.2.poi m))
  | [] => rfl
  | (m1, o1) :: L => by
    funext m'
    have := congrFun (poi_look m L) m'
    by_cases e : m1 = m'
    · simp [look, e]
    · simp only [look, e, if_false, List.map_cons]
      exact this
theorem HpOf_nil : HpOf [] = look [] := by
  funext m
  cases m <;> rfl
theorem HpOf_one (a : Ob) : HpOf [a] = look [(.p 0, a)] := by
  funext m
  cases m with
  | p k => cases k <;> simp [HpOf, look]
  | n k => simp [HpOf, look]
  | r a b c => simp [HpOf, look]
theorem HpOf_two (a b : Ob) : HpOf [a, b] = look [(.p 0, a), (.p 1, b)] := by
  funext m
  cases m with
  | p k =>
    match k with
    | 0 => simp [HpOf, look]
    | 1 => simp [HpOf, look]
    | k + 2 => simp [HpOf, look]
  | n k => simp [HpOf, look]
  | r a b c => simp [HpOf, look]

def lenF (P : Program) (X : St) : List Operand → List TypeId → Option (Rec × Prop)
  | [x], [t] => match ev X x with
    | .t (.v (.string s)) => some ({ val := .t (.v (.int .i64 s.data.toList.length)) }, P.underlying t = some .string)
    | .t (.sl n cs) => some ({ val := .t (.v (.int .i64 n)) }, P.underlying t = some (.slice (P.elem t)))
    | .msl m off n sz => some ({ val := .t (.v (.int .i64 n)) }, P.underlying t = some (.slice (P.elem t)))
    | .t (.v (.slice A n c)) => some ({ val := .t (.v (.int .i64 n)) }, P.underlying t = some (.slice (P.elem t)))
    | _ => none
  | _, _ => none
def mmF (mx : Bool) (X : St) : List Operand → Option (Rec × Prop)
  | [x, y] => match ev X x, ev X y with
    | .t (.v (.int k a)), .t (.v (.int k' b)) => some ({ val := .t (.v (.int k (if mx then max a b else min a b))) }, True)
    | _, _ => none
  | _ => none
/-- An element's type: its cells and bytes. -/
def bytesOf (P : Program) (e : TypeId) : Nat := match P.info? e with | some i => i.bytes | none => 0
def elemOk (P : Program) (e : TypeId) : Bool := match P.info? e with | some i => (match i.zero with | some z => z.cells.size == i.size | none => false) | none => false
theorem elemOk_spec {P : Program} {e : TypeId} (h : elemOk P e = true) : ∃ i z, P.info? e = some i ∧ i.zero = some z ∧ z.cells.size = i.size ∧ i.size = P.cellsOf e ∧ i.bytes = bytesOf P e := by
  unfold elemOk at h
  split at h
  · rename_i i hi
    split at h
    · rename_i z hz
      exact ⟨i, z, hi, hz, by simpa using h, by simp [Program.cellsOf, hi], by simp [bytesOf, hi]⟩
    · cases h
  · cases h
/-- What an append's second operand brings. -/
def srcF (P : Program) (X : St) (sz : Nat) (u : TypeId) : D → Option ((Nat × List D × List Nm) × Prop)
  | .t (.sl k cs) => some ((k, cs.map .t, []), cs.length = k * sz ∧ P.underlying u = some (.slice (P.elem u)))
  | .t (.v (.slice A 0 c)) => some ((0, [], []), P.underlying u = some (.slice (P.elem u)))
  | .t (.v (.string s)) => some ((s.data.toList.length, bytesD s.data.toList, []), sz = 1 ∧ P.underlying u = some .string)
  | .msl m off k sz' => match X.hp m with
    | some ob => some ((k, (ob.cells.drop off).take (k * sz), [m]), sz' = sz ∧ off + k * sz ≤ ob.cells.length ∧ P.underlying u = some (.slice (P.elem u)))
    | none => none
  | _ => none
theorem bytesD_bytesT (s : ByteArray) : (bytesT s).map D.t = bytesD s.data.toList := by
  simp only [bytesT, bytesD, List.map_map]
  rfl
theorem srcF_sound {P : Program} {X : St} {sz : Nat} {u : TypeId} {d : D} {k : Nat} {nd : List D} {F : List Nm} {c : Prop} (h : srcF P X sz u d = some ((k, nd, F), c)) (hc : c) : SrcD P X sz u d k nd F := by
  unfold srcF at h
  split at h
  · cases h; exact src_sl ⟨_, hc.2⟩ hc.1
  · cases h; exact src_nil ⟨_, hc⟩
  · cases h
    obtain ⟨rfl, hc⟩ := hc
    have := src_str (P := P) (X := X) hc
    rw [← bytesD_bytesT]
    exact this _
  · split at h
    · rename_i m off k sz' _ ob hm
      cases h
      obtain ⟨rfl, hc⟩ := hc
      exact src_msl ⟨_, hc.2⟩ hm hc.1
    · cases h
  · cases h
def appF (P : Program) (rid i : Nat) (X : St) : List Operand → List TypeId → Option (Rec × Prop)
  | [s, x], [t, u] => match ev X s, srcF P X (P.cellsOf (P.elem t)) u (ev X x) with
    | .msl m 0 n sz, some ((k, nd, F), c) => match X.hp m with
      | some ob => some ({ val := .msl m 0 (n + k) sz, F := m :: F, bar := true, poi := [m], upd := [(m, some { ob with cells := ob.cells ++ nd })] },
          c ∧ sz = P.cellsOf (P.elem t) ∧ ob.own = true ∧ ob.row = true ∧ ob.ty = P.elem t ∧ ob.cells.length = n * sz ∧ D.hasL m ob.cells = false ∧ D.hasL m nd = false ∧ n + k ≤ maxLen ∧ (n + k) * bytesOf P (P.elem t) ≤ 140737488355328 ∧ P.underlying t = some (.slice (P.elem t)) ∧ elemOk P (P.elem t) = true)
      | none => none
    | .t (.v (.slice none 0 0)), some ((k, nd, F), c) => some ({ val := .msl (.r rid i 0) 0 k (P.cellsOf (P.elem t)), F := .r rid i 0 :: F, upd := [(.r rid i 0, some ⟨nd, P.elem t, true, true⟩)] },
          c ∧ X.hp (.r rid i 0) = none ∧ k ≤ maxLen ∧ k * bytesOf P (P.elem t) ≤ 140737488355328 ∧ P.underlying t = some (.slice (P.elem t)) ∧ elemOk P (P.elem t) = true)
    | _, _ => none
  | _, _ => none
def callF (P : Program) (rid i : Nat) (X : St) (c : Call) : Option (Rec × Prop) :=
  match c.callee with
  | .builtin .append => appF P rid i X c.args.toList c.argTypes.toList
  | .builtin .len => lenF P X c.args.toList c.argTypes.toList
  | .builtin .min => mmF false X c.args.toList
  | .builtin .max => mmF true X c.args.toList
  | _ => none

/-- One operation: its record, and what must hold for it. -/
def stepF (P : Program) (rid i : Nat) (X : St) (o : Oper) : Option (Rec × Prop) :=
  match o.op with
  | .move x => some ({ val := ev X x }, True)
  | .assign x => some ({ val := ev X x }, True)
  | .pick c x y => match ev X c with
    | .t (.v (.bool b)) => some ({ val := if b then ev X x else ev X y }, True)
    | _ => none
  | .alloc t => match zeroD P t with
    | some ds => some ({ val := .ptr (.r rid i 0) 0, F := [.r rid i 0], upd := [(.r rid i 0, some ⟨ds, t, false, true⟩)] }, X.hp (.r rid i 0) = none)
    | none => none
  | .box t x => match (ev X x).cells with
    | some ds => some ({ val := .ptr (.r rid i 0) 0, F := [.r rid i 0], upd := [(.r rid i 0, some ⟨ds, t, false, true⟩)] }, X.hp (.r rid i 0) = none)
    | none => none
  | .build t ps => match zeroD P t with
    | some zs => match fillD (placeOf P t) zs (ps.toList.map fun p => (p.1, ev X p.2)) with
      | some ds => some ({ val := .agg ds }, placesOk P t = true)
      | none => none
    | none => none
  | .load t x => match ev X x with
    | .ptr m off => match X.hp m with
      | some ob => if isAggB P t then some ({ val := .agg ((ob.cells.drop off).take (P.cellsOf t)), F := [m] }, off + P.cellsOf t ≤ ob.cells.length ∧ (P.underlying t).isSome = true ∧ (P.info? t).isSome = true)
          else some ({ val := ob.cells.getD off .bad, F := [m] }, off < ob.cells.length ∧ P.cellsOf t = 1 ∧ (P.underlying t).isSome = true ∧ (P.info? t).isSome = true)
      | none => none
    | .rop cs => if isAggB P t then some ({ val := .agg ((cs.take (P.cellsOf t)).map .t) }, P.cellsOf t ≤ cs.length ∧ 0 < P.cellsOf t ∧ (P.underlying t).isSome = true ∧ (P.info? t).isSome = true)
        else some ({ val := (cs.map D.t).headD .bad }, 0 < cs.length ∧ P.cellsOf t = 1 ∧ (P.underlying t).isSome = true ∧ (P.info? t).isSome = true)
    | _ => none
  | .store t x y => match ev X x with
    | .ptr m off => match X.hp m, (ev X y).cells with
      | some ob, some ds => some ({ val := .bad, F := [m], upd := [(m, some { ob with cells := setAt ob.cells off ds })] }, ob.own = true ∧ (P.info? t).isSome = true ∧ P.cellsOf t = ds.length ∧ off + ds.length ≤ ob.cells.length)
      | _, _ => none
    | _ => none
  | .fieldAddr s x f => match fieldOf P s f with
    | some (fo, n, ty) => match ev X x with
      | .ptr m off => some ({ val := .ptr m (off + fo) }, 0 < n ∧ (P.info? ty).isSome = true)
      | .rop cs => some ({ val := .rop (cs.drop fo) }, 0 < n ∧ (P.info? ty).isSome = true)
      | _ => none
    | none => none
  | .field s x f => match fieldOf P s f, ev X x with
    | some (fo, n, ty), .agg ds => some ({ val := D.ofCells (isAggB P ty) ((ds.drop fo).take n) }, fo + n ≤ ds.length ∧ (P.underlying ty).isSome = true ∧ (P.info? ty).isSome = true ∧ (isAggB P ty = false → n = 1))
    | _, _ => none
  | .indexAddr t x y => match ev X x, ev X y with
    | .ptr m off, .t (.v (.int k j)) => some ({ val := .ptr m (off + j.toNat * P.cellsOf (P.elem t)) }, 0 ≤ j ∧ j < P.arrayLen t ∧ P.underlying t = some (.array (P.arrayLen t) (P.elem t)) ∧ (P.info? (P.elem t)).isSome = true)
    | .msl m off n sz, .t (.v (.int k j)) => some ({ val := .ptr m (off + j.toNat * sz) }, 0 ≤ j ∧ j < n ∧ P.cellsOf (P.elem t) = sz ∧ P.underlying t = some (.slice (P.elem t)) ∧ (P.info? (P.elem t)).isSome = true)
    | .t (.sl n cs), .t (.v (.int k j)) => some ({ val := .rop (cs.drop (j.toNat * P.cellsOf (P.elem t))) }, 0 ≤ j ∧ j < n ∧ 0 < cs.length ∧ P.underlying t = some (.slice (P.elem t)) ∧ (P.info? (P.elem t)).isSome = true)
    | _, _ => none
  | .index t x y => match ev X x, ev X y with
    | .t (.v (.string s)), .t (.v (.int k j)) => some ({ val := .t (.v (.int .u8 (s.data.toList.getD j.toNat 0).toNat)) }, 0 ≤ j ∧ j < s.data.toList.length ∧ P.underlying t = some .string)
    | .agg ds, .t (.v (.int k j)) => some ({ val := D.ofCells (isAggB P (P.elem t)) ((ds.drop (j.toNat * P.cellsOf (P.elem t))).take (P.cellsOf (P.elem t))) }, 0 ≤ j ∧ j < P.arrayLen t ∧ P.underlying t = some (.array (P.arrayLen t) (P.elem t)) ∧ (P.underlying (P.elem t)).isSome = true ∧ (P.info? (P.elem t)).isSome = true ∧
        j.toNat * P.cellsOf (P.elem t) + P.cellsOf (P.elem t) ≤ ds.length ∧ (isAggB P (P.elem t) = false → P.cellsOf (P.elem t) = 1))
    | _, _ => none
  | .slice t x lo hi none => match ev X x with
    | .t (.v (.string s)) => match bound X 0 lo, bound X s.data.toList.length hi with
      | some l, some r => some ({ val := .t (.v (.string (S ((s.data.toList.take r).drop l)))) }, l ≤ r ∧ r ≤ s.data.toList.length ∧ P.underlying t = some .string)
      | _, _ => none
    | .msl m off n sz => match bound X 0 lo, bound X n hi with
      | some l, some r => some ({ val := .msl m (off + l * sz) (r - l) sz }, l ≤ r ∧ r ≤ n ∧ P.cellsOf (P.elem t) = sz ∧ P.underlying t = some (.slice (P.elem t)) ∧ (P.info? (P.elem t)).isSome = true)
      | _, _ => none
    | .t (.sl n cs) => match bound X 0 lo, bound X n hi with
      | some l, some r => some ({ val := .t (.sl (r - l) ((cs.drop (l * P.cellsOf (P.elem t))).take ((r - l) * P.cellsOf (P.elem t)))) }, l ≤ r ∧ r ≤ n ∧ cs.length = n * P.cellsOf (P.elem t) ∧ P.underlying t = some (.slice (P.elem t)) ∧ (P.info? (P.elem t)).isSome = true)
      | _, _ => none
    | _ => none
  | .extract x j => match ev X x with
    | .tup ds => match ds[j]? with
      | some d => some ({ val := d }, True)
      | none => none
    | _ => none
  | .makeInterface t x => some ({ val := mkIfc t (ev X x) }, concreteB P t = true)
  | .makeFunc (.func f) first caps => if first.isEmpty then some ({ val := .fn f (caps.toList.map (ev X)) }, True) else none
  | .nilCheck x => match ev X x with
    | .ptr m off => some ({ val := .ptr m off }, True)
    | .rop cs => some ({ val := .rop cs }, True)
    | .fn f caps => some ({ val := .fn f caps }, True)
    | _ => none
  | .binOp op t x y u => match ev X x, ev X y with
    | .t (.v a), .t (.v b) => match binV P t op a b with
      | some (v, c) => some ({ val := .t (.v v) }, c ∧ ¬ (a = .nilIface ∧ b = .nilIface))
      | none => none
    | .t (.sl n (d :: ds)), .t (.v (.slice none 0 0)) => match op, y with
      | .eql, .const (.slice none 0 0) => some ({ val := .t (.v (.bool false)) }, P.underlying t = some (.slice (P.elem t)))
      | .neq, .const (.slice none 0 0) => some ({ val := .t (.v (.bool true)) }, P.underlying t = some (.slice (P.elem t)))
      | _, _ => none
    | _, _ => none
  | .unOp op t x => match ev X x with
    | .t (.v a) => match unV op a with
      | some v => some ({ val := .t (.v v) }, True)
      | none => none
    | _ => none
  | .convert s d x => match ev X x with
    | .t (.v (.int k n)) => match P.underlying d with
      | some (.int k') => some ({ val := .t (.v (.int k' (k'.wrap n))) }, (P.underlying s).isSome = true)
      | _ => none
    | .t (.v (.string b)) => match P.underlying d with
      | some .string => some ({ val := .t (.v (.string b)) }, P.underlying s = some .string)
      | some (.slice e) => some ({ val := .msl (.r rid i 0) 0 b.data.toList.length 1, F := [.r rid i 0], upd := [(.r rid i 0, some ⟨bytesD b.data.toList, e, true, true⟩)] }, P.underlying s = some .string ∧ P.underlying e = some (.int .u8) ∧ X.hp (.r rid i 0) = none ∧ b.data.toList.length ≤ maxLen)
      | _ => none
    | _ => none
  | .buildSlice t n ps => match zeroD P (P.elem t) with
    | some zs => match fillD (fun j => some (j * P.cellsOf (P.elem t), P.cellsOf (P.elem t))) (zerosOf zs n) (ps.toList.map fun p => (p.1, ev X p.2)) with
      | some ds => some ({ val := .msl (.r rid i 0) 0 n (P.cellsOf (P.elem t)), F := [.r rid i 0], upd := [(.r rid i 0, some ⟨ds, P.elem t, true, true⟩)] },
          P.underlying t = some (.slice (P.elem t)) ∧ elemOk P (P.elem t) = true ∧ zs.length = P.cellsOf (P.elem t) ∧ X.hp (.r rid i 0) = none ∧ n * P.cellsOf (P.elem t) ≤ 16777216 ∧ n ≤ maxLen)
      | none => none
    | none => none
  | .makeSlice t x y => match ev X x, ev X y, zeroD P (P.elem t) with
    | .t (.v (.int k n)), .t (.v (.int k' n')), some zs => some ({ val := .msl (.r rid i 0) 0 n.toNat (P.cellsOf (P.elem t)), F := [.r rid i 0], upd := [(.r rid i 0, some ⟨zerosOf zs n.toNat, P.elem t, true, true⟩)] },
          P.underlying t = some (.slice (P.elem t)) ∧ elemOk P (P.elem t) = true ∧ zs.length = P.cellsOf (P.elem t) ∧ X.hp (.r rid i 0) = none ∧ n' = n ∧ 0 ≤ n ∧ n ≤ 9223372036854775807 ∧ (bytesOf P (P.elem t) : Int) * n ≤ 281474976710656)
    | _, _, _ => none
  | .call c => callF P rid i X c
  | _ => none

section
variable {Γ : Gl} {P : Program} {o : Oper} {X : St}

theorem ofCells_one {cs : List D} {off : Nat} (h : off < cs.length) : D.ofCells false ((cs.drop off).take 1) = cs.getD off .bad := by
  simp only [D.ofCells, Bool.false_eq_true, if_false, List.getD_eq_getElem?_getD, List.getElem?_eq_getElem h, Option.getD_some]
  rw [List.drop_eq_getElem_cons h]
  rfl

theorem stepF_sound {rid i : Nat} {r : Rec} {c : Prop} (h : stepF P rid i X o = some (r, c)) (hc : c) : OpSpec Γ P o X r ∧ Tidy r := by
  unfold stepF at h
  split at h
  · rename_i x ho; cases h; exact ⟨spec_move x (.inl ho), fun _ => rfl⟩
  · rename_i x ho; cases h; exact ⟨spec_move x (.inr ho), fun _ => rfl⟩
  · rename_i c' x y ho
    split at h
    · rename_i b hb; cases h; exact ⟨spec_pick c' x y ho b hb, fun _ => rfl⟩
    · cases h
  · rename_i t ho
    split at h
    · rename_i ds hds; cases h; exact ⟨spec_alloc t ho rid i 0 hc hds, fun _ => rfl⟩
    · cases h
  · rename_i t x ho
    split at h
    · rename_i ds hds; cases h; exact ⟨spec_box t x ho rid i 0 hc hds, fun _ => rfl⟩
    · cases h
  · rename_i t ps ho
    split at h
    · rename_i zs hzs
      split at h
      · rename_i ds hds; cases h; exact ⟨spec_build t ps ho hzs hc hds, fun _ => rfl⟩
      · cases h
    · cases h
  · rename_i t x ho
    split at h
    · rename_i m off hx
      split at h
      · rename_i ob hm
        split at h
        · rename_i hb
          cases h
          refine ⟨?_, fun _ => rfl⟩
          have := spec_load_ptr (Γ := Γ) (P := P) t x ho hx hm hc.2.1 hc.2.2 hc.1 (by rw [hb]; intro h; cases h)
          rw [hb] at this
          exact this
        · rename_i hb
          cases h
          refine ⟨?_, fun _ => rfl⟩
          have hb : isAggB P t = false := by simpa using hb
          have := spec_load_ptr (Γ := Γ) (P := P) t x ho hx hm hc.2.2.1 hc.2.2.2 (by rw [hc.2.1]; exact hc.1) (fun _ => hc.2.1)
          rw [hb, hc.2.1, ofCells_one hc.1] at this
          exact this
      · cases h
    · rename_i cs hx
      split at h
      · rename_i hb
        cases h
        refine ⟨?_, fun _ => rfl⟩
        have := spec_load_rop (Γ := Γ) (P := P) t x ho hx hc.2.2.1 hc.2.2.2 hc.1 hc.2.1 (by rw [hb]; intro h; cases h)
        rw [hb] at this
        simpa [D.ofCells, List.map_take] using this
      · rename_i hb
        cases h
        refine ⟨?_, fun _ => rfl⟩
        have hb : isAggB P t = false := by simpa using hb
        have := spec_load_rop (Γ := Γ) (P := P) t x ho hx hc.2.2.1 hc.2.2.2 (by rw [hc.2.1]; exact hc.1) (by rw [hc.2.1]; exact Nat.one_pos) (fun _ => hc.2.1)
        rw [hb, hc.2.1] at this
        cases cs with
        | nil => simp at hc
        | cons c cs => simpa [D.ofCells] using this
    · cases h
  · rename_i t x y ho
    split at h
    · rename_i m off hx
      split at h
      · rename_i ob ds hm hy
        cases h
        exact ⟨spec_store t x y ho hx hm hc.1 hy hc.2.1 hc.2.2.1 hc.2.2.2, fun _ => rfl⟩
      · cases h
    · cases h
  · rename_i s x f ho
    split at h
    · rename_i fo n ty hf
      split at h
      · rename_i m off hx; cases h; exact ⟨spec_fieldAddr_ptr s x f ho hx hf hc.1 hc.2, fun _ => rfl⟩
      · rename_i cs hx; cases h; exact ⟨spec_fieldAddr_rop s x f ho hx hf hc.1 hc.2, fun _ => rfl⟩
      · cases h
    · cases h
  · rename_i s x f ho
    split at h
    · rename_i fo n ty ds hf hx; cases h; exact ⟨spec_field s x f ho hx hf hc.2.1 hc.2.2.1 hc.1 hc.2.2.2, fun _ => rfl⟩
    · cases h
  · rename_i t x y ho
    split at h
    · rename_i m off k j hx hy; cases h; exact ⟨spec_index_arr t x y ho hc.2.2.1 hc.2.2.2 hx hy hc.1 hc.2.1, fun _ => rfl⟩
    · rename_i m off n sz k j hx hy; cases h; exact ⟨spec_index_msl t x y ho hc.2.2.2.1 hc.2.2.2.2 hx hc.2.2.1 hy hc.1 hc.2.1, fun _ => rfl⟩
    · rename_i n cs k j hx hy; cases h; exact ⟨spec_index_sl t x y ho hc.2.2.2.1 hc.2.2.2.2 hx hy hc.1 hc.2.1 hc.2.2.1, fun _ => rfl⟩
    · cases h
  · rename_i t x y ho
    split at h
    · rename_i s k j hx hy; cases h; exact ⟨spec_index_str t x y ho hc.2.2 hx hy hc.1 hc.2.1, fun _ => rfl⟩
    · rename_i ds k j hx hy; cases h; exact ⟨spec_index_val t x y ho hc.2.2.1 hc.2.2.2.1 hc.2.2.2.2.1 hx hy hc.1 hc.2.1 hc.2.2.2.2.2.1 hc.2.2.2.2.2.2, fun _ => rfl⟩
    · cases h
  · rename_i t x lo hi ho
    split at h
    · rename_i s hx
      split at h
      · rename_i l r' h1 h2; cases h; exact ⟨spec_slice_str t x lo hi ho hc.2.2 hx h2 h1 hc.1 hc.2.1, fun _ => rfl⟩
      · cases h
    · rename_i m off n sz hx
      split at h
      · rename_i l r' h1 h2; cases h; exact ⟨spec_slice_msl t x lo hi ho hc.2.2.2.1 hc.2.2.2.2 hx hc.2.2.1 h2 h1 hc.1 hc.2.1, fun _ => rfl⟩
      · cases h
    · rename_i n cs hx
      split at h
      · rename_i l r' h1 h2; cases h; exact ⟨spec_slice_sl t x lo hi ho hc.2.2.2.1 hc.2.2.2.2 hx h2 h1 hc.1 hc.2.1 hc.2.2.1, fun _ => rfl⟩
      · cases h
    · cases h
  · rename_i x j ho
    split at h
    · rename_i ds hx
      split at h
      · rename_i d hd; cases h; exact ⟨spec_extract x j ho hx d hd, fun _ => rfl⟩
      · cases h
    · cases h
  · rename_i t x ho; cases h; exact ⟨spec_makeInterface t x ho hc, fun _ => rfl⟩
  · rename_i f first caps ho
    split at h
    · rename_i hf
      cases h
      have : first = #[] := by simpa using hf
      subst this
      exact ⟨spec_makeFunc f caps ho, fun _ => rfl⟩
    · cases h
  · rename_i x ho
    split at h
    · rename_i m off hx
      cases h
      have := spec_nilCheck (Γ := Γ) (P := P) (X := X) x ho (.inl ⟨m, off, hx⟩)
      rw [hx] at this
      exact ⟨this, fun _ => rfl⟩
    · rename_i cs hx
      cases h
      have := spec_nilCheck (Γ := Γ) (P := P) (X := X) x ho (.inr (.inl ⟨cs, hx⟩))
      rw [hx] at this
      exact ⟨this, fun _ => rfl⟩
    · rename_i f caps hx
      cases h
      have := spec_nilCheck (Γ := Γ) (P := P) (X := X) x ho (.inr (.inr ⟨f, caps, hx⟩))
      rw [hx] at this
      exact ⟨this, fun _ => rfl⟩
    · cases h
  · rename_i op t x y u ho
    split at h
    · rename_i a b hx hy
      split at h
      · rename_i v c' hv; cases h; exact ⟨spec_bin op t u x y ho hx hy hv hc.1 hc.2, fun _ => rfl⟩
      · cases h
    · rename_i n d ds hx hy
      split at h
      · cases h; exact ⟨spec_slNil t u x false ho hx hc, fun _ => rfl⟩
      · cases h; exact ⟨spec_slNil t u x true ho hx hc, fun _ => rfl⟩
      · cases h
    · cases h
  · rename_i op t x ho
    split at h
    · rename_i a hx
      split at h
      · rename_i v hv; cases h; exact ⟨spec_un op t x ho hx hv, fun _ => rfl⟩
      · cases h
    · cases h
  · rename_i s d x ho
    split at h
    · rename_i k n hx
      split at h
      · rename_i k' hd; cases h; exact ⟨spec_conv_int s d x ho hx hc hd, fun _ => rfl⟩
      · cases h
    · rename_i b hx
      split at h
      · rename_i hd; cases h; exact ⟨spec_conv_str s d x ho hx hc hd, fun _ => rfl⟩
      · rename_i e hd; cases h; exact ⟨spec_conv_bytes s d x ho hx hc.1 hd hc.2.1 rid i hc.2.2.1 hc.2.2.2, fun _ => rfl⟩
      · cases h
    · cases h
  · rename_i t n ps ho
    split at h
    · rename_i zs hz
      split at h
      · rename_i ds hf
        cases h
        obtain ⟨h1, h2, h3, h4, h5, h6⟩ := hc
        obtain ⟨inf, z, hi, _, _, hs, _⟩ := elemOk_spec h2
        exact ⟨spec_buildSlice t n ps ho h1 hi hz h3 hs rid i h4 h5 hf h6, fun _ => rfl⟩
      · cases h
    · cases h
  · rename_i t x y ho
    split at h
    · rename_i k n k' n' zs hx hy hz
      cases h
      obtain ⟨h1, h2, h3, h4, rfl, h6, h7, h8⟩ := hc
      obtain ⟨inf, z, hi, _, _, hs, hb⟩ := elemOk_spec h2
      rw [← hb] at h8
      exact ⟨spec_makeSlice t x y ho h1 hi hz h3 hs rid i h4 hx hy h6 h7 h8, fun _ => rfl⟩
    · cases h
  · rename_i cl ho
    obtain ⟨callee, args, tys⟩ := cl
    have la : ∀ {α : Type} (l : List α) (x : Array α), x.toList = l → x = l.toArray := fun l x h => by rw [← h]
    unfold callF at h
    simp only at h
    split at h
    · unfold appF at h
      split at h
      · rename_i s x t u h1 h2
        have h1 := la _ _ h1
        have h2 := la _ _ h2
        subst h1
        subst h2
        split at h
        · rename_i m n sz k nd F c' hs hsrc
          split at h
          · rename_i ob hm
            cases h
            obtain ⟨h1, rfl, h3, h4, h5, h6, h7, h8, h9, h10, h11, h12⟩ := hc
            obtain ⟨inf, z, hi, hz, hzs, hsz, hb⟩ := elemOk_spec h12
            refine ⟨spec_append s x t u ho h11 hi hz hzs hsz hs hm h3 h4 h5 h6 (srcF_sound hsrc h1) h7 h8 h9 (by rw [hb]; exact h10), fun e => by cases e⟩
          · cases h
        · rename_i k nd F c' hs hsrc
          cases h
          obtain ⟨h1, h2, h3, h4, h5, h6⟩ := hc
          obtain ⟨inf, z, hi, hz, hzs, hsz, hb⟩ := elemOk_spec h6
          refine ⟨spec_append_nil s x t u ho h5 hi hz hzs hsz hs rid i 0 h2 (srcF_sound hsrc h1) h3 (by rw [hb]; exact h4), fun _ => rfl⟩
        · cases h
      · cases h
    · unfold lenF at h
      split at h
      · rename_i x t h1 h2
        have h1 := la _ _ h1
        have h2 := la _ _ h2
        subst h1
        subst h2
        split at h
        · rename_i s hx; cases h; exact ⟨spec_len_str x t ho hc hx, fun _ => rfl⟩
        · rename_i n cs hx; cases h; exact ⟨spec_len x t ho hc (.inl ⟨cs, hx⟩), fun _ => rfl⟩
        · rename_i m off n sz hx; cases h; exact ⟨spec_len x t ho hc (.inr ⟨m, off, sz, hx⟩), fun _ => rfl⟩
        · rename_i A n c hx; cases h; exact ⟨spec_len_nil x t ho hc hx, fun _ => rfl⟩
        · cases h
      · cases h
    · unfold mmF at h
      split at h
      · rename_i x y h1
        have h1 := la _ _ h1
        subst h1
        split at h
        · rename_i k a k' b hx hy; cases h; exact ⟨spec_minmax false x y tys ho hx hy, fun _ => rfl⟩
        · cases h
      · cases h
    · unfold mmF at h
      split at h
      · rename_i x y h1
        have h1 := la _ _ h1
        subst h1
        split at h
        · rename_i k a k' b hx hy; cases h; exact ⟨spec_minmax true x y tys ho hx hy, fun _ => rfl⟩
        · cases h
      · cases h
    · cases h
  · cases h
end

/-! ### the walk -/
def wpS (Γ : Gl) (P : Program) (ops : Array Oper) (rid : Nat) : Nat → List Oper → St → List Meta → (St → List Meta → Prop) → Prop
  | _, [], X, acc, K => K X acc
  | i, o :: os, X, acc, K =>
    match o.guard with
    | none => match stepF P rid i X o with
      | some (r, c) => c ∧ wpS Γ P ops rid (i + 1) os (X.app o.dst r) (acc ++ [r.info]) K
      | none => ∃ r, OpSpec Γ P o X r ∧ Tidy r ∧ wpS Γ P ops rid (i + 1) os (X.app o.dst r) (acc ++ [r.info]) K
    | some (g, want) => ∃ b, wantIs (gslot ops X g) want = some b ∧ (b = true → match stepF P rid i X o with
          | some (r, c) => c ∧ wpS Γ P ops rid (i + 1) os (X.app o.dst r) (acc ++ [r.info]) K
          | none => ∃ r, OpSpec Γ P o X r ∧ Tidy r ∧ wpS Γ P ops rid (i + 1) os (X.app o.dst r) (acc ++ [r.info]) K) ∧
        (b = false → wpS Γ P ops rid (i + 1) os (X.app o.dst { val := udf }) (acc ++ [⟨[], [], false⟩]) K)

def wpK (Γ : Gl) (P : Program) : Code → (Exit → St → Prop) → St → Prop
  | .skip, Q, X => Q .normal X
  | .region id ops draw, Q, X => wpS Γ P ops id 0 ops.toList X [] fun Z ms => (draw = true → regOk ops ms = true) ∧ Q .normal Z
  | .seq a b, Q, X => wpK Γ P a (fun e Z => match e with | .normal => ∃ Z', Le Γ Z Z' ∧ wpK Γ P b Q Z' | e => Q e Z) X
  | .cond c x y, Q, X => ∃ b, ev X c = .t (.v (.bool b)) ∧ (b = true → wpK Γ P x Q X) ∧ (b = false → wpK Γ P y Q X)
  | .block id c, Q, X => wpK Γ P c (fun e Z => match e with | .exit id' => if id' = id then Q .normal Z else Q (.exit id') Z | e => Q e Z) X
  | .loop c, Q, X => ∃ (I : St → Prop) (μ : St → Nat), (∃ X', Le Γ X X' ∧ I X') ∧ ∀ Y, I Y → wpK Γ P c (fun e Z => match e with | .normal => ∃ Z', Le Γ Z Z' ∧ I Z' ∧ μ Z' < μ Y | e => Q e Z) Y
  | .exit id, Q, X => Q (.exit id) X
  | .label _, Q, X => Q .normal X
  | .goto l, Q, X => Q (.goto l) X
  | .ret, Q, X => Q .ret X
  | _, _, _ => False

theorem wpS_R {Γ : Gl} {P : Program} {ops : Array Oper} {rid : Nat} {K : St → List Meta → Prop} : ∀ (os : List Oper) (i : Nat) (X : St) (acc : List Meta), wpS Γ P ops rid i os X acc K → wpR Γ P ops os X acc K
  | [], i, X, acc, h => h
  | o :: os, i, X, acc, h => by
    have run : (match stepF P rid i X o with
      | some (r, c) => c ∧ wpS Γ P ops rid (i + 1) os (X.app o.dst r) (acc ++ [r.info]) K
      | none => ∃ r, OpSpec Γ P o X r ∧ Tidy r ∧ wpS Γ P ops rid (i + 1) os (X.app o.dst r) (acc ++ [r.info]) K) → ∃ r, OpSpec Γ P o X r ∧ Tidy r ∧ wpR Γ P ops os (X.app o.dst r) (acc ++ [r.info]) K := by
      intro h
      split at h
      · rename_i r c hr
        obtain ⟨h1, h2⟩ := stepF_sound (Γ := Γ) hr h.1
        exact ⟨r, h1, h2, wpS_R os (i + 1) _ _ h.2⟩
      · obtain ⟨r, h1, h2, h3⟩ := h
        exact ⟨r, h1, h2, wpS_R os (i + 1) _ _ h3⟩
    unfold wpR
    unfold wpS at h
    cases hg : o.guard with
    | none =>
      rw [hg] at h
      exact run h
    | some gw =>
      obtain ⟨g, want⟩ := gw
      rw [hg] at h
      obtain ⟨b, h1, h2, h3⟩ := h
      exact ⟨b, h1, fun e => run (h2 e), fun e => wpS_R os (i + 1) _ _ (h3 e)⟩

theorem wpR_mono {Γ : Gl} {P : Program} {ops : Array Oper} {K K' : St → List Meta → Prop} (hK : ∀ Z ms, K Z ms → K' Z ms) : ∀ (os : List Oper) (X : St) (acc : List Meta), wpR Γ P ops os X acc K → wpR Γ P ops os X acc K'
  | [], X, acc, h => hK _ _ h
  | o :: os, X, acc, h => by
    unfold wpR at h ⊢
    split at h
    · obtain ⟨r, h1, h2, h3⟩ := h
      exact ⟨r, h1, h2, wpR_mono hK os _ _ h3⟩
    · obtain ⟨b, h1, h2, h3⟩ := h
      refine ⟨b, h1, fun e => ?_, fun e => wpR_mono hK os _ _ (h3 e)⟩
      obtain ⟨r, h4, h5, h6⟩ := h2 e
      exact ⟨r, h4, h5, wpR_mono hK os _ _ h6⟩

theorem wpC_mono {Γ : Gl} {P : Program} : ∀ (c : Code) {Q Q' : Exit → St → Prop}, (∀ e Z, Q e Z → Q' e Z) → ∀ X, wpC Γ P c Q X → wpC Γ P c Q' X
  | .skip, _, _, hQ, X, h => hQ _ _ h
  | .region id ops draw, _, _, hQ, X, h => wpR_mono (fun Z ms h => ⟨h.1, hQ _ _ h.2⟩) _ _ _ h
  | .seq a b, Q, Q', hQ, X, h => wpC_mono a (fun e Z h => by
      cases e with
      | normal => exact ⟨_, h.choose_spec.1, wpC_mono b hQ _ h.choose_spec.2⟩
      | exit id => exact hQ _ _ h
      | goto l => exact hQ _ _ h
      | ret => exact hQ _ _ h
      | panic ch => exact hQ _ _ h
      | outgrown => exact hQ _ _ h) X h
  | .cond c x y, _, _, hQ, X, ⟨b, h1, h2, h3⟩ => ⟨b, h1, fun e => wpC_mono x hQ X (h2 e), fun e => wpC_mono y hQ X (h3 e)⟩
  | .block id c, Q, Q', hQ, X, h => wpC_mono c (fun e Z h => by
      cases e with
      | exit id' =>
        simp only at h ⊢
        split
        · rename_i e; rw [if_pos e] at h; exact hQ _ _ h
        · rename_i e; rw [if_neg e] at h; exact hQ _ _ h
      | normal => exact hQ _ _ h
      | goto l => exact hQ _ _ h
      | ret => exact hQ _ _ h
      | panic ch => exact hQ _ _ h
      | outgrown => exact hQ _ _ h) X h
  | .loop c, Q, Q', hQ, X, ⟨I, μ, h1, h2⟩ => ⟨I, μ, h1, fun Y hI => wpC_mono c (fun e Z h => by
      cases e with
      | normal => exact h
      | exit id => exact hQ _ _ h
      | goto l => exact hQ _ _ h
      | ret => exact hQ _ _ h
      | panic ch => exact hQ _ _ h
      | outgrown => exact hQ _ _ h) Y (h2 Y hI)⟩
  | .exit id, _, _, hQ, X, h => hQ _ _ h
  | .label l, _, _, hQ, X, h => hQ _ _ h
  | .goto l, _, _, hQ, X, h => hQ _ _ h
  | .ret, _, _, hQ, X, h => hQ _ _ h
  | .scope c, _, _, hQ, X, h => h.elim
  | .rangeFunc f ps as b, _, _, hQ, X, h => h.elim
  | .refuse why, _, _, hQ, X, h => h.elim

theorem wpK_C {Γ : Gl} {P : Program} : ∀ (c : Code) {Q : Exit → St → Prop} (X : St), wpK Γ P c Q X → wpC Γ P c Q X
  | .skip, _, X, h => h
  | .region id ops draw, _, X, h => wpS_R _ _ _ _ h
  | .seq a b, Q, X, h => wpC_mono a (fun e Z h => by
      cases e with
      | normal => exact ⟨_, h.choose_spec.1, wpK_C b _ h.choose_spec.2⟩
      | exit id => exact h
      | goto l => exact h
      | ret => exact h
      | panic ch => exact h
      | outgrown => exact h) X (wpK_C a X h)
  | .cond c x y, _, X, ⟨b, h1, h2, h3⟩ => ⟨b, h1, fun e => wpK_C x X (h2 e), fun e => wpK_C y X (h3 e)⟩
  | .block id c, Q, X, h => wpK_C c X h
  | .loop c, Q, X, ⟨I, μ, h1, h2⟩ => ⟨I, μ, h1, fun Y hI => wpK_C c Y (h2 Y hI)⟩
  | .exit id, _, X, h => h
  | .label l, _, X, h => h
  | .goto l, _, X, h => h
  | .ret, _, X, h => h
  | .scope c, _, X, h => h.elim
  | .rangeFunc f ps as b, _, X, h => h.elim
  | .refuse why, _, X, h => h.elim

theorem good_of_body {Γ : Gl} {P : Program} (hmix : P.follows .mixedOrders = true) {f : FuncId} {fn : Func} {c : Code} (hf : P.funcs[f]? = some fn) (hb : fn.body = some c) {args : List D} {ps : List Ob} {r : D} {ps' : List (Option Ob)} {ns : List Ob}
    (h : wpK Γ P c (fun e Z => (e = .normal ∨ e = .ret) ∧ RetOk P fn Z r ps' ns) { sl := args ++ List.replicate (fn.ntmps - args.length) .bad, hp := HpOf ps }) : Good Γ P f args ps r ps' ns :=
  good_of_wp hmix hf hb (wpK_C c _ h)
end Go.Ot
