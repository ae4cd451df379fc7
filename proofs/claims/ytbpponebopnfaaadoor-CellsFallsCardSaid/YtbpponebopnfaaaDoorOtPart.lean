/- Addresses and parts. -/
import Derived.Test.YtbpponebopnfaaaDoorOtNew
set_option linter.unusedVariables false
set_option linter.unusedSimpArgs false
namespace Go.Ot
section
variable {Γ : Gl} {P : Program} {o : Oper} {X : St}

theorem cell_add {w : World} {a : Addr} {k j : Nat} : w.cell? ((a.add k).add j) = w.cell? (a.add (k + j)) ∨ k + j = k ∧ True := by
  by_cases hj : j = 0
  · exact .inr ⟨by omega, trivial⟩
  · left
    unfold Addr.add
    by_cases hk : k = 0
    · simp [hk, hj]
    · have : k + j ≠ 0 := by omega
      simp [hk, hj, Nat.add_assoc]
theorem add_add' (a : Addr) (k j : Nat) : (a.add k).add j = a.add (k + j) := by
  unfold Addr.add
  by_cases hk : k = 0
  · simp [hk]
  · by_cases hj : j = 0
    · simp [hk, hj]
    · have : k + j ≠ 0 := by omega
      simp [hk, hj, Nat.add_assoc]
theorem RepTAt.drop {w : World} {M : Nat → Prop} {a : Addr} {cs : List T} (h : RepTAt w M a 0 cs) (k : Nat) : RepTAt w M (a.add k) 0 (cs.drop k) :=
  RepTAt.of_get (fun i d hd => by
    rw [List.getElem?_drop] at hd
    have := h.get hd
    rw [Nat.zero_add] at this
    rwa [add_add', Nat.zero_add])
theorem RepTAt.take {w : World} {M : Nat → Prop} {a : Addr} {cs : List T} (h : RepTAt w M a 0 cs) (k : Nat) : RepTAt w M a 0 (cs.take k) :=
  RepTAt.of_get (fun i d hd => by
    rw [List.getElem?_take] at hd
    split at hd
    · exact h.get hd
    · cases hd)

/-- Where a field begins, and how many cells it has. -/
def fieldOf (P : Program) (s f : Nat) : Option (Nat × Nat × TypeId) :=
  match P.underlying s with
  | some (.struct fs) => (fs[f]?).map fun fd => (fd.offset, P.cellsOf fd.type, fd.type)
  | _ => none

theorem run_fieldAt {s f off n ty : Nat} (h : fieldOf P s f = some (off, n, ty)) (hn : 0 < n) (hi : (P.info? ty).isSome = true) (a : Addr) (w : World) : (Instr.fieldAt s (.pointer (some a)) f).run P w = .ok (.pointer (some (a.add off))) w := by
  unfold fieldOf at h
  split at h
  · rename_i fs hfs
    simp only [Option.map_eq_some_iff, Prod.mk.injEq] at h
    obtain ⟨fd, hfd, rfl, rfl, rfl⟩ := h
    have : ¬ P.cellsOf fd.type = 0 := by omega
    simp [Instr.fieldAt, run_underlying hfs, hfd, Instr.sureAddr, fieldPlace, run_sizeOf hi, this]
  · cases h

theorem spec_fieldAddr_ptr (s : TypeId) (x : Operand) (f : Nat) (h : o.op = .fieldAddr s x f) {m : Nm} {off : Nat} (hx : ev X x = .ptr m off) {fo n ty : Nat} (hf : fieldOf P s f = some (fo, n, ty)) (hn : 0 < n) (hi : (P.info? ty).isSome = true) :
    OpSpec Γ P o X { val := .ptr m (off + fo) } := by
  intro E Y a w η hA hS K Q hK
  have hr := hS.ev x
  rw [hA.2.1 x (by simp [h, Op.operands]), hx] at hr
  obtain ⟨b, sz, hη, he⟩ := hr
  refine wp_val (v := .pointer (some ⟨b, off + fo, none⟩)) (w' := w) (by simp [execOp, h, he, run_fieldAt hf hn hi, add_at]) (hK _ _ η ?_)
  rw [app_val]
  exact hS.put (d := .ptr m (off + fo)) ⟨b, sz, hη, rfl⟩ o.dst

theorem spec_fieldAddr_rop (s : TypeId) (x : Operand) (f : Nat) (h : o.op = .fieldAddr s x f) {cs : List T} (hx : ev X x = .rop cs) {fo n ty : Nat} (hf : fieldOf P s f = some (fo, n, ty)) (hn : 0 < n) (hi : (P.info? ty).isSome = true) :
    OpSpec Γ P o X { val := .rop (cs.drop fo) } := by
  intro E Y a w η hA hS K Q hK
  have hr := hS.ev x
  rw [hA.2.1 x (by simp [h, Op.operands]), hx] at hr
  obtain ⟨ad, he, hR⟩ := hr
  refine wp_val (v := .pointer (some (ad.add fo))) (w' := w) (by simp [execOp, h, he, run_fieldAt hf hn hi]) (hK _ _ η ?_)
  rw [app_val]
  refine hS.put (d := .rop (cs.drop fo)) ⟨_, rfl, ?_⟩ o.dst
  rcases hR with hR | ⟨h1, h2⟩
  · exact .inl (by rw [hR]; simp)
  · exact .inr ⟨by rwa [add_block], h2.drop fo⟩

theorem run_part {t : TypeId} {us : List Value} {off : Nat} (h1 : (P.underlying t).isSome = true) (h2 : (P.info? t).isSome = true) (hl : off + P.cellsOf t ≤ us.length) (hne : isAggB P t = false → P.cellsOf t = 1) (w : World) :
    ∃ u, (isAggB P t = false → ((us.drop off).take (P.cellsOf t))[0]? = some u) ∧ (part t us.toArray off).run P w = .ok (if isAggB P t then .agg ((us.drop off).take (P.cellsOf t)).toArray else u) w := by
  cases hb : isAggB P t with
  | true =>
    refine ⟨undef, (fun h => by cases h), ?_⟩
    simp only [part, Sem.run_bind, run_isAgg h1, hb, Result.andThen_ok, if_true, run_sizeOf h2, Sem.run_pure]
    congr 2
    apply Array.ext'
    simp [List.drop_take]
  | false =>
    have h0 := hne hb
    have hlt : off < us.length := by omega
    refine ⟨us[off], fun _ => ?_, ?_⟩
    · rw [h0, List.getElem?_take, if_pos (by omega), List.getElem?_drop]
      simp [hlt]
    · simp [part, run_isAgg h1, hb, hlt]

theorem spec_field (s : TypeId) (x : Operand) (f : Nat) (h : o.op = .field s x f) {ds : List D} (hx : ev X x = .agg ds) {fo n ty : Nat} (hf : fieldOf P s f = some (fo, n, ty)) (h1 : (P.underlying ty).isSome = true) (h2 : (P.info? ty).isSome = true)
    (hl : fo + n ≤ ds.length) (hne : isAggB P ty = false → n = 1) : OpSpec Γ P o X { val := D.ofCells (isAggB P ty) ((ds.drop fo).take n) } := by
  intro E Y a w η hA hS K Q hK
  have hr := hS.ev x
  rw [hA.2.1 x (by simp [h, Op.operands]), hx] at hr
  obtain ⟨vs, he, hR⟩ := hr
  unfold fieldOf at hf
  split at hf
  · rename_i fs hfs
    simp only [Option.map_eq_some_iff, Prod.mk.injEq] at hf
    obtain ⟨fd, hfd, rfl, rfl, rfl⟩ := hf
    obtain ⟨u, hu, hrun⟩ := run_part (P := P) (t := fd.type) (us := vs.toList) (off := fd.offset) h1 h2 (by rw [hR.length]; exact hl) hne w
    simp only [Array.toArray_toList] at hrun
    refine wp_val (v := if isAggB P fd.type then .agg ((vs.toList.drop fd.offset).take (P.cellsOf fd.type)).toArray else u) (w' := w) (by simp [execOp, h, he, Instr.field, run_underlying hfs, hfd, asAgg, hrun]) (hK _ _ η ?_)
    rw [app_val]
    exact hS.put (((hR.drop fd.offset).take (P.cellsOf fd.type)).ofCells _ hu) o.dst
  · cases hf

theorem spec_extract (x : Operand) (i : Nat) (h : o.op = .extract x i) {ds : List D} (hx : ev X x = .tup ds) (d : D) (hi : ds[i]? = some d) : OpSpec Γ P o X { val := d } := by
  intro E Y a w η hA hS K Q hK
  have hr := hS.ev x
  rw [hA.2.1 x (by simp [h, Op.operands]), hx] at hr
  obtain ⟨vs, he, hR⟩ := hr
  obtain ⟨u, hu, hd⟩ := hR.get hi
  have hu' : vs[i]? = some u := by simpa using hu
  refine wp_val (v := u) (w' := w) (by simp [execOp, h, he, Instr.extract, hu']) (hK _ _ η ?_)
  rw [app_val]
  exact hS.put hd o.dst

mutual
def D.toT : D → Option T
  | .t x => some x
  | .agg ds => (D.toTs ds).map .agg
  | _ => none
def D.toTs : List D → Option (List T)
  | [] => some []
  | d :: ds => match D.toT d, D.toTs ds with
    | some x, some xs => some (x :: xs)
    | _, _ => none
end
mutual
theorem Rep.toT {w : World} {M : Nat → Prop} {η : Et} : ∀ {d : D} {u : Value} {x : T}, Rep w M η d u → d.toT = some x → RepT w M x u
  | .t x, u, y, h, hx => by simp only [D.toT, Option.some.injEq] at hx; subst hx; exact h
  | .agg ds, u, y, h, hx => by
    simp only [D.toT, Option.map_eq_some_iff] at hx
    obtain ⟨ts, hts, rfl⟩ := hx
    obtain ⟨vs, rfl, h1⟩ := h
    exact ⟨vs, rfl, Reps.toTs h1 hts⟩
  | .bad, u, y, h, hx => by simp [D.toT] at hx
  | .tup _, u, y, h, hx => by simp [D.toT] at hx
  | .ifc _ _, u, y, h, hx => by simp [D.toT] at hx
  | .ptr _ _, u, y, h, hx => by simp [D.toT] at hx
  | .rop _, u, y, h, hx => by simp [D.toT] at hx
  | .msl _ _ _ _, u, y, h, hx => by simp [D.toT] at hx
  | .fn _ _, u, y, h, hx => by simp [D.toT] at hx
theorem Reps.toTs {w : World} {M : Nat → Prop} {η : Et} : ∀ {ds : List D} {us : List Value} {xs : List T}, Reps w M η ds us → D.toTs ds = some xs → RepTs w M xs us
  | [], us, xs, h, hx => by
    simp only [D.toTs, Option.some.injEq] at hx
    subst hx
    exact h
  | d :: ds, us, xs, h, hx => by
    simp only [D.toTs] at hx
    split at hx
    · rename_i x xs' h1 h2
      cases hx
      obtain ⟨u, us', hu, h3, h4, h5⟩ := h
      exact ⟨u, us', hu, h3, Rep.toT h4 h1, Reps.toTs h5 h2⟩
    · cases hx
end
/-- An interface value. -/
def mkIfc (t : TypeId) (d : D) : D := match d.toT with | some x => .t (.ifc t x) | none => .ifc t d
theorem Rep_mkIfc {w : World} {M : Nat → Prop} {η : Et} {d : D} {u : Value} (h : Rep w M η d u) (t : TypeId) : Rep w M η (mkIfc t d) (.iface t u) := by
  unfold mkIfc
  split
  · rename_i x hx; exact ⟨u, rfl, Rep.toT h hx⟩
  · exact ⟨u, rfl, h⟩

def concreteB (P : Program) (t : TypeId) : Bool := match P.underlying t with | some (.interface _) => false | some _ => true | none => false
theorem spec_makeInterface (t : TypeId) (x : Operand) (h : o.op = .makeInterface t x) (hc : concreteB P t = true) : OpSpec Γ P o X { val := mkIfc t (ev X x) } := by
  intro E Y a w η hA hS K Q hK
  have hr := hS.ev x
  rw [hA.2.1 x (by simp [h, Op.operands])] at hr
  have hrun : (Instr.makeInterface t (a.eval x)).run P w = .ok (.iface t (a.eval x)) w := by
    unfold concreteB at hc
    cases hu : P.underlying t with
    | none => simp [hu] at hc
    | some d => cases d <;> simp [hu] at hc <;> simp [Instr.makeInterface, run_underlying hu]
  refine wp_val (v := .iface t (a.eval x)) (w' := w) (by simp [execOp, h, hrun]) (hK _ _ η ?_)
  rw [app_val]
  exact hS.put (Rep_mkIfc hr t) o.dst

theorem RepsA.of_ops {w : World} {M : Nat → Prop} {η : Et} {a : Act} (ps : List Operand) (h : ∀ x ∈ ps, Rep w M η (ev X x) (a.eval x)) : RepsA w M η (ps.map (ev X)) (ps.map a.eval) := by
  induction ps with
  | nil => rfl
  | cons p ps ih => exact ⟨_, _, rfl, h _ (by simp), ih (fun x hx => h x (by simp [hx]))⟩
theorem spec_makeFunc (f : FuncId) (caps : Array Operand) (h : o.op = .makeFunc (.func f) #[] caps) : OpSpec Γ P o X { val := .fn f (caps.toList.map (ev X)) } := by
  intro E Y a w η hA hS K Q hK
  have hr : RepsA w (Mx Y.hp η E.A) η (caps.toList.map (ev X)) (caps.toList.map a.eval) := RepsA.of_ops _ (fun x hx => by
    have := hS.ev x
    rwa [hA.2.1 x (by simp [h, Op.operands]; simpa using hx)] at this)
  refine wp_val (v := .func (.func f) #[] (caps.map a.eval)) (w' := w) (by simp [execOp, h, Instr.makeFunc]) (hK _ _ η ?_)
  rw [app_val]
  exact hS.put (d := .fn f _) ⟨_, rfl, by simpa using hr⟩ o.dst

theorem spec_nilCheck (x : Operand) (h : o.op = .nilCheck x) (hx : (∃ m off, ev X x = .ptr m off) ∨ (∃ cs, ev X x = .rop cs) ∨ ∃ f caps, ev X x = .fn f caps) : OpSpec Γ P o X { val := ev X x } := by
  intro E Y a w η hA hS K Q hK
  have hr := hS.ev x
  rw [hA.2.1 x (by simp [h, Op.operands])] at hr
  have hrun : (execOp a.eval o).run P w = .ok (.value (a.eval x)) w := by
    rcases hx with ⟨m, off, hx⟩ | ⟨cs, hx⟩ | ⟨f, caps, hx⟩
    · rw [hx] at hr
      obtain ⟨b, s, _, he⟩ := hr
      simp [execOp, h, he]
    · rw [hx] at hr
      obtain ⟨ad, he, _⟩ := hr
      simp [execOp, h, he]
    · rw [hx] at hr
      obtain ⟨vs, he, _⟩ := hr
      simp [execOp, h, he]
  refine wp_val hrun (hK _ _ η ?_)
  rw [app_val]
  exact hS.put hr o.dst

/-! ### slices -/
theorem spec_len (x : Operand) (t : TypeId) (h : o.op = .call { callee := .builtin .len, args := #[x], argTypes := #[t] }) (ht : P.underlying t = some (.slice (P.elem t))) {n : Nat} (hx : (∃ cs, ev X x = .t (.sl n cs)) ∨ ∃ m off sz, ev X x = .msl m off n sz) :
    OpSpec Γ P o X { val := .t (.v (.int .i64 n)) } := by
  intro E Y a w η hA hS K Q hK
  have hr := hS.ev x
  rw [hA.2.1 x (by simp [h, Op.operands, Call.operands])] at hr
  have he : ∃ A c, a.eval x = .slice A n c := by
    rcases hx with ⟨cs, hx⟩ | ⟨m, off, sz, hx⟩
    · rw [hx] at hr; obtain ⟨A, c, he, _⟩ := hr; exact ⟨A, c, he⟩
    · rw [hx] at hr; obtain ⟨A, c, he, _⟩ := hr; exact ⟨A, c, he⟩
  obtain ⟨A, c, he⟩ := he
  refine wp_val (v := .int .i64 n) (w' := w) (by simp [execOp, h, resolve, invoke, builtin, he, run_len_slice w t o.type A n c ht, goInt]) (hK _ _ η ?_)
  rw [app_val]
  exact hS.put (d := .t (.v _)) (by exact rfl) o.dst

theorem spec_index_msl (t : TypeId) (x i : Operand) (h : o.op = .indexAddr t x i) (ht : P.underlying t = some (.slice (P.elem t))) (h2 : (P.info? (P.elem t)).isSome = true) {m : Nm} {off n sz : Nat} (hx : ev X x = .msl m off n sz) (hsz : P.cellsOf (P.elem t) = sz)
    {k : IntKind} {j : Int} (hi : ev X i = .t (.v (.int k j))) (h0 : 0 ≤ j) (hj : j < n) : OpSpec Γ P o X { val := .ptr m (off + j.toNat * sz) } := by
  intro E Y a w η hA hS K Q hK
  have hr := hS.ev x
  rw [hA.2.1 x (by simp [h, Op.operands]), hx] at hr
  have hri := hS.ev i
  rw [hA.2.1 i (by simp [h, Op.operands]), hi] at hri
  have hei : a.eval i = .int k j := hri
  obtain ⟨A, c, he, hnc, hcm, hR⟩ := hr
  rcases hR with hR | ⟨b, s, hη, rfl, hR⟩
  · omega
  refine wp_val (v := .pointer (some ⟨b, off + j.toNat * sz, none⟩)) (w' := w) (by
    simp only [execOp, h, he, hei, Sem.run_bind, run_indexAt_slice w t _ n c k j ht]
    rw [if_pos ⟨h0, hj⟩]
    simp [run_sizeOf h2, hsz, add_at]) (hK _ _ η ?_)
  rw [app_val]
  exact hS.put (d := .ptr m _) ⟨b, s, hη, rfl⟩ o.dst

theorem spec_index_sl (t : TypeId) (x i : Operand) (h : o.op = .indexAddr t x i) (ht : P.underlying t = some (.slice (P.elem t))) (h2 : (P.info? (P.elem t)).isSome = true) {n : Nat} {cs : List T} (hx : ev X x = .t (.sl n cs))
    {k : IntKind} {j : Int} (hi : ev X i = .t (.v (.int k j))) (h0 : 0 ≤ j) (hj : j < n) (hl : 0 < cs.length) : OpSpec Γ P o X { val := .rop (cs.drop (j.toNat * P.cellsOf (P.elem t))) } := by
  intro E Y a w η hA hS K Q hK
  have hr := hS.ev x
  rw [hA.2.1 x (by simp [h, Op.operands]), hx] at hr
  have hri := hS.ev i
  rw [hA.2.1 i (by simp [h, Op.operands]), hi] at hri
  have hei : a.eval i = .int k j := hri
  obtain ⟨A, c, he, hnc, hcm, hR⟩ := hr
  rcases hR with hR | ⟨ad, rfl, hna, hR⟩
  · simp [hR] at hl
  refine wp_val (v := .pointer (some (ad.add (j.toNat * P.cellsOf (P.elem t))))) (w' := w) (by
    simp only [execOp, h, he, hei, Sem.run_bind, run_indexAt_slice w t _ n c k j ht]
    rw [if_pos ⟨h0, hj⟩]
    simp [run_sizeOf h2]) (hK _ _ η ?_)
  rw [app_val]
  exact hS.put (d := .rop _) ⟨_, rfl, .inr ⟨by rwa [add_block], hR.drop _⟩⟩ o.dst

theorem spec_index_arr (t : TypeId) (x i : Operand) (h : o.op = .indexAddr t x i) (ht : P.underlying t = some (.array (P.arrayLen t) (P.elem t))) (h2 : (P.info? (P.elem t)).isSome = true) {m : Nm} {off : Nat} (hx : ev X x = .ptr m off)
    {k : IntKind} {j : Int} (hi : ev X i = .t (.v (.int k j))) (h0 : 0 ≤ j) (hj : j < P.arrayLen t) : OpSpec Γ P o X { val := .ptr m (off + j.toNat * P.cellsOf (P.elem t)) } := by
  intro E Y a w η hA hS K Q hK
  have hr := hS.ev x
  rw [hA.2.1 x (by simp [h, Op.operands]), hx] at hr
  have hri := hS.ev i
  rw [hA.2.1 i (by simp [h, Op.operands]), hi] at hri
  have hei : a.eval i = .int k j := hri
  obtain ⟨b, s, hη, he⟩ := hr
  refine wp_val (v := .pointer (some ⟨b, off + j.toNat * P.cellsOf (P.elem t), none⟩)) (w' := w) (by
    simp only [execOp, h, he, hei, Sem.run_bind, run_indexAt_array w t _ k j ht]
    rw [if_pos ⟨h0, hj⟩]
    simp [run_sizeOf h2, add_at]) (hK _ _ η ?_)
  rw [app_val]
  exact hS.put (d := .ptr m _) ⟨b, s, hη, rfl⟩ o.dst

/-- An array's value, indexed. -/
theorem spec_index_val (t : TypeId) (x i : Operand) (h : o.op = .index t x i) {n e : Nat} (ht : P.underlying t = some (.array n e)) (h1 : (P.underlying e).isSome = true) (h2 : (P.info? e).isSome = true) {ds : List D} (hx : ev X x = .agg ds)
    {k : IntKind} {j : Int} (hi : ev X i = .t (.v (.int k j))) (h0 : 0 ≤ j) (hj : j < n) (hl : j.toNat * P.cellsOf e + P.cellsOf e ≤ ds.length) (hne : isAggB P e = false → P.cellsOf e = 1) : OpSpec Γ P o X { val := D.ofCells (isAggB P e) ((ds.drop (j.toNat * P.cellsOf e)).take (P.cellsOf e)) } := by
  intro E Y a w η hA hS K Q hK
  have hr := hS.ev x
  rw [hA.2.1 x (by simp [h, Op.operands]), hx] at hr
  have hri := hS.ev i
  rw [hA.2.1 i (by simp [h, Op.operands]), hi] at hri
  have hei : a.eval i = .int k j := hri
  obtain ⟨vs, he, hR⟩ := hr
  obtain ⟨u, hu, hrun⟩ := run_part (P := P) (t := e) (us := vs.toList) (off := j.toNat * P.cellsOf e) h1 h2 (by rw [hR.length]; exact hl) hne w
  simp only [Array.toArray_toList] at hrun
  refine wp_val (v := if isAggB P e then .agg ((vs.toList.drop (j.toNat * P.cellsOf e)).take (P.cellsOf e)).toArray else u) (w' := w) (by
    simp only [execOp, h, he, hei, Instr.index, asIntOf, Sem.run_bind, Sem.run_pure, Result.andThen_ok, run_underlying ht]
    rw [if_pos ⟨h0, hj⟩]
    simp only [Sem.run_bind, run_sizeOf h2, Result.andThen_ok, hrun]) (hK _ _ η ?_)
  rw [app_val]
  exact hS.put (((hR.drop _).take _).ofCells _ hu) o.dst

/-- A slice's bound: nothing, or a number. -/
def bound (X : St) (d : Nat) : Option Operand → Option Nat
  | none => some d
  | some x => match ev X x with
    | .t (.v (.int _ n)) => if 0 ≤ n then some n.toNat else none
    | _ => none

theorem run_bounds {Y : St} {E : Env} {a : Act} {w : World} {η : Et} (hS : Sim Γ E Y a w η) (lo hi : Option Operand) (hag : ∀ x, x ∈ lo.toList ++ hi.toList → ev Y x = ev X x) (isSl : Bool) {len cap l r : Nat} (hr : bound X len hi = some r) (hl : bound X 0 lo = some l) (h1 : l ≤ r) (h2 : r ≤ cap) :
    (Instr.sliceBounds isSl len cap (lo.map a.eval) (hi.map a.eval) none).run P w = .ok (l, r, cap) w := by
  have hsb : ∀ (x : Operand), ev Y x = ev X x → ∀ d v, bound X d (some x) = some v → ∀ y code, v ≤ y → (Instr.sliceBound (a.eval x) y code).run P w = .ok v w := by
    intro x hx d v hv y code hvy
    simp only [bound] at hv
    split at hv
    · rename_i k n hn
      split at hv
      · rename_i h0
        cases hv
        have he := hS.ev x
        rw [hx, hn] at he
        have he : a.eval x = .int k n := he
        rw [he]
        exact run_sliceBound w k n y code h0 (by omega)
      · cases hv
    · cases hv
  cases hi with
  | none =>
    cases hr
    cases lo with
    | none => cases hl; simp [Instr.sliceBounds]
    | some x =>
      have := hsb x (hag x (by simp)) 0 l hl
      simp [Instr.sliceBounds, this _ _ h1]
  | some y =>
    have hy := hsb y (hag y (by simp)) len r hr
    cases lo with
    | none => cases hl; simp [Instr.sliceBounds, hy _ _ h2]
    | some x =>
      have := hsb x (hag x (by simp)) 0 l hl
      simp [Instr.sliceBounds, this _ _ h1, hy _ _ h2]

theorem spec_slice_msl (t : TypeId) (x : Operand) (lo hi : Option Operand) (h : o.op = .slice t x lo hi none) (ht : P.underlying t = some (.slice (P.elem t))) (h2 : (P.info? (P.elem t)).isSome = true) {m : Nm} {off n sz : Nat} (hx : ev X x = .msl m off n sz) (hsz : P.cellsOf (P.elem t) = sz)
    {l r : Nat} (hr' : bound X n hi = some r) (hl' : bound X 0 lo = some l) (hlr : l ≤ r) (hrn : r ≤ n) : OpSpec Γ P o X { val := .msl m (off + l * sz) (r - l) sz } := by
  intro E Y a w η hA hS K Q hK
  have hr := hS.ev x
  rw [hA.2.1 x (by simp [h, Op.operands]), hx] at hr
  obtain ⟨A, c, he, hnc, hcm, hR⟩ := hr
  have hb := run_bounds (P := P) (X := X) hS lo hi (fun y hy => hA.2.1 y (by
    rw [h]
    simp only [Op.operands, Array.toList_append, Option.toArray]
    rcases List.mem_append.1 hy with hy | hy
    · cases lo <;> simp_all
    · cases hi <;> simp_all)) true hr' hl' hlr (Nat.le_trans hrn hnc)
  refine wp_val (v := .slice (if c = l then A else A.map (·.add (l * sz))) (r - l) (c - l)) (w' := w) (by
    simp only [execOp, h, he, Instr.sliceAt, Instr.slice, Sem.run_bind, run_underlying ht, Result.andThen_ok, Option.map_none, hb, run_sizeOf h2, hsz]
    rfl) (hK _ _ η ?_)
  rw [app_val]
  refine hS.put (d := .msl m _ _ _) ⟨_, _, rfl, by omega, by omega, ?_⟩ o.dst
  by_cases e : c = l
  · exact .inl (by omega)
  · rcases hR with hR | ⟨b, s, hη, rfl, hR⟩
    · omega
    · refine .inr ⟨b, s, hη, ?_, ?_⟩
      · rw [if_neg e]
        simp [add_at]
      · rw [← hR, Nat.add_assoc, ← Nat.add_mul]
        congr 2
        omega

theorem spec_slice_sl (t : TypeId) (x : Operand) (lo hi : Option Operand) (h : o.op = .slice t x lo hi none) (ht : P.underlying t = some (.slice (P.elem t))) (h2 : (P.info? (P.elem t)).isSome = true) {n : Nat} {cs : List T} (hx : ev X x = .t (.sl n cs))
    {l r : Nat} (hr' : bound X n hi = some r) (hl' : bound X 0 lo = some l) (hlr : l ≤ r) (hrn : r ≤ n) (hlen : cs.length = n * P.cellsOf (P.elem t)) : OpSpec Γ P o X { val := .t (.sl (r - l) ((cs.drop (l * P.cellsOf (P.elem t))).take ((r - l) * P.cellsOf (P.elem t)))) } := by
  intro E Y a w η hA hS K Q hK
  have hr := hS.ev x
  rw [hA.2.1 x (by simp [h, Op.operands]), hx] at hr
  obtain ⟨A, c, he, hnc, hcm, hR⟩ := hr
  have hb := run_bounds (P := P) (X := X) hS lo hi (fun y hy => hA.2.1 y (by
    rw [h]
    simp only [Op.operands, Array.toList_append, Option.toArray]
    rcases List.mem_append.1 hy with hy | hy
    · cases lo <;> simp_all
    · cases hi <;> simp_all)) true hr' hl' hlr (Nat.le_trans hrn hnc)
  refine wp_val (v := .slice (if c = l then A else A.map (·.add (l * P.cellsOf (P.elem t)))) (r - l) (c - l)) (w' := w) (by
    simp only [execOp, h, he, Instr.sliceAt, Instr.slice, Sem.run_bind, run_underlying ht, Result.andThen_ok, Option.map_none, hb, run_sizeOf h2]
    rfl) (hK _ _ η ?_)
  rw [app_val]
  refine hS.put (d := .t (.sl _ _)) ⟨_, _, rfl, by omega, by omega, ?_⟩ o.dst
  by_cases e : c = l
  · left
    have : r - l = 0 := by omega
    simp [this]
  · rcases hR with hR | ⟨ad, rfl, hna, hR⟩
    · left; simp [hR]
    · right
      refine ⟨ad.add (l * P.cellsOf (P.elem t)), by rw [if_neg e]; rfl, by rwa [add_block], (hR.drop _).take _⟩
end
end Go.Ot
