/- A function that tells what an operation does, and what has to be shown for it. -/
import Derived.Test.YtbpponebopnfaaaDoorOtCode
import Derived.Laws.Shifts
import Derived.Laws.Concat
import Derived.WideLaws
import Derived.Lib.LazyBuf
set_option linter.unusedVariables false
set_option linter.unusedSimpArgs false
namespace Go.Ot

/-- A text by its bytes. -/
def S (l : List UInt8) : ByteArray := ⟨l.toArray⟩
@[simp] theorem S_l (l : List UInt8) : (S l).data.toList = l := rfl
theorem S_of (b : ByteArray) : S b.data.toList = b := rfl
theorem S_inj {a b : List UInt8} : S a = S b ↔ a = b := ⟨fun h => by have := congrArg (fun b : ByteArray => b.data.toList) h; simpa using this, fun h => by rw [h]⟩
@[simp] theorem S_size (l : List UInt8) : (S l).size = l.length := rfl
theorem size_l (b : ByteArray) : b.size = b.data.toList.length := rfl
theorem S_append (a b : List UInt8) : S a ++ S b = S (a ++ b) := by
  apply ByteArray.ext
  simp [S, ByteArray.data_append]
theorem S_extract (l : List UInt8) (i j : Nat) : (S l).extract i j = S ((l.take j).drop i) := by
  apply ByteArray.ext
  simp [S, ByteArray.data_extract, List.drop_take]

def boolV (b : Bool) : Value := .bool b
/-- Two plain values, an operator: the value, and when. -/
def binV (P : Program) (t : TypeId) : BinOp → Value → Value → Option (Value × Prop)
  | .shl, .int k x, .int _ y => some (.int k (k.wrap (x * 2 ^ min y.toNat k.bits)), 0 ≤ y)
  | .shr, .int k x, .int _ y => some (.int k (x / 2 ^ min y.toNat k.bits), 0 ≤ y)
  | .add, .int k x, .int k' y => some (.int k (k.wrap (x + y)), k = k')
  | .sub, .int k x, .int k' y => some (.int k (k.wrap (x - y)), k = k')
  | .mul, .int k x, .int k' y => some (.int k (k.wrap (x * y)), k = k')
  | .quo, .int k x, .int k' y => some (.int k (k.wrap (x.tdiv y)), k = k' ∧ y ≠ 0)
  | .rem, .int k x, .int k' y => some (.int k (x.tmod y), k = k' ∧ y ≠ 0)
  | .and, .int k x, .int k' y => some (.int k (bits .and k x y), k = k')
  | .or, .int k x, .int k' y => some (.int k (bits .or k x y), k = k')
  | .xor, .int k x, .int k' y => some (.int k (bits .xor k x y), k = k')
  | .eql, .int k x, .int k' y => some (.bool (decide (x = y)), k = k')
  | .neq, .int k x, .int k' y => some (.bool (!decide (x = y)), k = k')
  | .lss, .int k x, .int k' y => some (.bool (decide (x < y)), k = k')
  | .leq, .int k x, .int k' y => some (.bool (decide (x ≤ y)), k = k')
  | .gtr, .int k x, .int k' y => some (.bool (decide (y < x)), k = k')
  | .geq, .int k x, .int k' y => some (.bool (decide (y ≤ x)), k = k')
  | .add, .string a, .string b => some (.string (S (a.data.toList ++ b.data.toList)), a.data.toList.length + b.data.toList.length ≤ 9223372036854775807)
  | .eql, .string a, .string b => some (.bool (a.data.toList == b.data.toList), True)
  | .neq, .string a, .string b => some (.bool (!(a.data.toList == b.data.toList)), True)
  | .lss, .string a, .string b => some (.bool (Op.bytesLess a.data.toList b.data.toList), True)
  | .eql, .bool a, .bool b => some (.bool (a == b), P.underlying t = some .bool)
  | .neq, .bool a, .bool b => some (.bool (!(a == b)), P.underlying t = some .bool)
  | .eql, .slice A n c, .slice none 0 0 => some (.bool A.isNone, P.underlying t = some (.slice (P.elem t)))
  | .neq, .slice A n c, .slice none 0 0 => some (.bool (!A.isNone), P.underlying t = some (.slice (P.elem t)))
  | _, _, _ => none

theorem run_fst {P : Program} {w : World} {a b : Operand} {op : BinOp} {t : TypeId} {x y : Value} (h : ¬ (x = .nilIface ∧ y = .nilIface)) (h2 : ∀ c d, x = .agg c → y = .agg d → False) : (eqGuard op t a b x y).run P w = .ok () w := by
  unfold eqGuard
  cases op
  case eql => cases x <;> cases y <;> first | rfl | (exact absurd ⟨rfl, rfl⟩ h) | exact (h2 _ _ rfl rfl).elim
  case neq => cases x <;> cases y <;> first | rfl | (exact absurd ⟨rfl, rfl⟩ h) | exact (h2 _ _ rfl rfl).elim
  all_goals rfl

theorem bytesLess_l (a b : ByteArray) : Op.bytesLess a.toList b.toList = Op.bytesLess a.data.toList b.data.toList := by rw [ByteArray.toList_eq, ByteArray.toList_eq]

theorem decide_beq (x y : Int) : (x == y) = decide (x = y) := by by_cases h : x = y <;> simp [h]
theorem decide_beqL (x y : List UInt8) : (x == y) = decide (x = y) := by by_cases h : x = y <;> simp [h]

theorem binV_run {P : Program} {t : TypeId} {op : BinOp} {a b v : Value} {c : Prop} (h : binV P t op a b = some (v, c)) (hc : c) (hn : ¬ (a = .nilIface ∧ b = .nilIface)) (w : World) : (binOp op t a b).run P w = .ok v w := by
  unfold binV at h
  split at h <;> cases h
  · simp only [binOp_shl, shift_shl_any _ _ _ _ hc, Sem.run_pure]
  · simp only [binOp_shr, shift_shr_any _ _ _ _ hc, Sem.run_pure]
  · subst hc; simp [binOp, Op.intArith]
  · subst hc; simp [binOp, Op.intArith]
  · subst hc; simp [binOp, Op.intArith]
  · obtain ⟨rfl, h2⟩ := hc; simp [binOp, Op.intDiv, h2]
  · obtain ⟨rfl, h2⟩ := hc; simp [binOp, Op.intDiv, h2]
  · subst hc; simp [binOp, intBits_and]
  · subst hc; simp [binOp, intBits_or]
  · subst hc; simp [binOp, intBits_xor]
  · subst hc; simp [binOp, Op.intCmp, decide_beq]
  · subst hc; simp [binOp, Op.intCmp, bne, decide_beq]
  · subst hc; simp [binOp, Op.intCmp]
  · subst hc; simp [binOp, Op.intCmp]
  · subst hc; simp [binOp, Op.intCmp]
  · subst hc; simp [binOp, Op.intCmp]
  · rename_i x y
    have := run_string_add_sum (P := P) w x y hc
    have e : x ++ y = S (x.data.toList ++ y.data.toList) := S_append x.data.toList y.data.toList
    rw [binOp_string_add, this, e]
  · rw [binOp_string_eql, ByteArray.toList_eq, ByteArray.toList_eq]; rfl
  · rw [binOp_string_neq, ByteArray.toList_eq, ByteArray.toList_eq]; rfl
  · rw [binOp_string_lss, bytesLess_l]; rfl
  · exact run_eql_bool w t _ _ hc
  · exact run_neq_bool w t _ _ hc
  · exact Go.run_eql_slice_nil w t _ _ _ _ hc
  · exact Go.run_neq_slice_nil w t _ _ _ _ hc

def unV : UnOp → Value → Option Value
  | .not, .bool b => some (.bool (!b))
  | .neg, .int k n => some (.int k (k.wrap (0 - n)))
  | .xor, .int k n => some (.int k (bits .xor k (if k.signed then -1 else k.max) n))
  | _, _ => none

section
variable {Γ : Gl} {P : Program} {o : Oper} {X : St}

theorem spec_bin (op : BinOp) (t u : TypeId) (x y : Operand) (h : o.op = .binOp op t x y u) {a b v : Value} {c : Prop} (hx : ev X x = .t (.v a)) (hy : ev X y = .t (.v b)) (hv : binV P t op a b = some (v, c)) (hc : c) (hn : ¬ (a = .nilIface ∧ b = .nilIface)) : OpSpec Γ P o X { val := .t (.v v) } := by
  refine spec_pure (by simp [h]) (fun z hz => ?_) v (fun w => ?_)
  · rw [h] at hz
    simp [Op.operands] at hz
    rcases hz with rfl | rfl <;> simp [hx, hy, D.isAtom]
  · have hagg : ∀ c d, a = .agg c → b = .agg d → False := by
      rintro c d rfl rfl
      cases op <;> simp [binV] at hv
    simp only [execOp, h, hx, hy, D.atom, Sem.run_bind, run_fst hn hagg, Result.andThen_ok, binV_run hv hc hn w, Sem.run_pure]

theorem spec_un (op : UnOp) (t : TypeId) (x : Operand) (h : o.op = .unOp op t x) {a v : Value} (hx : ev X x = .t (.v a)) (hv : unV op a = some v) : OpSpec Γ P o X { val := .t (.v v) } := by
  refine spec_pure (by simp [h]) (fun z hz => ?_) v (fun w => ?_)
  · rw [h] at hz
    simp [Op.operands] at hz
    subst hz
    simp [hx, D.isAtom]
  · unfold unV at hv
    split at hv <;> cases hv <;> simp [execOp, h, hx, D.atom, Op.unary, Op.intArith, intBits_xor]

/-- Is an interface value nil? -/
theorem spec_isNil (t u : TypeId) (x y : Operand) (neg : Bool) (h : o.op = .binOp (if neg then .neq else .eql) t x y u) (hx : (∃ q z, ev X x = .t (.ifc q z)) ∨ ∃ q z, ev X x = .ifc q z) (hy : y = .const .nilIface) (ht : P.underlying t = some (.interface (P.methodsAt t))) : OpSpec Γ P o X { val := .t (.v (.bool neg)) } := by
  intro E Y a w η hA hS K Q hK
  subst hy
  have hr := hS.ev x
  rw [hA.2.1 x (by simp [h, Op.operands])] at hr
  obtain ⟨q, v, he⟩ : ∃ q v, a.eval x = .iface q v := by
    rcases hx with ⟨q, z, hx⟩ | ⟨q, z, hx⟩
    · rw [hx] at hr; obtain ⟨v, he, _⟩ := hr; exact ⟨q, v, he⟩
    · rw [hx] at hr; obtain ⟨v, he, _⟩ := hr; exact ⟨q, v, he⟩
  have hcn : a.eval (.const .nilIface) = .nilIface := rfl
  refine wp_val (v := .bool neg) (w' := w) ?_ (hK _ _ η ?_)
  · cases neg
    · simp only [execOp, h, he, hcn, Bool.false_eq_true, if_false, Sem.run_bind, run_fst (P := P) (w := w) (x := .iface q v) (y := .nilIface) (by simp) (by simp), Result.andThen_ok]
      rw [run_eql_held_nil (P := P) (w := w) t q v ht]; rfl
    · simp only [execOp, h, he, hcn, if_true, Sem.run_bind, run_fst (P := P) (w := w) (x := .iface q v) (y := .nilIface) (by simp) (by simp), Result.andThen_ok]
      rw [run_neq_held_nil (P := P) (w := w) t q v ht]; rfl
  · rw [app_val]
    exact hS.put (d := .t (.v (.bool neg))) (by exact rfl) o.dst
theorem spec_nilNil (t u : TypeId) (x y : Operand) (neg : Bool) (h : o.op = .binOp (if neg then .neq else .eql) t x y u) (hx : ev X x = .t (.v .nilIface)) (hy : y = .const .nilIface) (ht : P.underlying t = some (.interface (P.methodsAt t))) : OpSpec Γ P o X { val := .t (.v (.bool !neg)) } := by
  refine spec_pure (by cases neg <;> simp [h]) (fun z hz => ?_) _ (fun w => ?_)
  · subst hy
    have hz' : z = x ∨ z = .const .nilIface := by cases neg <;> simpa [h, Op.operands] using hz
    rcases hz' with rfl | rfl
    · rw [hx]; rfl
    · rfl
  · subst hy
    have hg : ∀ op, (eqGuard op t x (.const .nilIface) .nilIface .nilIface).run P w = .ok () w := by
      intro op
      unfold eqGuard
      cases op
      case eql => cases x <;> rfl
      case neq => cases x <;> rfl
      all_goals rfl
    cases neg
    · have hc : ev X (.const .nilIface) = .t (.v .nilIface) := rfl
      simp only [execOp, h, hx, hc, D.atom, Bool.false_eq_true, if_false, Sem.run_bind, hg, Result.andThen_ok]
      rw [run_eql_nil_nil (P := P) (w := w) t ht]; rfl
    · have hc : ev X (.const .nilIface) = .t (.v .nilIface) := rfl
      simp only [execOp, h, hx, hc, D.atom, if_true, Sem.run_bind, hg, Result.andThen_ok]
      have := run_eql_nil_nil (P := P) (w := w) t ht
      simp only [binOp, Sem.run_bind] at this ⊢
      cases e : (Op.equal t .nilIface .nilIface).run P w with
      | ok b w' =>
        rw [e] at this
        simp only [Result.andThen_ok, Sem.run_pure, Result.ok.injEq, Value.bool.injEq] at this
        obtain ⟨rfl, rfl⟩ := this
        simp
      | halt q w' => rw [e] at this; simp at this

/-- Is a slice that has something nil? -/
theorem spec_slNil (t u : TypeId) (x : Operand) (neg : Bool) (h : o.op = .binOp (if neg then .neq else .eql) t x (.const (.slice none 0 0)) u) {n : Nat} {c : T} {cs : List T} (hx : ev X x = .t (.sl n (c :: cs))) (ht : P.underlying t = some (.slice (P.elem t))) : OpSpec Γ P o X { val := .t (.v (.bool neg)) } := by
  intro E Y a w η hA hS K Q hK
  have hr := hS.ev x
  rw [hA.2.1 x (by simp [h, Op.operands]), hx] at hr
  obtain ⟨A, c', he, _, _, hR⟩ := hr
  rcases hR with hR | ⟨ad, rfl, _⟩
  · cases hR
  have hcn : a.eval (.const (.slice none 0 0)) = .slice none 0 0 := rfl
  refine wp_val (v := .bool neg) (w' := w) ?_ (hK _ _ η ?_)
  · cases neg
    · simp only [execOp, h, he, hcn, Bool.false_eq_true, if_false, Sem.run_bind, run_fst (P := P) (w := w) (x := .slice (some ad) n c') (y := .slice none 0 0) (by simp) (by simp), Result.andThen_ok]
      rw [Go.run_eql_slice_nil w t _ _ _ _ ht]; rfl
    · simp only [execOp, h, he, hcn, if_true, Sem.run_bind, run_fst (P := P) (w := w) (x := .slice (some ad) n c') (y := .slice none 0 0) (by simp) (by simp), Result.andThen_ok]
      rw [Go.run_neq_slice_nil w t _ _ _ _ ht]; rfl
  · rw [app_val]
    exact hS.put (d := .t (.v (.bool neg))) (by exact rfl) o.dst

/-- A text, indexed. -/
theorem spec_index_str (t : TypeId) (x i : Operand) (h : o.op = .index t x i) (ht : P.underlying t = some .string) {s : ByteArray} {k : IntKind} {j : Int} (hx : ev X x = .t (.v (.string s))) (hi : ev X i = .t (.v (.int k j))) (h0 : 0 ≤ j) (hj : j < s.data.toList.length) :
    OpSpec Γ P o X { val := .t (.v (.int .u8 (s.data.toList.getD j.toNat 0).toNat)) } := by
  refine spec_pure (by simp [h]) (fun z hz => ?_) _ (fun w => ?_)
  · rw [h] at hz
    simp [Op.operands] at hz
    rcases hz with rfl | rfl <;> simp [hx, hi, D.isAtom]
  · have hj' : j < s.size := hj
    have hlt : j.toNat < s.data.toList.length := by omega
    simp only [execOp, h, hx, hi, D.atom, Sem.run_bind, run_index_string w t s k j ht]
    rw [dif_pos ⟨h0, hj'⟩]
    simp only [Result.andThen_ok, Sem.run_pure, List.getD_eq_getElem?_getD, List.getElem?_eq_getElem hlt, Option.getD_some]
    rfl

theorem spec_slice_str (t : TypeId) (x : Operand) (lo hi : Option Operand) (h : o.op = .slice t x lo hi none) (ht : P.underlying t = some .string) {s : ByteArray} (hx : ev X x = .t (.v (.string s)))
    {l r : Nat} (hr' : bound X s.data.toList.length hi = some r) (hl' : bound X 0 lo = some l) (hlr : l ≤ r) (hrn : r ≤ s.data.toList.length) : OpSpec Γ P o X { val := .t (.v (.string (S ((s.data.toList.take r).drop l)))) } := by
  intro E Y a w η hA hS K Q hK
  have he := hS.ev x
  rw [hA.2.1 x (by simp [h, Op.operands]), hx] at he
  have he : a.eval x = .string s := he
  have hb := run_bounds (P := P) (X := X) hS lo hi (fun y hy => hA.2.1 y (by
    rw [h]
    simp only [Op.operands, Array.toList_append, Option.toArray]
    rcases List.mem_append.1 hy with hy | hy
    · cases lo <;> simp_all
    · cases hi <;> simp_all)) false (len := s.size) (cap := s.size) hr' hl' hlr hrn
  refine wp_val (v := .string (s.extract l r)) (w' := w) (by
    simp only [execOp, h, he, Instr.sliceAt, Instr.slice, Sem.run_bind, run_underlying ht, Result.andThen_ok, Option.map_none, Option.isSome_none, Bool.false_eq_true, if_false, hb, Sem.run_pure]) (hK _ _ η ?_)
  rw [app_val]
  refine hS.put (d := .t (.v _)) ?_ o.dst
  exact congrArg Value.string (S_extract s.data.toList l r)

theorem spec_len_str (x : Operand) (t : TypeId) (h : o.op = .call { callee := .builtin .len, args := #[x], argTypes := #[t] }) (ht : P.underlying t = some .string) {s : ByteArray} (hx : ev X x = .t (.v (.string s))) :
    OpSpec Γ P o X { val := .t (.v (.int .i64 s.data.toList.length)) } := by
  refine spec_pure (by simp [h]) (fun z hz => ?_) _ (fun w => ?_)
  · rw [h] at hz
    simp [Op.operands, Call.operands] at hz
    subst hz
    simp [hx, D.isAtom]
  · simp [execOp, h, resolve, invoke, builtin, hx, D.atom, run_len_string w t o.type s ht, goInt]

theorem spec_len_nil (x : Operand) (t : TypeId) (h : o.op = .call { callee := .builtin .len, args := #[x], argTypes := #[t] }) (ht : P.underlying t = some (.slice (P.elem t))) {A : Option Addr} {n c : Nat} (hx : ev X x = .t (.v (.slice A n c))) :
    OpSpec Γ P o X { val := .t (.v (.int .i64 n)) } := by
  refine spec_pure (by simp [h]) (fun z hz => ?_) _ (fun w => ?_)
  · rw [h] at hz
    simp [Op.operands, Call.operands] at hz
    subst hz
    simp [hx, D.isAtom]
  · simp [execOp, h, resolve, invoke, builtin, hx, D.atom, run_len_slice w t o.type A n c ht, goInt]

theorem spec_minmax (mx : Bool) (x y : Operand) (ts : Array TypeId) (h : o.op = .call { callee := .builtin (if mx then .max else .min), args := #[x, y], argTypes := ts }) {k k' : IntKind} {a b : Int} (hx : ev X x = .t (.v (.int k a))) (hy : ev X y = .t (.v (.int k' b))) :
    OpSpec Γ P o X { val := .t (.v (.int k (if mx then max a b else min a b))) } := by
  refine spec_pure (by cases mx <;> simp [h]) (fun z hz => ?_) _ (fun w => ?_)
  · cases mx <;> (simp [h, Op.operands, Call.operands] at hz; rcases hz with rfl | rfl <;> simp [hx, hy, D.isAtom])
  · cases mx
    · have := run_min_int2 (P := P) (w := w) ts o.type k k' a b
      have e : (if b < a then b else a) = min a b := by omega
      simp [execOp, h, resolve, invoke, builtin, hx, hy, D.atom, this, e]
    · have := run_max_int2 (P := P) (w := w) ts o.type k k' a b
      have e : (if b > a then b else a) = max a b := by split <;> omega
      simp [execOp, h, resolve, invoke, builtin, hx, hy, D.atom, this, e]

theorem spec_conv_int (src dst : TypeId) (x : Operand) (h : o.op = .convert src dst x) {k : IntKind} {n : Int} (hx : ev X x = .t (.v (.int k n))) (hs : (P.underlying src).isSome = true) {k' : IntKind} (hd : P.underlying dst = some (.int k')) : OpSpec Γ P o X { val := .t (.v (.int k' (k'.wrap n))) } := by
  refine spec_pure (by simp [h]) (fun z hz => ?_) _ (fun w => ?_)
  · rw [h] at hz
    simp [Op.operands] at hz
    subst hz
    simp [hx, D.isAtom]
  · have e : P.intKind dst = k' := by simp [Program.intKind, hd]
    have := run_convert_int w src dst k n hs (by rw [e]; exact hd)
    simp [execOp, h, hx, D.atom, this, e]
theorem spec_conv_str (src dst : TypeId) (x : Operand) (h : o.op = .convert src dst x) {s : ByteArray} (hx : ev X x = .t (.v (.string s))) (hs : P.underlying src = some .string) (hd : P.underlying dst = some .string) : OpSpec Γ P o X { val := .t (.v (.string s)) } := by
  refine spec_pure (by simp [h]) (fun z hz => ?_) _ (fun w => ?_)
  · rw [h] at hz
    simp [Op.operands] at hz
    subst hz
    simp [hx, D.isAtom]
  · simp [execOp, h, hx, D.atom, convert, run_underlying hs, run_underlying hd]
end
end Go.Ot
