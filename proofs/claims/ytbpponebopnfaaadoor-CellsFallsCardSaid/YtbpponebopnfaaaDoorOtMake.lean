/- Rows made whole, texts and bytes. -/
import Derived.Test.YtbpponebopnfaaaDoorOtStep
set_option linter.unusedVariables false
set_option linter.unusedSimpArgs false
namespace Go.Ot
section
variable {Γ : Gl} {P : Program} {o : Oper} {X : St}

/-- n elements' zero cells. -/
def zerosOf (z : List D) : Nat → List D
  | 0 => []
  | n + 1 => z ++ zerosOf z n
theorem zerosOf_len (z : List D) : ∀ n, (zerosOf z n).length = n * z.length
  | 0 => by simp [zerosOf]
  | n + 1 => by simp [zerosOf, zerosOf_len z n, Nat.add_mul, Nat.add_comm]
theorem zerosOf_get (z : List D) (hz : 0 < z.length) : ∀ (n j : Nat), j < n * z.length → (zerosOf z n)[j]? = z[j % z.length]?
  | 0, j, h => by simp at h
  | n + 1, j, h => by
    simp only [zerosOf]
    by_cases e : j < z.length
    · rw [List.getElem?_append_left e, Nat.mod_eq_of_lt e]
    · rw [List.getElem?_append_right (by omega), zerosOf_get z hz n (j - z.length) (by rw [Nat.succ_mul] at h; omega)]
      exact congrArg (fun i => z[i]?) (Nat.mod_eq_sub_mod (by omega)).symm
theorem zerosOf_one (d : D) : ∀ n, zerosOf [d] n = List.replicate n d
  | 0 => rfl
  | n + 1 => by simp [zerosOf, zerosOf_one d n, List.replicate_succ]

theorem made_reps {w : World} {M : Nat → Prop} {η : Et} {ds : List D} {z : Array Value} (h : Reps w M η ds z.toList) (n : Nat) : Reps w M η (zerosOf ds n) (madeCells z (n * ds.length)).toList := by
  have hl : z.size = ds.length := by have := h.length; simpa using this
  refine Reps.of_get (by simp [size_madeCells, zerosOf_len]) (fun j d hd => ?_)
  have hj : j < n * ds.length := by rw [← zerosOf_len]; exact (List.getElem?_eq_some_iff.1 hd).1
  have hp : 0 < ds.length := by
    rcases Nat.eq_zero_or_pos ds.length with e | e
    · rw [e] at hj; omega
    · exact e
  rw [zerosOf_get ds hp n j hj] at hd
  obtain ⟨u, hu, h1, h2⟩ := h.get hd
  refine ⟨u, ?_, h1, h2⟩
  have hu' : z[j % z.size]? = some u := by rw [hl]; simpa using hu
  have hlt : j % z.size < z.size := (Array.getElem?_eq_some_iff.1 hu').1
  simp only [madeCells, Array.toList_map, Array.toList_range, List.getElem?_map, List.getElem?_range hj, Option.map_some]
  congr 1
  rw [getElem!_pos z (j % z.size) hlt]
  exact (Array.getElem?_eq_some_iff.1 hu').2

theorem spec_makeSlice (t : TypeId) (x y : Operand) (h : o.op = .makeSlice t x y) {e : TypeId} (ht : P.underlying t = some (.slice e)) {i : TypeInfo} (hi : P.info? e = some i) {zs : List D} (hz : zeroD P e = some zs) {sz : Nat} (hsz : zs.length = sz) (hsz' : i.size = sz) (rid j : Nat) (hm : X.hp (.r rid j 0) = none)
    {k k' : IntKind} {n : Int} (hx : ev X x = .t (.v (.int k n))) (hy : ev X y = .t (.v (.int k' n))) (h0 : 0 ≤ n) (hn : n ≤ 9223372036854775807) (hb : (i.bytes : Int) * n ≤ 281474976710656) :
    OpSpec Γ P o X { val := .msl (.r rid j 0) 0 n.toNat sz, F := [.r rid j 0], upd := [(.r rid j 0, some ⟨zerosOf zs n.toNat, e, true, true⟩)] } := by
  intro E Y a w η hA hS K Q hK
  subst hsz
  obtain ⟨inf, z, hi', hzz, hR⟩ := zeroD_spec hz
  rw [hi] at hi'
  cases hi'
  have hm' : Y.hp (.r rid j 0) = none := (hA.2.2 _ (by simp)).trans hm
  have hex := hS.ev x
  rw [hA.2.1 x (by simp [h, Op.operands]), hx] at hex
  have hex : a.eval x = .int k n := hex
  have hey := hS.ev y
  rw [hA.2.1 y (by simp [h, Op.operands]), hy] at hey
  have hey : a.eval y = .int k' n := hey
  have hr := hR w (Mx Y.hp η E.A) η
  have hmade := made_reps hr n.toNat
  have hrun := run_make (P := P) w t e i z ht hi hzz k k' n n h0 (Int.le_refl _) hb hn
  rw [hsz'] at hrun
  refine wp_val (v := .slice (some ⟨w.heap.size, 0, none⟩) n.toNat n.toNat) (w' := w.alloc (.cells (madeCells z.cells (n.toNat * zs.length)) e)) (by simp [execOp, h, hex, hey, hrun]) (hK _ _ (updE η (.r rid j 0) (some (w.heap.size, (madeCells z.cells (n.toNat * zs.length)).size))) ?_)
  rw [app_upd]
  have hl := hmade.length
  refine Sim.put (X := { Y with hp := upd Y.hp _ _ }) (hS.new hm' (hS.not_par rid j 0) ⟨zerosOf zs n.toNat, e, true, true⟩ _ (0, 0) (by intro j _ ⟨_, h2⟩; omega) rfl (by simp [size_madeCells, zerosOf_len]) (by intro h; cases h) ?_) (d := .msl _ 0 _ _) ⟨_, _, rfl, Nat.le_refl _, by simp only [maxLen]; omega, .inr ⟨w.heap.size, (madeCells z.cells (n.toNat * zs.length)).size, by simp, rfl, by simp [size_madeCells]⟩⟩ o.dst
  have : (madeCells z.cells (n.toNat * zs.length)).toList.take (zerosOf zs n.toNat).length = (madeCells z.cells (n.toNat * zs.length)).toList := by rw [← hl]; exact List.take_length
  simpa [this] using hmade

/-- A literal's cells. -/
theorem run_buildSlice {w : World} {t e : TypeId} {n : Nat} {vs : Array (Nat × Value)} (ht : P.underlying t = some (.slice e)) {i : TypeInfo} (hi : P.info? e = some i) {z : Value} (hz : i.zero = some z) (hs : n * i.size ≤ 16777216) {us : Array Value}
    (hf : Instr.fill (fun j => some (j * i.size, i.size)) (madeCells z.cells (n * i.size)) vs.toList = some us) : (Instr.buildSlice t n vs).run P w = .ok (.slice (some ⟨w.heap.size, 0, none⟩) n n) (w.alloc (.cells us e)) := by
  have h1 : ¬ (n * i.size > 2 ^ 24) := by omega
  by_cases h0 : n * i.size = 0
  · have hm : madeCells z.cells (n * i.size) = (Array.range (n * i.size)).map ((#[] : Array Value)[· % (#[] : Array Value).size]!) := by rw [h0]; simp [madeCells]
    rw [hm] at hf
    simp only [Instr.buildSlice, Sem.run_bind, run_underlying ht, Result.andThen_ok, sizeOf, typeInfo, run_program, hi, Sem.run_pure, if_neg h1, if_pos h0, hf]
    rfl
  · simp only [Instr.buildSlice, Sem.run_bind, run_underlying ht, Result.andThen_ok, sizeOf, typeInfo, run_program, hi, Sem.run_pure, if_neg h1, if_neg h0, zeroValue, hz]
    have hf' : Instr.fill (fun j => some (j * i.size, i.size)) ((Array.range (n * i.size)).map (z.cells[· % z.cells.size]!)) vs.toList = some us := hf
    simp only [hf']
    rfl

theorem buildSlice_fill {E : Env} {Y : St} {a : Act} {w : World} {η : Et} (hS : Sim Γ E Y a w η) (parts : Array (Nat × Operand)) (hop : ∀ x ∈ parts.toList.map (·.2), ev Y x = ev X x) {zs : List D} {z : Array Value} (hR : Reps w (Mx Y.hp η E.A) η zs z.toList) {n sz : Nat} (hsz : zs.length = sz) {ds : List D}
    (hf : fillD (fun j => some (j * sz, sz)) (zerosOf zs n) (parts.toList.map fun p => (p.1, ev X p.2)) = some ds) :
    ∃ us, Instr.fill (fun j => some (j * sz, sz)) (madeCells z (n * sz)) (parts.map fun (i, x) => (i, a.eval x)).toList = some us ∧ Reps w (Mx Y.hp η E.A) η ds us.toList := by
  subst hsz
  have hps : RepsA w (Mx Y.hp η E.A) η ((parts.toList.map fun p => (p.1, ev X p.2)).map (·.2)) ((parts.toList.map fun p => (p.1, a.eval p.2)).map (·.2)) :=
    RepsA.of_map _ (fun x hx => by rw [← hop x hx]; exact hS.ev x)
  obtain ⟨us, h1, h2⟩ := fill_spec _ _ (parts.toList.map fun p => (p.1, a.eval p.2)) (zerosOf zs n) (madeCells z (n * zs.length)) (by simp) hps (made_reps hR n) hf
  exact ⟨us, by rw [← h1]; congr 1; simp, h2⟩

theorem fillD_len (place : Nat → Option (Nat × Nat)) : ∀ (ps : List (Nat × D)) (cells : List D) {out : List D}, fillD place cells ps = some out → out.length = cells.length
  | [], cells, out, h => by cases h; rfl
  | (i, d) :: ps, cells, out, h => by
    simp only [fillD] at h
    split at h
    · split at h
      · rw [fillD_len place ps _ h, setAt_length]
      · cases h
    · cases h

/-- A literal as a row of the frame's own. -/
theorem spec_buildSlice (t n : Nat) (parts : Array (Nat × Operand)) (h : o.op = .buildSlice t n parts) {e : TypeId} (ht : P.underlying t = some (.slice e)) {i : TypeInfo} (hi : P.info? e = some i) {zs : List D} (hz : zeroD P e = some zs) {sz : Nat} (hsz : zs.length = sz) (hsz' : i.size = sz) (rid j : Nat) (hm : X.hp (.r rid j 0) = none)
    (hs : n * sz ≤ 16777216) {ds : List D} (hf : fillD (fun j => some (j * sz, sz)) (zerosOf zs n) (parts.toList.map fun p => (p.1, ev X p.2)) = some ds) (hn : n ≤ maxLen) :
    OpSpec Γ P o X { val := .msl (.r rid j 0) 0 n sz, F := [.r rid j 0], upd := [(.r rid j 0, some ⟨ds, e, true, true⟩)] } := by
  intro E Y a w η hA hS K Q hK
  obtain ⟨inf, z, hi', hzz, hR⟩ := zeroD_spec hz
  rw [hi] at hi'
  cases hi'
  have hm' : Y.hp (.r rid j 0) = none := (hA.2.2 _ (by simp)).trans hm
  obtain ⟨us, h1, h2⟩ := buildSlice_fill (X := X) hS parts (fun x hx => hA.2.1 x (by rw [h]; simpa [Op.operands] using hx)) (hR w _ η) (n := n) hsz hf
  have hrun := run_buildSlice (P := P) (w := w) ht hi hzz (by rw [hsz']; exact hs) (n := n) (vs := parts.map fun (i, x) => (i, a.eval x)) (us := us) (by rw [hsz']; exact h1)
  have hl := h2.length
  have hdl : ds.length = n * sz := by rw [fillD_len _ _ _ hf, zerosOf_len, hsz]
  have hus : us.size = n * sz := by rw [← hdl, ← hl]; simp
  refine wp_val (v := .slice (some ⟨w.heap.size, 0, none⟩) n n) (w' := w.alloc (.cells us e)) (by simp [execOp, h, hrun]) (hK _ _ (updE η (.r rid j 0) (some (w.heap.size, us.size))) ?_)
  rw [app_upd]
  refine Sim.put (X := { Y with hp := upd Y.hp _ _ }) (hS.new hm' (hS.not_par rid j 0) ⟨ds, e, true, true⟩ us (0, 0) (by intro j _ ⟨_, h2⟩; omega) rfl (by simp [hus, hdl]) (by intro h; cases h) ?_) (d := .msl _ 0 _ _) ⟨_, _, rfl, Nat.le_refl _, hn, .inr ⟨w.heap.size, us.size, by simp, rfl, by rw [hus, Nat.zero_add]⟩⟩ o.dst
  have : us.toList.take ds.length = us.toList := by rw [← hl]; exact List.take_length
  simpa [this] using h2

/-- A literal as a tree. -/
theorem spec_buildTree (t n : Nat) (parts : Array (Nat × Operand)) (h : o.op = .buildSlice t n parts) {e : TypeId} (ht : P.underlying t = some (.slice e)) {i : TypeInfo} (hi : P.info? e = some i) {zs : List D} (hz : zeroD P e = some zs) {sz : Nat} (hsz : zs.length = sz) (hsz' : i.size = sz)
    (hs : n * sz ≤ 16777216) {ds : List D} (hf : fillD (fun j => some (j * sz, sz)) (zerosOf zs n) (parts.toList.map fun p => (p.1, ev X p.2)) = some ds) {ts : List T} (hts : D.toTs ds = some ts) (hn : n ≤ maxLen) :
    OpSpec Γ P o X { val := .t (.sl n ts) } := by
  intro E Y a w η hA hS K Q hK
  obtain ⟨inf, z, hi', hzz, hR⟩ := zeroD_spec hz
  rw [hi] at hi'
  cases hi'
  obtain ⟨us, h1, h2⟩ := buildSlice_fill (X := X) hS parts (fun x hx => hA.2.1 x (by rw [h]; simpa [Op.operands] using hx)) (hR w _ η) (n := n) hsz hf
  have hrun := run_buildSlice (P := P) (w := w) ht hi hzz (by rw [hsz']; exact hs) (n := n) (vs := parts.map fun (i, x) => (i, a.eval x)) (us := us) (by rw [hsz']; exact h1)
  have hT := Reps.toTs h2 hts
  -- a new block of which nobody knows a name
  let w1 := w.alloc (.cells us e)
  have hk : Keeps w w1 (Mx Y.hp η E.A) := fun b hb _ => heap_alloc_old w _ b hb
  have hS1 : Sim Γ E Y a w1 η := by
    refine { slots := RepsA.keeps hk (fun _ _ h => h) _ _ (fun _ _ _ h => h) hS.slots, ok := ⟨fun m ob hm => (hS.ok.objs m ob hm).keeps hk (fun _ _ h => h) (fun b s hb => heap_alloc_old w _ b (hS.ok.lt hb)) rfl (fun _ _ _ h => h), hS.ok.dom, hS.ok.inj, hS.ok.noA⟩, defers := hS.defers, size := by simp [w1]; have := hS.size; omega, keep := fun b hb hM => ?_, mine := hS.mine, mine2 := hS.mine2, pin := hS.pin, low := hS.low, os := hS.os, tape := hS.tape, output := hS.output, par := hS.par, glob := hS.glob, gle := hS.gle, gM := hS.gM }
    rw [heap_alloc_old w _ b (Nat.lt_of_lt_of_le hb hS.size)]
    exact hS.keep b hb hM
  refine wp_val (v := .slice (some ⟨w.heap.size, 0, none⟩) n n) (w' := w1) (by simp [execOp, h, hrun, w1]) (hK _ _ η ?_)
  rw [app_val]
  refine hS1.put (d := .t (.sl n ts)) ⟨_, _, rfl, Nat.le_refl _, hn, ?_⟩ o.dst
  right
  refine ⟨_, rfl, ?_, ?_⟩
  · rintro (⟨m, ob, s, h3, h4, h5⟩ | h3)
    · have := hS.ok.lt h5
      simp at this
    · have := Nat.lt_of_lt_of_le (hS.low _ h3) hS.size
      simp at this
  · refine RepTAt.of_get (fun j d hd => ?_)
    obtain ⟨u, hu, h3, h4⟩ := hT.get hd
    refine ⟨u, ?_, h3, RepT.keeps (fun b hb _ => heap_alloc_old w _ b hb) (fun _ _ h => h) d u h4⟩
    rw [Nat.zero_add, add_at, Nat.zero_add, cell_of_row w1 w.heap.size j us e (0, 0) (heap_alloc_new w _)]
    simpa using hu

/-! ### texts and bytes -/
/-- Bytes as cells. -/
def bytesD (l : List UInt8) : List D := l.map fun b => .t (.v (.int .u8 b.toNat))
theorem bytesD_T (l : List UInt8) : bytesD l = (l.map fun b => T.v (.int .u8 b.toNat)).map .t := by simp [bytesD]
@[simp] theorem bytesD_len (l : List UInt8) : (bytesD l).length = l.length := by simp [bytesD]
theorem bytesD_append (a b : List UInt8) : bytesD (a ++ b) = bytesD a ++ bytesD b := by simp [bytesD]
@[simp] theorem hasL_bytesD (m : Nm) (l : List UInt8) : D.hasL m (bytesD l) = false := by rw [bytesD_T]; exact hasL_map_t m _

theorem bytesWorld_heap (w : World) (e : TypeId) (s : ByteArray) : (Go.Lib.bytesWorld w e s).heap = (w.drew.alloc (.cells (Go.Lib.bytesCells w e s) e ((Go.Lib.bytesCells w e s).size, (Go.Lib.bytesCells w e s).size + 1))).heap := by
  apply Array.ext_getElem?
  intro j
  have hsz := Go.Lib.bytesWorld_size w e s
  by_cases h1 : j < w.heap.size
  · rw [Go.Lib.bytesWorld_at_old w e s j h1, heap_alloc_old w.drew _ j h1]; rfl
  · by_cases h2 : j = w.heap.size
    · subst h2
      rw [Go.Lib.bytesWorld_at_new w e s]
      exact (heap_alloc_new w.drew _).symm
    · rw [Array.getElem?_eq_none (by omega), Array.getElem?_eq_none (by simp; omega)]

theorem spec_conv_bytes (src dst : TypeId) (x : Operand) (h : o.op = .convert src dst x) {s : ByteArray} (hx : ev X x = .t (.v (.string s))) (hs : P.underlying src = some .string) {e : TypeId} (hd : P.underlying dst = some (.slice e)) (he : P.underlying e = some (.int .u8)) (rid j : Nat) (hm : X.hp (.r rid j 0) = none)
    (hl : s.data.toList.length ≤ maxLen) :
    OpSpec Γ P o X { val := .msl (.r rid j 0) 0 s.data.toList.length 1, F := [.r rid j 0], upd := [(.r rid j 0, some ⟨bytesD s.data.toList, e, true, true⟩)] } := by
  intro E Y a w η hA hS K Q hK
  have hm' : Y.hp (.r rid j 0) = none := (hA.2.2 _ (by simp)).trans hm
  have hex := hS.ev x
  rw [hA.2.1 x (by simp [h, Op.operands]), hx] at hex
  have hex : a.eval x = .string s := hex
  have hrun := Go.Lib.run_convert_string_bytes (P := P) w src dst e s hs hd he
  have hge := grownCap_ge w s.size 0 e
  have hsz : s.size = s.data.toList.length := rfl
  have hcs : (Go.Lib.bytesCells w e s).size = grownCap w s.size 0 e := by
    simp only [Go.Lib.bytesCells, Array.size_append, Array.size_map, Array.size_replicate]
    have : s.data.size = s.size := rfl
    omega
  have hS' : Sim Γ E Y a w.drew η := hS.world rfl rfl rfl rfl
  have hcells : Reps w.drew (Mx Y.hp η E.A) η (bytesD s.data.toList) ((Go.Lib.bytesCells w e s).toList.take (bytesD s.data.toList).length) := by
    refine Reps.of_get (by simp [hcs]; omega) (fun i d hd => ?_)
    simp only [bytesD, List.getElem?_map, Option.map_eq_some_iff] at hd
    obtain ⟨b, hb, rfl⟩ := hd
    have hi : i < s.data.toList.length := (List.getElem?_eq_some_iff.1 hb).1
    refine ⟨.int .u8 b.toNat, ?_, rfl, rfl⟩
    rw [List.getElem?_take, if_pos (by simpa using hi)]
    simp only [Go.Lib.bytesCells, Array.toList_append, Array.toList_map]
    rw [List.getElem?_append_left (by simpa using hi)]
    simp only [List.getElem?_map, hb, Option.map_some]
  have h1 := hS'.new hm' (hS.not_par rid j 0) ⟨bytesD s.data.toList, e, true, true⟩ (Go.Lib.bytesCells w e s) ((Go.Lib.bytesCells w e s).size, (Go.Lib.bytesCells w e s).size + 1) (by intro i hi ⟨h2, _⟩; simp at h2; omega) rfl (by simp [hcs]; omega) (by intro h; cases h) hcells
  have h2 : Sim Γ E { Y with hp := upd Y.hp (.r rid j 0) (some ⟨bytesD s.data.toList, e, true, true⟩) } a (Go.Lib.bytesWorld w e s) (updE η (.r rid j 0) (some (w.heap.size, (Go.Lib.bytesCells w e s).size))) := h1.world (bytesWorld_heap w e s) rfl rfl rfl
  refine wp_val (v := .slice (some ⟨w.heap.size, 0, none⟩) s.size (grownCap w s.size 0 e)) (w' := Go.Lib.bytesWorld w e s) (by simp [execOp, h, hex, hrun]) (hK _ _ (updE η (.r rid j 0) (some (w.heap.size, (Go.Lib.bytesCells w e s).size))) ?_)
  rw [app_upd]
  exact Sim.put (X := { Y with hp := upd Y.hp _ _ }) h2 (d := .msl _ 0 _ 1) ⟨_, _, rfl, hge, grownCap_le_maxLen w s.size 0 e hl, .inr ⟨w.heap.size, (Go.Lib.bytesCells w e s).size, by simp, rfl, by omega⟩⟩ o.dst

theorem run_bytes_str {w : World} (src dst e : TypeId) (hs : P.underlying src = some (.slice e)) (hd : P.underlying dst = some .string) (he : P.underlying e = some (.int .u8)) (A : Option Addr) (c : Nat) (l : List UInt8)
    (hA : l ≠ [] → ∃ ad, A = some ad ∧ ∀ j b, l[j]? = some b → w.cell? (ad.add j) = some (.int .u8 b.toNat)) : (convert src dst (.slice A l.length c)).run P w = .ok (.string (S l)) w := by
  have hc : (convert src dst (.slice A l.length c)).run P w = (Conv.bytesToString (.slice A l.length c)).run P w := by
    cases A <;> simp [convert, run_underlying hs, run_underlying hd, run_underlying he]
  rw [hc]
  cases A with
  | none =>
    have : l = [] := by
      cases l with
      | nil => rfl
      | cons b l => obtain ⟨ad, h, _⟩ := hA (by simp); cases h
    subst this
    rfl
  | some A =>
    have hload : (loadCells A l.length).run P w = .ok ((l.map fun b => (b.toNat : Int)).map (Value.int .u8)).toArray w := by
      have h1 : (l.map fun b => Value.int .u8 (b.toNat : Int)).length = l.length := by simp
      rw [← h1, List.map_map]
      refine run_loadCells_list w A _ (fun j v hv => ?_)
      simp only [List.getElem?_map, Option.map_eq_some_iff] at hv
      obtain ⟨b, hb, rfl⟩ := hv
      obtain ⟨ad, h2, h3⟩ := hA (by rintro rfl; simp at hb)
      cases h2
      exact h3 j b hb
    rw [run_bytesToString w A l.length c _ hload, Go.foldl_push_bytes]
    congr 2
    apply ByteArray.ext
    simp only [S, List.map_map]
    have e1 : (l.map ((fun n : Int => UInt8.ofNat n.toNat) ∘ fun b : UInt8 => (b.toNat : Int))) = l := by
      refine (List.map_congr_left (fun b _ => ?_)).trans (List.map_id l)
      simp
    rw [e1]
    simp

theorem spec_conv_text (src dst : TypeId) (x : Operand) (h : o.op = .convert src dst x) {e : TypeId} (hs : P.underlying src = some (.slice e)) (hd : P.underlying dst = some .string) (he : P.underlying e = some (.int .u8)) (l : List UInt8)
    (hx : (∃ m off n ob, ev X x = .msl m off n 1 ∧ X.hp m = some ob ∧ (ob.cells.drop off).take n = bytesD l ∧ off + n ≤ ob.cells.length) ∨ (∃ n, ev X x = .t (.sl n (l.map fun b => .v (.int .u8 b.toNat))) ∧ n = l.length) ∨ (l = [] ∧ ev X x = .t (.v (.slice none 0 0)))) (F : List Nm) (hF : ∀ m off n sz, ev X x = .msl m off n sz → m ∈ F) :
    OpSpec Γ P o X { val := .t (.v (.string (S l))), F := F } := by
  intro E Y a w η hA hS K Q hK
  have hr := hS.ev x
  have hop := hA.2.1 x (by simp [h, Op.operands])
  rw [hop] at hr
  have fin : ∀ A c, a.eval x = .slice A l.length c → (l ≠ [] → ∃ ad, A = some ad ∧ ∀ j b, l[j]? = some b → w.cell? (ad.add j) = some (.int .u8 b.toNat)) → o.wp P a w K Q := by
    intro A c he' hc
    have hrun := run_bytes_str (P := P) (w := w) src dst e hs hd he A c l hc
    refine wp_val (v := .string (S l)) (w' := w) (by simp [execOp, h, he', hrun]) (hK _ _ η ?_)
    rw [app_val]
    exact hS.put (d := .t (.v _)) (by exact rfl) o.dst
  rcases hx with ⟨m, off, n, ob, hx, hm, hl, hle⟩ | ⟨n, hx, rfl⟩ | ⟨rfl, hx⟩
  · rw [hx] at hr
    obtain ⟨A, c, he', hnc, hcm, hR⟩ := hr
    have hm' : Y.hp m = some ob := (hA.2.2 m (hF m off n 1 hx)).trans hm
    have hn : n = l.length := by
      have := congrArg List.length hl
      simp at this
      omega
    subst hn
    refine fin A c he' (fun hne => ?_)
    have hpos : 0 < l.length := by cases l with | nil => exact absurd rfl hne | cons => simp
    rcases hR with hR | ⟨b, s, hη, rfl, hR⟩
    · omega
    · obtain ⟨cur, fr, hb⟩ := hS.block hm' hη
      refine ⟨_, rfl, fun j bt hbt => ?_⟩
      have hd' : ob.cells[off + j]? = some (.t (.v (.int .u8 bt.toNat))) := by
        have h1 : ((ob.cells.drop off).take l.length)[j]? = some (.t (.v (.int .u8 bt.toNat))) := by rw [hl]; simp [bytesD, hbt]
        rw [List.getElem?_take] at h1
        split at h1
        · rwa [List.getElem?_drop] at h1
        · cases h1
      obtain ⟨u, h1, _, h2⟩ := hb.cell hd'
      have h2 : u = .int .u8 bt.toNat := h2
      rw [add_at, h1, h2]
  · rw [hx] at hr
    obtain ⟨A, c, he', hnc, hcm, hR⟩ := hr
    refine fin A c he' (fun hne => ?_)
    rcases hR with hR | ⟨ad, rfl, hna, hR⟩
    · exact absurd (by simpa using hR) hne
    · refine ⟨ad, rfl, fun j bt hbt => ?_⟩
      obtain ⟨u, h1, _, h2⟩ := hR.get (i := j) (d := .v (.int .u8 bt.toNat)) (by simp [hbt])
      have h2 : u = .int .u8 bt.toNat := h2
      rw [Nat.zero_add] at h1
      rw [h1, h2]
  · rw [hx] at hr
    have hr : a.eval x = .slice none 0 0 := hr
    exact fin none 0 hr (fun h => absurd rfl h)
end
end Go.Ot
