/- Rows made whole, texts and bytes. -/
import Derived.Test.YtkbikblijipceaaGreatDoorOtB
set_option linter.unusedVariables false
set_option linter.unusedSimpArgs false
namespace Go.Ot
section
variable {Γ : Gl} {P : Program} {o : Oper} {X : St}
def vQ (z : List D) : Nat → List D
 | 0 => []
 | n + 1 => z ++ vQ z n
theorem tN (z : List D) : ∀ n, (vQ z n).length = n * z.length
 | 0 => by simp [vQ]
 | n + 1 => by simp [vQ, tN z n, Nat.add_mul, Nat.add_comm]
theorem jB (z : List D) (hz : 0 < z.length) : ∀ (n j : Nat), j < n * z.length → (vQ z n)[j]? = z[j % z.length]?
 | 0, j, h => by simp at h
 | n + 1, j, h => by
  simp only [vQ]
  by_cases e : j < z.length
  ·rw [List.getElem?_append_left e, Nat.mod_eq_of_lt e]
  ·rw [List.getElem?_append_right (by omega), jB z hz n (j - z.length) (by rw [Nat.succ_mul] at h; omega)]
   exact congrArg (fun i => z[i]?) (Nat.mod_eq_sub_mod (by omega)).symm
theorem jA (d : D) : ∀ n, vQ [d] n = List.replicate n d
 | 0 => rfl
 | n + 1 => by simp [vQ, jA d n, List.replicate_succ]
theorem aR {w : World} {M : Nat → Prop} {η : Et} {ds : List D} {z : Array Value} (h : Reps w M η ds z.toList) (n : Nat) : Reps w M η (vQ ds n) (madeCells z (n * ds.length)).toList := by
 have hl : z.size = ds.length := by have := h.length; simpa using this
 refine Reps.of_get (by simp [size_madeCells, tN]) (fun j d hd => ?_)
 have hj : j < n * ds.length := by rw [← tN]; exact (List.getElem?_eq_some_iff.1 hd).1
 have hp : 0 < ds.length := by
  rcases Nat.eq_zero_or_pos ds.length with e | e
  ·rw [e] at hj; omega
  ·exact e
 rw [jB ds hp n j hj] at hd
 obtain ⟨u, hu, h1, h2⟩ := h.get hd
 refine ⟨u, ?_, h1, h2⟩
 have hu' : z[j % z.size]? = some u := by rw [hl]; simpa using hu
 have hlt : j % z.size < z.size := (Array.getElem?_eq_some_iff.1 hu').1
 simp only [madeCells, Array.toList_map, Array.toList_range, List.getElem?_map, List.getElem?_range hj, Option.map_some]
 congr 1
 rw [getElem!_pos z (j % z.size) hlt]
 exact (Array.getElem?_eq_some_iff.1 hu').2
theorem gT (t : TypeId) (x y : Operand) (h : o.op = .makeSlice t x y) {e : TypeId} (ht : P.underlying t = some (.slice e)) {i : TypeInfo} (hi : P.info? e = some i) {zs : List D} (hz : wM P e = some zs) {sz : Nat} (hsz : zs.length = sz) (hsz' : i.size = sz) (rid j : Nat) (hm : X.hp (.r rid j 0) = none)
  {k k' : IntKind} {n : Int} (hx : ev X x = .t (.v (.int k n))) (hy : ev X y = .t (.v (.int k' n))) (h0 : 0 ≤ n) (hn : n ≤ 9223372036854775807) (hb : (i.bytes : Int) * n ≤ 281474976710656) :
  xD Γ P o X { val := .msl (.r rid j 0) 0 n.toNat sz, F := [.r rid j 0], upd := [(.r rid j 0, some ⟨vQ zs n.toNat, e, true, true⟩)] } := by
 intro E Y a w η hA hS K Q hK
 subst hsz
 obtain ⟨inf, z, hi', hzz, hR⟩ := pT hz
 rw [hi] at hi'
 cases hi'
 have hm' : Y.hp (.r rid j 0) = none := (hA.2.2 _ (by simp)).trans hm
 have hex := hS.ev x
 rw [hA.2.1 x (by simp [h, Op.operands]), hx] at hex
 have hex : a.eval x = .int k n := hex
 have hey := hS.ev y
 rw [hA.2.1 y (by simp [h, Op.operands]), hy] at hey
 have hey : a.eval y = .int k' n := hey
 have hr := hR w (Mx Y.hp η E.A) η
 have hmade := aR hr n.toNat
 have hrun := run_make (P := P) w t e i z ht hi hzz k k' n n h0 (Int.le_refl _) hb hn
 rw [hsz'] at hrun
 refine wR (v := .slice (some ⟨w.heap.size, 0, none⟩) n.toNat n.toNat) (w' := w.alloc (.cells (madeCells z.cells (n.toNat * zs.length)) e)) (by simp [execOp, h, hex, hey, hrun]) (hK _ _ (fH η (.r rid j 0) (some (w.heap.size, (madeCells z.cells (n.toNat * zs.length)).size))) ?_)
 rw [uN]
 have hl := hmade.length
 refine Sim.put (X := { Y with hp := upd Y.hp _ _ }) (hS.new hm' (hS.not_par rid j 0) ⟨vQ zs n.toNat, e, true, true⟩ _ (0, 0) (by intro j _ ⟨_, h2⟩; omega) rfl (by simp [size_madeCells, tN]) (by intro h; cases h) ?_) (d := .msl _ 0 _ _) ⟨_, _, rfl, Nat.le_refl _, by simp only [maxLen]; omega, .inr ⟨w.heap.size, (madeCells z.cells (n.toNat * zs.length)).size, by simp, rfl, by simp [size_madeCells]⟩⟩ o.dst
 have : (madeCells z.cells (n.toNat * zs.length)).toList.take (vQ zs n.toNat).length = (madeCells z.cells (n.toNat * zs.length)).toList := by rw [← hl]; exact List.take_length
 simpa [this] using hmade
theorem run_buildSlice {w : World} {t e : TypeId} {n : Nat} {vs : Array (Nat × Value)} (ht : P.underlying t = some (.slice e)) {i : TypeInfo} (hi : P.info? e = some i) {z : Value} (hz : i.zero = some z) (hs : n * i.size ≤ 16777216) {us : Array Value}
  (hf : Instr.fill (fun j => some (j * i.size, i.size)) (madeCells z.cells (n * i.size)) vs.toList = some us) : (Instr.buildSlice t n vs).run P w = .ok (.slice (some ⟨w.heap.size, 0, none⟩) n n) (w.alloc (.cells us e)) := by
 have h1 : ¬ (n * i.size > 2 ^ 24) := by omega
 by_cases h0 : n * i.size = 0
 ·have hm : madeCells z.cells (n * i.size) = (Array.range (n * i.size)).map ((#[] : Array Value)[· % (#[] : Array Value).size]!) := by rw [h0]; simp [madeCells]
  rw [hm] at hf
  simp only [Instr.buildSlice, Sem.run_bind, run_underlying ht, Result.andThen_ok, sizeOf, typeInfo, run_program, hi, Sem.run_pure, if_neg h1, if_pos h0, hf]
  rfl
 ·simp only [Instr.buildSlice, Sem.run_bind, run_underlying ht, Result.andThen_ok, sizeOf, typeInfo, run_program, hi, Sem.run_pure, if_neg h1, if_neg h0, zeroValue, hz]
  have hf' : Instr.fill (fun j => some (j * i.size, i.size)) ((Array.range (n * i.size)).map (z.cells[· % z.cells.size]!)) vs.toList = some us := hf
  simp only [hf']
  rfl
theorem gJ {E : Env} {Y : St} {a : Act} {w : World} {η : Et} (hS : Sim Γ E Y a w η) (parts : Array (Nat × Operand)) (hop : ∀ x ∈ parts.toList.map (·.2), ev Y x = ev X x) {zs : List D} {z : Array Value} (hR : Reps w (Mx Y.hp η E.A) η zs z.toList) {n sz : Nat} (hsz : zs.length = sz) {ds : List D}
  (hf : lL (fun j => some (j * sz, sz)) (vQ zs n) (parts.toList.map fun p => (p.1, ev X p.2)) = some ds) :
  ∃ us, Instr.fill (fun j => some (j * sz, sz)) (madeCells z (n * sz)) (parts.map fun (i, x) => (i, a.eval x)).toList = some us ∧ Reps w (Mx Y.hp η E.A) η ds us.toList := by
 subst hsz
 have hps : RepsA w (Mx Y.hp η E.A) η ((parts.toList.map fun p => (p.1, ev X p.2)).map (·.2)) ((parts.toList.map fun p => (p.1, a.eval p.2)).map (·.2)) :=
  RepsA.of_map _ (fun x hx => by rw [← hop x hx]; exact hS.ev x)
 obtain ⟨us, h1, h2⟩ := gB _ _ (parts.toList.map fun p => (p.1, a.eval p.2)) (vQ zs n) (madeCells z (n * zs.length)) (by simp) hps (aR hR n) hf
 exact ⟨us, by rw [← h1]; congr 1; simp, h2⟩
theorem aX (place : Nat → Option (Nat × Nat)) : ∀ (ps : List (Nat × D)) (cells : List D) {out : List D}, lL place cells ps = some out → out.length = cells.length
 | [], cells, out, h => by cases h; rfl
 | (i, d) :: ps, cells, out, h => by
  simp only [lL] at h
  split at h
  ·split at h
   ·rw [aX place ps _ h, setAt_length]
   ·cases h
  ·cases h
theorem jK (t n : Nat) (parts : Array (Nat × Operand)) (h : o.op = .buildSlice t n parts) {e : TypeId} (ht : P.underlying t = some (.slice e)) {i : TypeInfo} (hi : P.info? e = some i) {zs : List D} (hz : wM P e = some zs) {sz : Nat} (hsz : zs.length = sz) (hsz' : i.size = sz) (rid j : Nat) (hm : X.hp (.r rid j 0) = none)
  (hs : n * sz ≤ 16777216) {ds : List D} (hf : lL (fun j => some (j * sz, sz)) (vQ zs n) (parts.toList.map fun p => (p.1, ev X p.2)) = some ds) (hn : n ≤ maxLen) :
  xD Γ P o X { val := .msl (.r rid j 0) 0 n sz, F := [.r rid j 0], upd := [(.r rid j 0, some ⟨ds, e, true, true⟩)] } := by
 intro E Y a w η hA hS K Q hK
 obtain ⟨inf, z, hi', hzz, hR⟩ := pT hz
 rw [hi] at hi'
 cases hi'
 have hm' : Y.hp (.r rid j 0) = none := (hA.2.2 _ (by simp)).trans hm
 obtain ⟨us, h1, h2⟩ := gJ (X := X) hS parts (fun x hx => hA.2.1 x (by rw [h]; simpa [Op.operands] using hx)) (hR w _ η) (n := n) hsz hf
 have hrun := run_buildSlice (P := P) (w := w) ht hi hzz (by rw [hsz']; exact hs) (n := n) (vs := parts.map fun (i, x) => (i, a.eval x)) (us := us) (by rw [hsz']; exact h1)
 have hl := h2.length
 have hdl : ds.length = n * sz := by rw [aX _ _ _ hf, tN, hsz]
 have hus : us.size = n * sz := by rw [← hdl, ← hl]; simp
 refine wR (v := .slice (some ⟨w.heap.size, 0, none⟩) n n) (w' := w.alloc (.cells us e)) (by simp [execOp, h, hrun]) (hK _ _ (fH η (.r rid j 0) (some (w.heap.size, us.size))) ?_)
 rw [uN]
 refine Sim.put (X := { Y with hp := upd Y.hp _ _ }) (hS.new hm' (hS.not_par rid j 0) ⟨ds, e, true, true⟩ us (0, 0) (by intro j _ ⟨_, h2⟩; omega) rfl (by simp [hus, hdl]) (by intro h; cases h) ?_) (d := .msl _ 0 _ _) ⟨_, _, rfl, Nat.le_refl _, hn, .inr ⟨w.heap.size, us.size, by simp, rfl, by rw [hus, Nat.zero_add]⟩⟩ o.dst
 have : us.toList.take ds.length = us.toList := by rw [← hl]; exact List.take_length
 simpa [this] using h2
def bytesD (l : List UInt8) : List D := l.map fun b => .t (.v (.int .u8 b.toNat))
theorem cG (l : List UInt8) : bytesD l = (l.map fun b => T.v (.int .u8 b.toNat)).map .t := by simp [bytesD]
@[simp] theorem bytesD_len (l : List UInt8) : (bytesD l).length = l.length := by simp [bytesD]
@[simp] theorem yAR (m : Nm) (l : List UInt8) : D.hasL m (bytesD l) = false := by rw [cG]; exact lK m _
theorem gI (w : World) (e : TypeId) (s : ByteArray) : (Go.Lib.bytesWorld w e s).heap = (w.drew.alloc (.cells (Go.Lib.bytesCells w e s) e ((Go.Lib.bytesCells w e s).size, (Go.Lib.bytesCells w e s).size + 1))).heap := by
 apply Array.ext_getElem?
 intro j
 have hsz := Go.Lib.bytesWorld_size w e s
 by_cases h1 : j < w.heap.size
 ·rw [Go.Lib.bytesWorld_at_old w e s j h1, heap_alloc_old w.drew _ j h1]; rfl
 ·by_cases h2 : j = w.heap.size
  ·subst h2
   rw [Go.Lib.bytesWorld_at_new w e s]
   exact (heap_alloc_new w.drew _).symm
  ·rw [Array.getElem?_eq_none (by omega), Array.getElem?_eq_none (by simp; omega)]
theorem jJ (src dst : TypeId) (x : Operand) (h : o.op = .convert src dst x) {s : ByteArray} (hx : ev X x = .t (.v (.string s))) (hs : P.underlying src = some .string) {e : TypeId} (hd : P.underlying dst = some (.slice e)) (he : P.underlying e = some (.int .u8)) (rid j : Nat) (hm : X.hp (.r rid j 0) = none)
  (hl : s.data.toList.length ≤ maxLen) :
  xD Γ P o X { val := .msl (.r rid j 0) 0 s.data.toList.length 1, F := [.r rid j 0], upd := [(.r rid j 0, some ⟨bytesD s.data.toList, e, true, true⟩)] } := by
 intro E Y a w η hA hS K Q hK
 have hm' : Y.hp (.r rid j 0) = none := (hA.2.2 _ (by simp)).trans hm
 have hex := hS.ev x
 rw [hA.2.1 x (by simp [h, Op.operands]), hx] at hex
 have hex : a.eval x = .string s := hex
 have hrun := Go.Lib.run_convert_string_bytes (P := P) w src dst e s hs hd he
 have hge := grownCap_ge w s.size 0 e
 have hsz : s.size = s.data.toList.length := rfl
 have hcs : (Go.Lib.bytesCells w e s).size = grownCap w s.size 0 e := by
  simp only [Go.Lib.bytesCells, Array.size_append, Array.size_map, Array.size_replicate]
  have : s.data.size = s.size := rfl
  omega
 have hS' : Sim Γ E Y a w.drew η := hS.world rfl rfl rfl rfl
 have hcells : Reps w.drew (Mx Y.hp η E.A) η (bytesD s.data.toList) ((Go.Lib.bytesCells w e s).toList.take (bytesD s.data.toList).length) := by
  refine Reps.of_get (by simp [hcs]; omega) (fun i d hd => ?_)
  simp only [bytesD, List.getElem?_map, Option.map_eq_some_iff] at hd
  obtain ⟨b, hb, rfl⟩ := hd
  have hi : i < s.data.toList.length := (List.getElem?_eq_some_iff.1 hb).1
  refine ⟨.int .u8 b.toNat, ?_, rfl, rfl⟩
  rw [List.getElem?_take, if_pos (by simpa using hi)]
  simp only [Go.Lib.bytesCells, Array.toList_append, Array.toList_map]
  rw [List.getElem?_append_left (by simpa using hi)]
  simp only [List.getElem?_map, hb, Option.map_some]
 have h1 := hS'.new hm' (hS.not_par rid j 0) ⟨bytesD s.data.toList, e, true, true⟩ (Go.Lib.bytesCells w e s) ((Go.Lib.bytesCells w e s).size, (Go.Lib.bytesCells w e s).size + 1) (by intro i hi ⟨h2, _⟩; simp at h2; omega) rfl (by simp [hcs]; omega) (by intro h; cases h) hcells
 have h2 : Sim Γ E { Y with hp := upd Y.hp (.r rid j 0) (some ⟨bytesD s.data.toList, e, true, true⟩) } a (Go.Lib.bytesWorld w e s) (fH η (.r rid j 0) (some (w.heap.size, (Go.Lib.bytesCells w e s).size))) := h1.world (gI w e s) rfl rfl rfl
 refine wR (v := .slice (some ⟨w.heap.size, 0, none⟩) s.size (grownCap w s.size 0 e)) (w' := Go.Lib.bytesWorld w e s) (by simp [execOp, h, hex, hrun]) (hK _ _ (fH η (.r rid j 0) (some (w.heap.size, (Go.Lib.bytesCells w e s).size))) ?_)
 rw [uN]
 exact Sim.put (X := { Y with hp := upd Y.hp _ _ }) h2 (d := .msl _ 0 _ 1) ⟨_, _, rfl, hge, grownCap_le_maxLen w s.size 0 e hl, .inr ⟨w.heap.size, (Go.Lib.bytesCells w e s).size, by simp, rfl, by omega⟩⟩ o.dst
theorem dD {w : World} (src dst e : TypeId) (hs : P.underlying src = some (.slice e)) (hd : P.underlying dst = some .string) (he : P.underlying e = some (.int .u8)) (A : Option Addr) (c : Nat) (l : List UInt8)
  (hA : l ≠ [] → ∃ ad, A = some ad ∧ ∀ j b, l[j]? = some b → w.cell? (ad.add j) = some (.int .u8 b.toNat)) : (convert src dst (.slice A l.length c)).run P w = .ok (.string (S l)) w := by
 have hc : (convert src dst (.slice A l.length c)).run P w = (Conv.bytesToString (.slice A l.length c)).run P w := by
  cases A <;> simp [convert, run_underlying hs, run_underlying hd, run_underlying he]
 rw [hc]
 cases A with
 | none =>
  have : l = [] := by
   cases l with
   | nil => rfl
   | cons b l => obtain ⟨ad, h, _⟩ := hA (by simp); cases h
  subst this
  rfl
 | some A =>
  have hload : (loadCells A l.length).run P w = .ok ((l.map fun b => (b.toNat : Int)).map (Value.int .u8)).toArray w := by
   have h1 : (l.map fun b => Value.int .u8 (b.toNat : Int)).length = l.length := by simp
   rw [← h1, List.map_map]
   refine run_loadCells_list w A _ (fun j v hv => ?_)
   simp only [List.getElem?_map, Option.map_eq_some_iff] at hv
   obtain ⟨b, hb, rfl⟩ := hv
   obtain ⟨ad, h2, h3⟩ := hA (by rintro rfl; simp at hb)
   cases h2
   exact h3 j b hb
  rw [run_bytesToString w A l.length c _ hload, Go.foldl_push_bytes]
  congr 2
  apply ByteArray.ext
  simp only [S, List.map_map]
  have e1 : (l.map ((fun n : Int => UInt8.ofNat n.toNat) ∘ fun b : UInt8 => (b.toNat : Int))) = l := by
   refine (List.map_congr_left (fun b _ => ?_)).trans (List.map_id l)
   simp
  rw [e1]
  simp
theorem nM (src dst : TypeId) (x : Operand) (h : o.op = .convert src dst x) {e : TypeId} (hs : P.underlying src = some (.slice e)) (hd : P.underlying dst = some .string) (he : P.underlying e = some (.int .u8)) (l : List UInt8)
  (hx : (∃ m off n ob, ev X x = .msl m off n 1 ∧ X.hp m = some ob ∧ (ob.cells.drop off).take n = bytesD l ∧ off + n ≤ ob.cells.length) ∨ (∃ n, ev X x = .t (.sl n (l.map fun b => .v (.int .u8 b.toNat))) ∧ n = l.length) ∨ (l = [] ∧ ev X x = .t (.v (.slice none 0 0)))) (F : List Nm) (hF : ∀ m off n sz, ev X x = .msl m off n sz → m ∈ F) :
  xD Γ P o X { val := .t (.v (.string (S l))), F := F } := by
 intro E Y a w η hA hS K Q hK
 have hr := hS.ev x
 have hop := hA.2.1 x (by simp [h, Op.operands])
 rw [hop] at hr
 have fin : ∀ A c, a.eval x = .slice A l.length c → (l ≠ [] → ∃ ad, A = some ad ∧ ∀ j b, l[j]? = some b → w.cell? (ad.add j) = some (.int .u8 b.toNat)) → o.wp P a w K Q := by
  intro A c he' hc
  have hrun := dD (P := P) (w := w) src dst e hs hd he A c l hc
  refine wR (v := .string (S l)) (w' := w) (by simp [execOp, h, he', hrun]) (hK _ _ η ?_)
  rw [wW]
  exact hS.put (d := .t (.v _)) (by exact rfl) o.dst
 rcases hx with ⟨m, off, n, ob, hx, hm, hl, hle⟩ | ⟨n, hx, rfl⟩ | ⟨rfl, hx⟩
 ·rw [hx] at hr
  obtain ⟨A, c, he', hnc, hcm, hR⟩ := hr
  have hm' : Y.hp m = some ob := (hA.2.2 m (hF m off n 1 hx)).trans hm
  have hn : n = l.length := by
   have := congrArg List.length hl
   simp at this
   omega
  subst hn
  refine fin A c he' (fun hne => ?_)
  have hpos : 0 < l.length := by cases l with | nil => exact absurd rfl hne | cons => simp
  rcases hR with hR | ⟨b, s, hη, rfl, hR⟩
  ·omega
  ·obtain ⟨cur, fr, hb⟩ := hS.block hm' hη
   refine ⟨_, rfl, fun j bt hbt => ?_⟩
   have hd' : ob.cells[off + j]? = some (.t (.v (.int .u8 bt.toNat))) := by
    have h1 : ((ob.cells.drop off).take l.length)[j]? = some (.t (.v (.int .u8 bt.toNat))) := by rw [hl]; simp [bytesD, hbt]
    rw [List.getElem?_take] at h1
    split at h1
    ·rwa [List.getElem?_drop] at h1
    ·cases h1
   obtain ⟨u, h1, _, h2⟩ := hb.cell hd'
   have h2 : u = .int .u8 bt.toNat := h2
   rw [sJ, h1, h2]
 ·rw [hx] at hr
  obtain ⟨A, c, he', hnc, hcm, hR⟩ := hr
  refine fin A c he' (fun hne => ?_)
  rcases hR with hR | ⟨ad, rfl, hna, hR⟩
  ·exact absurd (by simpa using hR) hne
  ·refine ⟨ad, rfl, fun j bt hbt => ?_⟩
   obtain ⟨u, h1, _, h2⟩ := hR.get (i := j) (d := .v (.int .u8 bt.toNat)) (by simp [hbt])
   have h2 : u = .int .u8 bt.toNat := h2
   rw [Nat.zero_add] at h1
   rw [h1, h2]
 ·rw [hx] at hr
  have hr : a.eval x = .slice none 0 0 := hr
  exact fin none 0 hr (fun h => absurd rfl h)
end
end Go.Ot

namespace Go.Ot
def look : List (Nm × Ob) → Nm → Option Ob
 | [], _ => none
 | (m, o) :: r, m' => if m = m' then some o else look r m'
def vD (m : Nm) (o : Ob) : List (Nm × Ob) → List (Nm × Ob)
 | [] => [(m, o)]
 | (m', o') :: r => if m' = m then (m, o) :: r else (m', o') :: vD m o r
def lN (m : Nm) : List (Nm × Ob) → List (Nm × Ob)
 | [] => []
 | (m', o') :: r => if m' = m then lN m r else (m', o') :: lN m r
theorem qH (m : Nm) (o : Ob) : ∀ L : List (Nm × Ob), upd (look L) m (some o) = look (vD m o L)
 | [] => by
  funext m'
  by_cases e : m' = m
  ·subst e; simp [upd, look, vD]
  ·simp [upd, look, vD, e, Ne.symm e]
 | (m1, o1) :: L => by
  have ih := qH m o L
  funext m'
  have ih' := congrFun ih m'
  by_cases e1 : m1 = m
  ·subst e1
   by_cases e : m' = m1
   ·subst e; simp [upd, look, vD]
   ·simp [upd, look, vD, e, Ne.symm e]
  ·by_cases e : m' = m
   ·subst e
    simp only [upd_same] at ih' ⊢
    simp [look, vD, e1, ← ih']
   ·rw [upd_ne e] at ih' ⊢
    simp [look, vD, e1, ← ih']
theorem nV (m : Nm) : ∀ L : List (Nm × Ob), upd (look L) m none = look (lN m L)
 | [] => by funext m'; by_cases e : m' = m <;> simp [upd, look, lN, e]
 | (m1, o1) :: L => by
  have ih := nV m L
  funext m'
  have ih' := congrFun ih m'
  by_cases e1 : m1 = m
  ·subst e1
   by_cases e : m' = m1
   ·subst e; simp only [upd_same] at ih' ⊢; simp [look, lN, ← ih']
   ·rw [upd_ne e] at ih' ⊢; simp [look, lN, Ne.symm e, ← ih']
  ·by_cases e : m' = m
   ·subst e
    simp only [upd_same] at ih' ⊢
    simp [look, lN, e1, ← ih']
   ·rw [upd_ne e] at ih' ⊢
    simp [look, lN, e1, ← ih']
theorem yBu (m : Nm) : ∀ L : List (Nm × Ob), (fun m' => (look L m').map (Ob.poi m)) = look (L.map fun p => (p.1, p.2.poi m))
 | [] => rfl
 | (m1, o1) :: L => by
  funext m'
  have := congrFun (yBu m L) m'
  by_cases e : m1 = m'
  ·simp [look, e]
  ·simp only [look, e, if_false, List.map_cons]
   exact this
def lenF (P : Program) (X : St) : List Operand → List TypeId → Option (Rec × Prop)
 | [x], [t] => match ev X x with
  | .t (.v (.string s)) => some ({ val := .t (.v (.int .i64 s.data.toList.length)) }, P.underlying t = some .string)
  | .t (.sl n cs) => some ({ val := .t (.v (.int .i64 n)) }, P.underlying t = some (.slice (P.elem t)))
  | .msl m off n sz => some ({ val := .t (.v (.int .i64 n)) }, P.underlying t = some (.slice (P.elem t)))
  | .t (.v (.slice A n c)) => some ({ val := .t (.v (.int .i64 n)) }, P.underlying t = some (.slice (P.elem t)))
  | _ => none
 | _, _ => none
def mmF (mx : Bool) (X : St) : List Operand → Option (Rec × Prop)
 | [x, y] => match ev X x, ev X y with
  | .t (.v (.int k a)), .t (.v (.int k' b)) => some ({ val := .t (.v (.int k (if mx then max a b else min a b))) }, True)
  | _, _ => none
 | _ => none
def bytesOf (P : Program) (e : TypeId) : Nat := match P.info? e with | some i => i.bytes | none => 0
def wD (P : Program) (e : TypeId) : Bool := match P.info? e with | some i => (match i.zero with | some z => z.cells.size == i.size | none => false) | none => false
theorem qW {P : Program} {e : TypeId} (h : wD P e = true) : ∃ i z, P.info? e = some i ∧ i.zero = some z ∧ z.cells.size = i.size ∧ i.size = P.cellsOf e ∧ i.bytes = bytesOf P e := by
 unfold wD at h
 split at h
 ·rename_i i hi
  split at h
  ·rename_i z hz
   exact ⟨i, z, hi, hz, by simpa using h, by simp [Program.cellsOf, hi], by simp [bytesOf, hi]⟩
  ·cases h
 ·cases h
def srcF (P : Program) (X : St) (sz : Nat) (u : TypeId) : D → Option ((Nat × List D × List Nm) × Prop)
 | .t (.sl k cs) => some ((k, cs.map .t, []), cs.length = k * sz ∧ P.underlying u = some (.slice (P.elem u)))
 | .t (.v (.slice A 0 c)) => some ((0, [], []), P.underlying u = some (.slice (P.elem u)))
 | .t (.v (.string s)) => some ((s.data.toList.length, bytesD s.data.toList, []), sz = 1 ∧ P.underlying u = some .string)
 | .msl m off k sz' => match X.hp m with
  | some ob => some ((k, (ob.cells.drop off).take (k * sz), [m]), sz' = sz ∧ off + k * sz ≤ ob.cells.length ∧ P.underlying u = some (.slice (P.elem u)))
  | none => none
 | _ => none
theorem cF (s : ByteArray) : (yAe s).map D.t = bytesD s.data.toList := by
 simp only [yAe, bytesD, List.map_map]
 rfl
theorem fK {P : Program} {X : St} {sz : Nat} {u : TypeId} {d : D} {k : Nat} {nd : List D} {F : List Nm} {c : Prop} (h : srcF P X sz u d = some ((k, nd, F), c)) (hc : c) : yJD P X sz u d k nd F := by
 unfold srcF at h
 split at h
 ·cases h; exact src_sl ⟨_, hc.2⟩ hc.1
 ·cases h; exact yH2 ⟨_, hc⟩
 ·cases h
  obtain ⟨rfl, hc⟩ := hc
  have := yH1 (P := P) (X := X) hc
  rw [← cF]
  exact this _
 ·split at h
  ·rename_i m off k sz' _ ob hm
   cases h
   obtain ⟨rfl, hc⟩ := hc
   exact yH3 ⟨_, hc.2⟩ hm hc.1
  ·cases h
 ·cases h
def appF (P : Program) (rid i : Nat) (X : St) : List Operand → List TypeId → Option (Rec × Prop)
 | [s, x], [t, u] => match ev X s, srcF P X (P.cellsOf (P.elem t)) u (ev X x) with
  | .msl m 0 n sz, some ((k, nd, F), c) => match X.hp m with
   | some ob => some ({ val := .msl m 0 (n + k) sz, F := m :: F, bar := true, poi := [m], upd := [(m, some { ob with cells := ob.cells ++ nd })] },
     c ∧ sz = P.cellsOf (P.elem t) ∧ ob.own = true ∧ ob.row = true ∧ ob.ty = P.elem t ∧ ob.cells.length = n * sz ∧ D.hasL m ob.cells = false ∧ D.hasL m nd = false ∧ n + k ≤ maxLen ∧ (n + k) * bytesOf P (P.elem t) ≤ 140737488355328 ∧ P.underlying t = some (.slice (P.elem t)) ∧ wD P (P.elem t) = true)
   | none => none
  | .t (.v (.slice none 0 0)), some ((k, nd, F), c) => some ({ val := .msl (.r rid i 0) 0 k (P.cellsOf (P.elem t)), F := .r rid i 0 :: F, upd := [(.r rid i 0, some ⟨nd, P.elem t, true, true⟩)] },
     c ∧ X.hp (.r rid i 0) = none ∧ k ≤ maxLen ∧ k * bytesOf P (P.elem t) ≤ 140737488355328 ∧ P.underlying t = some (.slice (P.elem t)) ∧ wD P (P.elem t) = true)
  | _, _ => none
 | _, _ => none
def sM (P : Program) (rid i : Nat) (X : St) (c : Call) : Option (Rec × Prop) :=
 match c.callee with
 | .builtin .append => appF P rid i X c.args.toList c.argTypes.toList
 | .builtin .len => lenF P X c.args.toList c.argTypes.toList
 | .builtin .min => mmF false X c.args.toList
 | .builtin .max => mmF true X c.args.toList
 | _ => none
def wP (P : Program) (rid i : Nat) (X : St) (o : Oper) : Option (Rec × Prop) :=
 match o.op with
 | .move x => some ({ val := ev X x }, True)
 | .assign x => some ({ val := ev X x }, True)
 | .pick c x y => match ev X c with
  | .t (.v (.bool b)) => some ({ val := if b then ev X x else ev X y }, True)
  | _ => none
 | .alloc t => match wM P t with
  | some ds => some ({ val := .ptr (.r rid i 0) 0, F := [.r rid i 0], upd := [(.r rid i 0, some ⟨ds, t, false, true⟩)] }, X.hp (.r rid i 0) = none)
  | none => none
 | .box t x => match (ev X x).cells with
  | some ds => some ({ val := .ptr (.r rid i 0) 0, F := [.r rid i 0], upd := [(.r rid i 0, some ⟨ds, t, false, true⟩)] }, X.hp (.r rid i 0) = none)
  | none => none
 | .build t ps => match wM P t with
  | some zs => match lL (placeOf P t) zs (ps.toList.map fun p => (p.1, ev X p.2)) with
   | some ds => some ({ val := .agg ds }, wO P t = true)
   | none => none
  | none => none
 | .load t x => match ev X x with
  | .ptr m off => match X.hp m with
   | some ob => if xP P t then some ({ val := .agg ((ob.cells.drop off).take (P.cellsOf t)), F := [m] }, off + P.cellsOf t ≤ ob.cells.length ∧ (P.underlying t).isSome = true ∧ (P.info? t).isSome = true)
     else some ({ val := ob.cells.getD off .bad, F := [m] }, off < ob.cells.length ∧ P.cellsOf t = 1 ∧ (P.underlying t).isSome = true ∧ (P.info? t).isSome = true)
   | none => none
  | .rop cs => if xP P t then some ({ val := .agg ((cs.take (P.cellsOf t)).map .t) }, P.cellsOf t ≤ cs.length ∧ 0 < P.cellsOf t ∧ (P.underlying t).isSome = true ∧ (P.info? t).isSome = true)
    else some ({ val := (cs.map D.t).headD .bad }, 0 < cs.length ∧ P.cellsOf t = 1 ∧ (P.underlying t).isSome = true ∧ (P.info? t).isSome = true)
  | _ => none
 | .store t x y => match ev X x with
  | .ptr m off => match X.hp m, (ev X y).cells with
   | some ob, some ds => some ({ val := .bad, F := [m], upd := [(m, some { ob with cells := setAt ob.cells off ds })] }, ob.own = true ∧ (P.info? t).isSome = true ∧ P.cellsOf t = ds.length ∧ off + ds.length ≤ ob.cells.length)
   | _, _ => none
  | _ => none
 | .fieldAddr s x f => match wB P s f with
  | some (fo, n, ty) => match ev X x with
   | .ptr m off => some ({ val := .ptr m (off + fo) }, 0 < n ∧ (P.info? ty).isSome = true)
   | .rop cs => some ({ val := .rop (cs.drop fo) }, 0 < n ∧ (P.info? ty).isSome = true)
   | _ => none
  | none => none
 | .field s x f => match wB P s f, ev X x with
  | some (fo, n, ty), .agg ds => some ({ val := D.ofCells (xP P ty) ((ds.drop fo).take n) }, fo + n ≤ ds.length ∧ (P.underlying ty).isSome = true ∧ (P.info? ty).isSome = true ∧ (xP P ty = false → n = 1))
  | _, _ => none
 | .indexAddr t x y => match ev X x, ev X y with
  | .ptr m off, .t (.v (.int k j)) => some ({ val := .ptr m (off + j.toNat * P.cellsOf (P.elem t)) }, 0 ≤ j ∧ j < P.arrayLen t ∧ P.underlying t = some (.array (P.arrayLen t) (P.elem t)) ∧ (P.info? (P.elem t)).isSome = true)
  | .msl m off n sz, .t (.v (.int k j)) => some ({ val := .ptr m (off + j.toNat * sz) }, 0 ≤ j ∧ j < n ∧ P.cellsOf (P.elem t) = sz ∧ P.underlying t = some (.slice (P.elem t)) ∧ (P.info? (P.elem t)).isSome = true)
  | .t (.sl n cs), .t (.v (.int k j)) => some ({ val := .rop (cs.drop (j.toNat * P.cellsOf (P.elem t))) }, 0 ≤ j ∧ j < n ∧ 0 < cs.length ∧ P.underlying t = some (.slice (P.elem t)) ∧ (P.info? (P.elem t)).isSome = true)
  | _, _ => none
 | .index t x y => match ev X x, ev X y with
  | .t (.v (.string s)), .t (.v (.int k j)) => some ({ val := .t (.v (.int .u8 (s.data.toList.getD j.toNat 0).toNat)) }, 0 ≤ j ∧ j < s.data.toList.length ∧ P.underlying t = some .string)
  | .agg ds, .t (.v (.int k j)) => some ({ val := D.ofCells (xP P (P.elem t)) ((ds.drop (j.toNat * P.cellsOf (P.elem t))).take (P.cellsOf (P.elem t))) }, 0 ≤ j ∧ j < P.arrayLen t ∧ P.underlying t = some (.array (P.arrayLen t) (P.elem t)) ∧ (P.underlying (P.elem t)).isSome = true ∧ (P.info? (P.elem t)).isSome = true ∧
    j.toNat * P.cellsOf (P.elem t) + P.cellsOf (P.elem t) ≤ ds.length ∧ (xP P (P.elem t) = false → P.cellsOf (P.elem t) = 1))
  | _, _ => none
 | .slice t x lo hi none => match ev X x with
  | .t (.v (.string s)) => match bound X 0 lo, bound X s.data.toList.length hi with
   | some l, some r => some ({ val := .t (.v (.string (S ((s.data.toList.take r).drop l)))) }, l ≤ r ∧ r ≤ s.data.toList.length ∧ P.underlying t = some .string)
   | _, _ => none
  | .msl m off n sz => match bound X 0 lo, bound X n hi with
   | some l, some r => some ({ val := .msl m (off + l * sz) (r - l) sz }, l ≤ r ∧ r ≤ n ∧ P.cellsOf (P.elem t) = sz ∧ P.underlying t = some (.slice (P.elem t)) ∧ (P.info? (P.elem t)).isSome = true)
   | _, _ => none
  | .t (.sl n cs) => match bound X 0 lo, bound X n hi with
   | some l, some r => some ({ val := .t (.sl (r - l) ((cs.drop (l * P.cellsOf (P.elem t))).take ((r - l) * P.cellsOf (P.elem t)))) }, l ≤ r ∧ r ≤ n ∧ cs.length = n * P.cellsOf (P.elem t) ∧ P.underlying t = some (.slice (P.elem t)) ∧ (P.info? (P.elem t)).isSome = true)
   | _, _ => none
  | _ => none
 | .extract x j => match ev X x with
  | .tup ds => match ds[j]? with
   | some d => some ({ val := d }, True)
   | none => none
  | _ => none
 | .makeInterface t x => some ({ val := yDU t (ev X x) }, xI P t = true)
 | .makeFunc (.func f) first caps => if first.isEmpty then some ({ val := .fn f (caps.toList.map (ev X)) }, True) else none
 | .nilCheck x => match ev X x with
  | .ptr m off => some ({ val := .ptr m off }, True)
  | .rop cs => some ({ val := .rop cs }, True)
  | .fn f caps => some ({ val := .fn f caps }, True)
  | _ => none
 | .binOp op t x y u => match ev X x, ev X y with
  | .t (.v a), .t (.v b) => match binV P t op a b with
   | some (v, c) => some ({ val := .t (.v v) }, c ∧ ¬ (a = .nilIface ∧ b = .nilIface))
   | none => none
  | .t (.sl n (d :: ds)), .t (.v (.slice none 0 0)) => match op, y with
   | .eql, .const (.slice none 0 0) => some ({ val := .t (.v (.bool false)) }, P.underlying t = some (.slice (P.elem t)))
   | .neq, .const (.slice none 0 0) => some ({ val := .t (.v (.bool true)) }, P.underlying t = some (.slice (P.elem t)))
   | _, _ => none
  | _, _ => none
 | .unOp op t x => match ev X x with
  | .t (.v a) => match unV op a with
   | some v => some ({ val := .t (.v v) }, True)
   | none => none
  | _ => none
 | .convert s d x => match ev X x with
  | .t (.v (.int k n)) => match P.underlying d with
   | some (.int k') => some ({ val := .t (.v (.int k' (k'.wrap n))) }, (P.underlying s).isSome = true)
   | _ => none
  | .t (.v (.string b)) => match P.underlying d with
   | some .string => some ({ val := .t (.v (.string b)) }, P.underlying s = some .string)
   | some (.slice e) => some ({ val := .msl (.r rid i 0) 0 b.data.toList.length 1, F := [.r rid i 0], upd := [(.r rid i 0, some ⟨bytesD b.data.toList, e, true, true⟩)] }, P.underlying s = some .string ∧ P.underlying e = some (.int .u8) ∧ X.hp (.r rid i 0) = none ∧ b.data.toList.length ≤ maxLen)
   | _ => none
  | _ => none
 | .buildSlice t n ps => match wM P (P.elem t) with
  | some zs => match lL (fun j => some (j * P.cellsOf (P.elem t), P.cellsOf (P.elem t))) (vQ zs n) (ps.toList.map fun p => (p.1, ev X p.2)) with
   | some ds => some ({ val := .msl (.r rid i 0) 0 n (P.cellsOf (P.elem t)), F := [.r rid i 0], upd := [(.r rid i 0, some ⟨ds, P.elem t, true, true⟩)] },
     P.underlying t = some (.slice (P.elem t)) ∧ wD P (P.elem t) = true ∧ zs.length = P.cellsOf (P.elem t) ∧ X.hp (.r rid i 0) = none ∧ n * P.cellsOf (P.elem t) ≤ 16777216 ∧ n ≤ maxLen)
   | none => none
  | none => none
 | .makeSlice t x y => match ev X x, ev X y, wM P (P.elem t) with
  | .t (.v (.int k n)), .t (.v (.int k' n')), some zs => some ({ val := .msl (.r rid i 0) 0 n.toNat (P.cellsOf (P.elem t)), F := [.r rid i 0], upd := [(.r rid i 0, some ⟨vQ zs n.toNat, P.elem t, true, true⟩)] },
     P.underlying t = some (.slice (P.elem t)) ∧ wD P (P.elem t) = true ∧ zs.length = P.cellsOf (P.elem t) ∧ X.hp (.r rid i 0) = none ∧ n' = n ∧ 0 ≤ n ∧ n ≤ 9223372036854775807 ∧ (bytesOf P (P.elem t) : Int) * n ≤ 281474976710656)
  | _, _, _ => none
 | .call c => sM P rid i X c
 | _ => none
section
variable {Γ : Gl} {P : Program} {o : Oper} {X : St}
theorem yAN {cs : List D} {off : Nat} (h : off < cs.length) : D.ofCells false ((cs.drop off).take 1) = cs.getD off .bad := by
 simp only [D.ofCells, Bool.false_eq_true, if_false, List.getD_eq_getElem?_getD, List.getElem?_eq_getElem h, Option.getD_some]
 rw [List.drop_eq_getElem_cons h]
 rfl
theorem jF {rid i : Nat} {r : Rec} {c : Prop} (h : wP P rid i X o = some (r, c)) (hc : c) : xD Γ P o X r ∧ Tidy r := by
 unfold wP at h
 split at h
 ·rename_i x ho; cases h; exact ⟨cZ x (.inl ho), fun _ => rfl⟩
 ·rename_i x ho; cases h; exact ⟨cZ x (.inr ho), fun _ => rfl⟩
 ·rename_i c' x y ho
  split at h
  ·rename_i b hb; cases h; exact ⟨yDh c' x y ho b hb, fun _ => rfl⟩
  ·cases h
 ·rename_i t ho
  split at h
  ·rename_i ds hds; cases h; exact ⟨yCg t ho rid i 0 hc hds, fun _ => rfl⟩
  ·cases h
 ·rename_i t x ho
  split at h
  ·rename_i ds hds; cases h; exact ⟨yFE t x ho rid i 0 hc hds, fun _ => rfl⟩
  ·cases h
 ·rename_i t ps ho
  split at h
  ·rename_i zs hzs
   split at h
   ·rename_i ds hds; cases h; exact ⟨yCf t ps ho hzs hc hds, fun _ => rfl⟩
   ·cases h
  ·cases h
 ·rename_i t x ho
  split at h
  ·rename_i m off hx
   split at h
   ·rename_i ob hm
    split at h
    ·rename_i hb
     cases h
     refine ⟨?_, fun _ => rfl⟩
     have := nZ (Γ := Γ) (P := P) t x ho hx hm hc.2.1 hc.2.2 hc.1 (by rw [hb]; intro h; cases h)
     rw [hb] at this
     exact this
    ·rename_i hb
     cases h
     refine ⟨?_, fun _ => rfl⟩
     have hb : xP P t = false := by simpa using hb
     have := nZ (Γ := Γ) (P := P) t x ho hx hm hc.2.2.1 hc.2.2.2 (by rw [hc.2.1]; exact hc.1) (fun _ => hc.2.1)
     rw [hb, hc.2.1, yAN hc.1] at this
     exact this
   ·cases h
  ·rename_i cs hx
   split at h
   ·rename_i hb
    cases h
    refine ⟨?_, fun _ => rfl⟩
    have := nY (Γ := Γ) (P := P) t x ho hx hc.2.2.1 hc.2.2.2 hc.1 hc.2.1 (by rw [hb]; intro h; cases h)
    rw [hb] at this
    simpa [D.ofCells, List.map_take] using this
   ·rename_i hb
    cases h
    refine ⟨?_, fun _ => rfl⟩
    have hb : xP P t = false := by simpa using hb
    have := nY (Γ := Γ) (P := P) t x ho hx hc.2.2.1 hc.2.2.2 (by rw [hc.2.1]; exact hc.1) (by rw [hc.2.1]; exact Nat.one_pos) (fun _ => hc.2.1)
    rw [hb, hc.2.1] at this
    cases cs with
    | nil => simp at hc
    | cons c cs => simpa [D.ofCells] using this
  ·cases h
 ·rename_i t x y ho
  split at h
  ·rename_i m off hx
   split at h
   ·rename_i ob ds hm hy
    cases h
    exact ⟨yCd t x y ho hx hm hc.1 hy hc.2.1 hc.2.2.1 hc.2.2.2, fun _ => rfl⟩
   ·cases h
  ·cases h
 ·rename_i s x f ho
  split at h
  ·rename_i fo n ty hf
   split at h
   ·rename_i m off hx; cases h; exact ⟨mC s x f ho hx hf hc.1 hc.2, fun _ => rfl⟩
   ·rename_i cs hx; cases h; exact ⟨mB s x f ho hx hf hc.1 hc.2, fun _ => rfl⟩
   ·cases h
  ·cases h
 ·rename_i s x f ho
  split at h
  ·rename_i fo n ty ds hf hx; cases h; exact ⟨yCe s x f ho hx hf hc.2.1 hc.2.2.1 hc.1 hc.2.2.2, fun _ => rfl⟩
  ·cases h
 ·rename_i t x y ho
  split at h
  ·rename_i m off k j hx hy; cases h; exact ⟨gX t x y ho hc.2.2.1 hc.2.2.2 hx hy hc.1 hc.2.1, fun _ => rfl⟩
  ·rename_i m off n sz k j hx hy; cases h; exact ⟨gW t x y ho hc.2.2.2.1 hc.2.2.2.2 hx hc.2.2.1 hy hc.1 hc.2.1, fun _ => rfl⟩
  ·rename_i n cs k j hx hy; cases h; exact ⟨eY t x y ho hc.2.2.2.1 hc.2.2.2.2 hx hy hc.1 hc.2.1 hc.2.2.1, fun _ => rfl⟩
  ·cases h
 ·rename_i t x y ho
  split at h
  ·rename_i s k j hx hy; cases h; exact ⟨gV t x y ho hc.2.2 hx hy hc.1 hc.2.1, fun _ => rfl⟩
  ·rename_i ds k j hx hy; cases h; exact ⟨gU t x y ho hc.2.2.1 hc.2.2.2.1 hc.2.2.2.2.1 hx hy hc.1 hc.2.1 hc.2.2.2.2.2.1 hc.2.2.2.2.2.2, fun _ => rfl⟩
  ·cases h
 ·rename_i t x lo hi ho
  split at h
  ·rename_i s hx
   split at h
   ·rename_i l r' h1 h2; cases h; exact ⟨gR t x lo hi ho hc.2.2 hx h2 h1 hc.1 hc.2.1, fun _ => rfl⟩
   ·cases h
  ·rename_i m off n sz hx
   split at h
   ·rename_i l r' h1 h2; cases h; exact ⟨gS t x lo hi ho hc.2.2.2.1 hc.2.2.2.2 hx hc.2.2.1 h2 h1 hc.1 hc.2.1, fun _ => rfl⟩
   ·cases h
  ·rename_i n cs hx
   split at h
   ·rename_i l r' h1 h2; cases h; exact ⟨eV t x lo hi ho hc.2.2.2.1 hc.2.2.2.2 hx h2 h1 hc.1 hc.2.1 hc.2.2.1, fun _ => rfl⟩
   ·cases h
  ·cases h
 ·rename_i x j ho
  split at h
  ·rename_i ds hx
   split at h
   ·rename_i d hd; cases h; exact ⟨bC x j ho hx d hd, fun _ => rfl⟩
   ·cases h
  ·cases h
 ·rename_i t x ho; cases h; exact ⟨nX t x ho hc, fun _ => rfl⟩
 ·rename_i f first caps ho
  split at h
  ·rename_i hf
   cases h
   have : first = #[] := by simpa using hf
   subst this
   exact ⟨eX f caps ho, fun _ => rfl⟩
  ·cases h
 ·rename_i x ho
  split at h
  ·rename_i m off hx
   cases h
   have := qK (Γ := Γ) (P := P) (X := X) x ho (.inl ⟨m, off, hx⟩)
   rw [hx] at this
   exact ⟨this, fun _ => rfl⟩
  ·rename_i cs hx
   cases h
   have := qK (Γ := Γ) (P := P) (X := X) x ho (.inr (.inl ⟨cs, hx⟩))
   rw [hx] at this
   exact ⟨this, fun _ => rfl⟩
  ·rename_i f caps hx
   cases h
   have := qK (Γ := Γ) (P := P) (X := X) x ho (.inr (.inr ⟨f, caps, hx⟩))
   rw [hx] at this
   exact ⟨this, fun _ => rfl⟩
  ·cases h
 ·rename_i op t x y u ho
  split at h
  ·rename_i a b hx hy
   split at h
   ·rename_i v c' hv; cases h; exact ⟨yFF op t u x y ho hx hy hv hc.1 hc.2, fun _ => rfl⟩
   ·cases h
  ·rename_i n d ds hx hy
   split at h
   ·cases h; exact ⟨fL t u x false ho hx hc, fun _ => rfl⟩
   ·cases h; exact ⟨fL t u x true ho hx hc, fun _ => rfl⟩
   ·cases h
  ·cases h
 ·rename_i op t x ho
  split at h
  ·rename_i a hx
   split at h
   ·rename_i v hv; cases h; exact ⟨yH4 op t x ho hx hv, fun _ => rfl⟩
   ·cases h
  ·cases h
 ·rename_i s d x ho
  split at h
  ·rename_i k n hx
   split at h
   ·rename_i k' hd; cases h; exact ⟨dA s d x ho hx hc hd, fun _ => rfl⟩
   ·cases h
  ·rename_i b hx
   split at h
   ·rename_i hd; cases h; exact ⟨eZ s d x ho hx hc hd, fun _ => rfl⟩
   ·rename_i e hd; cases h; exact ⟨jJ s d x ho hx hc.1 hd hc.2.1 rid i hc.2.2.1 hc.2.2.2, fun _ => rfl⟩
   ·cases h
  ·cases h
 ·rename_i t n ps ho
  split at h
  ·rename_i zs hz
   split at h
   ·rename_i ds hf
    cases h
    obtain ⟨h1, h2, h3, h4, h5, h6⟩ := hc
    obtain ⟨inf, z, hi, _, _, hs, _⟩ := qW h2
    exact ⟨jK t n ps ho h1 hi hz h3 hs rid i h4 h5 hf h6, fun _ => rfl⟩
   ·cases h
  ·cases h
 ·rename_i t x y ho
  split at h
  ·rename_i k n k' n' zs hx hy hz
   cases h
   obtain ⟨h1, h2, h3, h4, rfl, h6, h7, h8⟩ := hc
   obtain ⟨inf, z, hi, _, _, hs, hb⟩ := qW h2
   rw [← hb] at h8
   exact ⟨gT t x y ho h1 hi hz h3 hs rid i h4 hx hy h6 h7 h8, fun _ => rfl⟩
  ·cases h
 ·rename_i cl ho
  obtain ⟨callee, args, tys⟩ := cl
  have la : ∀ {α : Type} (l : List α) (x : Array α), x.toList = l → x = l.toArray := fun l x h => by rw [← h]
  unfold sM at h
  simp only at h
  split at h
  ·unfold appF at h
   split at h
   ·rename_i s x t u h1 h2
    have h1 := la _ _ h1
    have h2 := la _ _ h2
    subst h1
    subst h2
    split at h
    ·rename_i m n sz k nd F c' hs hsrc
     split at h
     ·rename_i ob hm
      cases h
      obtain ⟨h1, rfl, h3, h4, h5, h6, h7, h8, h9, h10, h11, h12⟩ := hc
      obtain ⟨inf, z, hi, hz, hzs, hsz, hb⟩ := qW h12
      refine ⟨spec_append s x t u ho h11 hi hz hzs hsz hs hm h3 h4 h5 h6 (fK hsrc h1) h7 h8 h9 (by rw [hb]; exact h10), fun e => by cases e⟩
     ·cases h
    ·rename_i k nd F c' hs hsrc
     cases h
     obtain ⟨h1, h2, h3, h4, h5, h6⟩ := hc
     obtain ⟨inf, z, hi, hz, hzs, hsz, hb⟩ := qW h6
     refine ⟨jL s x t u ho h5 hi hz hzs hsz hs rid i 0 h2 (fK hsrc h1) h3 (by rw [hb]; exact h4), fun _ => rfl⟩
    ·cases h
   ·cases h
  ·unfold lenF at h
   split at h
   ·rename_i x t h1 h2
    have h1 := la _ _ h1
    have h2 := la _ _ h2
    subst h1
    subst h2
    split at h
    ·rename_i s hx; cases h; exact ⟨bA x t ho hc hx, fun _ => rfl⟩
    ·rename_i n cs hx; cases h; exact ⟨yBj x t ho hc (.inl ⟨cs, hx⟩), fun _ => rfl⟩
    ·rename_i m off n sz hx; cases h; exact ⟨yBj x t ho hc (.inr ⟨m, off, sz, hx⟩), fun _ => rfl⟩
    ·rename_i A n c hx; cases h; exact ⟨bB x t ho hc hx, fun _ => rfl⟩
    ·cases h
   ·cases h
  ·unfold mmF at h
   split at h
   ·rename_i x y h1
    have h1 := la _ _ h1
    subst h1
    split at h
    ·rename_i k a k' b hx hy; cases h; exact ⟨jI false x y tys ho hx hy, fun _ => rfl⟩
    ·cases h
   ·cases h
  ·unfold mmF at h
   split at h
   ·rename_i x y h1
    have h1 := la _ _ h1
    subst h1
    split at h
    ·rename_i k a k' b hx hy; cases h; exact ⟨jI true x y tys ho hx hy, fun _ => rfl⟩
    ·cases h
   ·cases h
  ·cases h
 ·cases h
end
def wpS (Γ : Gl) (P : Program) (ops : Array Oper) (rid : Nat) : Nat → List Oper → St → List Meta → (St → List Meta → Prop) → Prop
 | _, [], X, acc, K => K X acc
 | i, o :: os, X, acc, K =>
  match o.guard with
  | none => match wP P rid i X o with
   | some (r, c) => c ∧ wpS Γ P ops rid (i + 1) os (X.app o.dst r) (acc ++ [r.info]) K
   | none => ∃ r, xD Γ P o X r ∧ Tidy r ∧ wpS Γ P ops rid (i + 1) os (X.app o.dst r) (acc ++ [r.info]) K
  | some (g, want) => ∃ b, vO (vV ops X g) want = some b ∧ (b = true → match wP P rid i X o with
     | some (r, c) => c ∧ wpS Γ P ops rid (i + 1) os (X.app o.dst r) (acc ++ [r.info]) K
     | none => ∃ r, xD Γ P o X r ∧ Tidy r ∧ wpS Γ P ops rid (i + 1) os (X.app o.dst r) (acc ++ [r.info]) K) ∧
    (b = false → wpS Γ P ops rid (i + 1) os (X.app o.dst { val := udf }) (acc ++ [⟨[], [], false⟩]) K)
def wpK (Γ : Gl) (P : Program) : Code → (Exit → St → Prop) → St → Prop
 | .skip, Q, X => Q .normal X
 | .region id ops draw, Q, X => (wpS Γ P ops id 0 ops.toList X [] fun Z ms => (draw = true → mK ops ms = true) ∧ Q .normal Z) ∨ (draw = true ∧ wpG Γ P ops X (Q .normal))
 | .seq a b, Q, X => wpK Γ P a (fun e Z => match e with | .normal => ∃ Z', Le Γ Z Z' ∧ wpK Γ P b Q Z' | e => Q e Z) X
 | .cond c x y, Q, X => ∃ b, ev X c = .t (.v (.bool b)) ∧ (b = true → wpK Γ P x Q X) ∧ (b = false → wpK Γ P y Q X)
 | .block id c, Q, X => wpK Γ P c (fun e Z => match e with | .exit id' => if id' = id then Q .normal Z else Q (.exit id') Z | e => Q e Z) X
 | .loop c, Q, X => ∃ (I : St → Prop) (μ : St → Nat), (∃ X', Le Γ X X' ∧ I X') ∧ ∀ Y, I Y → wpK Γ P c (fun e Z => match e with | .normal => ∃ Z', Le Γ Z Z' ∧ I Z' ∧ μ Z' < μ Y | e => Q e Z) Y
 | .exit id, Q, X => Q (.exit id) X
 | .label _, Q, X => Q .normal X
 | .goto l, Q, X => Q (.goto l) X
 | .ret, Q, X => Q .ret X
 | _, _, _ => False
theorem yFn {Γ : Gl} {P : Program} {ops : Array Oper} {rid : Nat} {K : St → List Meta → Prop} : ∀ (os : List Oper) (i : Nat) (X : St) (acc : List Meta), wpS Γ P ops rid i os X acc K → wpR Γ P ops os X acc K
 | [], i, X, acc, h => h
 | o :: os, i, X, acc, h => by
  have run : (match wP P rid i X o with
   | some (r, c) => c ∧ wpS Γ P ops rid (i + 1) os (X.app o.dst r) (acc ++ [r.info]) K
   | none => ∃ r, xD Γ P o X r ∧ Tidy r ∧ wpS Γ P ops rid (i + 1) os (X.app o.dst r) (acc ++ [r.info]) K) → ∃ r, xD Γ P o X r ∧ Tidy r ∧ wpR Γ P ops os (X.app o.dst r) (acc ++ [r.info]) K := by
   intro h
   split at h
   ·rename_i r c hr
    obtain ⟨h1, h2⟩ := jF (Γ := Γ) hr h.1
    exact ⟨r, h1, h2, yFn os (i + 1) _ _ h.2⟩
   ·obtain ⟨r, h1, h2, h3⟩ := h
    exact ⟨r, h1, h2, yFn os (i + 1) _ _ h3⟩
  unfold wpR
  unfold wpS at h
  cases hg : o.guard with
  | none =>
   rw [hg] at h
   exact run h
  | some gw =>
   obtain ⟨g, want⟩ := gw
   rw [hg] at h
   obtain ⟨b, h1, h2, h3⟩ := h
   exact ⟨b, h1, fun e => run (h2 e), fun e => yFn os (i + 1) _ _ (h3 e)⟩
theorem kM {Γ : Gl} {P : Program} {ops : Array Oper} {K K' : St → List Meta → Prop} (hK : ∀ Z ms, K Z ms → K' Z ms) : ∀ (os : List Oper) (X : St) (acc : List Meta), wpR Γ P ops os X acc K → wpR Γ P ops os X acc K'
 | [], X, acc, h => hK _ _ h
 | o :: os, X, acc, h => by
  unfold wpR at h ⊢
  split at h
  ·obtain ⟨r, h1, h2, h3⟩ := h
   exact ⟨r, h1, h2, kM hK os _ _ h3⟩
  ·obtain ⟨b, h1, h2, h3⟩ := h
   refine ⟨b, h1, fun e => ?_, fun e => kM hK os _ _ (h3 e)⟩
   obtain ⟨r, h4, h5, h6⟩ := h2 e
   exact ⟨r, h4, h5, kM hK os _ _ h6⟩
theorem wpC_mono {Γ : Gl} {P : Program} : ∀ (c : Code) {Q Q' : Exit → St → Prop}, (∀ e Z, Q e Z → Q' e Z) → ∀ X, wpC Γ P c Q X → wpC Γ P c Q' X
 | .skip, _, _, hQ, X, h => hQ _ _ h
 | .region id ops draw, _, _, hQ, X, h => h.elim (fun h => .inl (kM (fun Z ms h => ⟨h.1, hQ _ _ h.2⟩) _ _ _ h)) (fun h => .inr ⟨h.1, yA6 (hQ _) h.2⟩)
 | .seq a b, Q, Q', hQ, X, h => wpC_mono a (fun e Z h => by
   cases e with
   | normal => exact ⟨_, h.choose_spec.1, wpC_mono b hQ _ h.choose_spec.2⟩
   | exit id => exact hQ _ _ h
   | goto l => exact hQ _ _ h
   | ret => exact hQ _ _ h
   | panic ch => exact hQ _ _ h
   | outgrown => exact hQ _ _ h) X h
 | .cond c x y, _, _, hQ, X, ⟨b, h1, h2, h3⟩ => ⟨b, h1, fun e => wpC_mono x hQ X (h2 e), fun e => wpC_mono y hQ X (h3 e)⟩
 | .block id c, Q, Q', hQ, X, h => wpC_mono c (fun e Z h => by
   cases e with
   | exit id' =>
    simp only at h ⊢
    split
    ·rename_i e; rw [if_pos e] at h; exact hQ _ _ h
    ·rename_i e; rw [if_neg e] at h; exact hQ _ _ h
   | normal => exact hQ _ _ h
   | goto l => exact hQ _ _ h
   | ret => exact hQ _ _ h
   | panic ch => exact hQ _ _ h
   | outgrown => exact hQ _ _ h) X h
 | .loop c, Q, Q', hQ, X, ⟨I, μ, h1, h2⟩ => ⟨I, μ, h1, fun Y hI => wpC_mono c (fun e Z h => by
   cases e with
   | normal => exact h
   | exit id => exact hQ _ _ h
   | goto l => exact hQ _ _ h
   | ret => exact hQ _ _ h
   | panic ch => exact hQ _ _ h
   | outgrown => exact hQ _ _ h) Y (h2 Y hI)⟩
 | .exit id, _, _, hQ, X, h => hQ _ _ h
 | .label l, _, _, hQ, X, h => hQ _ _ h
 | .goto l, _, _, hQ, X, h => hQ _ _ h
 | .ret, _, _, hQ, X, h => hQ _ _ h
 | .scope c, _, _, hQ, X, h => h.elim
 | .rangeFunc f ps as b, _, _, hQ, X, h => h.elim
 | .refuse why, _, _, hQ, X, h => h.elim
theorem yAn {Γ : Gl} {P : Program} : ∀ (c : Code) {Q : Exit → St → Prop} (X : St), wpK Γ P c Q X → wpC Γ P c Q X
 | .skip, _, X, h => h
 | .region id ops draw, _, X, h => h.elim (fun h => .inl (yFn _ _ _ _ h)) .inr
 | .seq a b, Q, X, h => wpC_mono a (fun e Z h => by
   cases e with
   | normal => exact ⟨_, h.choose_spec.1, yAn b _ h.choose_spec.2⟩
   | exit id => exact h
   | goto l => exact h
   | ret => exact h
   | panic ch => exact h
   | outgrown => exact h) X (yAn a X h)
 | .cond c x y, _, X, ⟨b, h1, h2, h3⟩ => ⟨b, h1, fun e => yAn x X (h2 e), fun e => yAn y X (h3 e)⟩
 | .block id c, Q, X, h => yAn c X h
 | .loop c, Q, X, ⟨I, μ, h1, h2⟩ => ⟨I, μ, h1, fun Y hI => yAn c Y (h2 Y hI)⟩
 | .exit id, _, X, h => h
 | .label l, _, X, h => h
 | .goto l, _, X, h => h
 | .ret, _, X, h => h
 | .scope c, _, X, h => h.elim
 | .rangeFunc f ps as b, _, X, h => h.elim
 | .refuse why, _, X, h => h.elim
theorem aU {Γ : Gl} {P : Program} (hmix : P.follows .mixedOrders = true) {f : FuncId} {fn : Func} {c : Code} (hf : P.funcs[f]? = some fn) (hb : fn.body = some c) {args : List D} {ps : List Ob} {r : D} {ps' : List (Option Ob)} {ns : List Ob}
  (h : wpK Γ P c (fun e Z => (e = .normal ∨ e = .ret) ∧ RetOk P fn Z r ps' ns) { sl := args ++ List.replicate (fn.ntmps - args.length) .bad, hp := nH ps }) : Good Γ P f args ps r ps' ns :=
 yCH hmix hf hb (yAn c _ h)
end Go.Ot

namespace Go.Ot
section
variable {Γ : Gl} {P : Program} {Q : Exit → St → Prop} {X : St}
def uE (Γ : Gl) (P : Program) (b : Code) (Q : Exit → St → Prop) (e : Exit) (Z : St) : Prop := match e with | .normal => ∃ Z', Le Γ Z Z' ∧ wpK Γ P b Q Z' | e => Q e Z
def wH (id : Nat) (Q : Exit → St → Prop) (e : Exit) (Z : St) : Prop := match e with | .exit id' => if id' = id then Q .normal Z else Q (.exit id') Z | e => Q e Z
def wN (ops : Array Oper) (draw : Bool) (Q : Exit → St → Prop) (Z : St) (ms : List Meta) : Prop := (draw = true → mK ops ms = true) ∧ Q .normal Z
theorem yL (h : Q .normal X) : wpK Γ P .skip Q X := h
theorem xQ {id : Nat} (h : Q (.exit id) X) : wpK Γ P (.exit id) Q X := h
theorem yO (h : Q .ret X) : wpK Γ P .ret Q X := h
theorem yD {a b : Code} (h : wpK Γ P a (uE Γ P b Q) X) : wpK Γ P (.seq a b) Q X := h
theorem yH {id : Nat} {c : Code} (h : wpK Γ P c (wH id Q) X) : wpK Γ P (.block id c) Q X := h
theorem yA {id : Nat} {ops : Array Oper} {draw : Bool} {l : List Oper} (hl : ops.toList = l) (h : wpS Γ P ops id 0 l X [] (wN ops draw Q)) : wpK Γ P (.region id ops draw) Q X := by subst hl; exact .inl h
theorem yEd {id : Nat} {ops : Array Oper} (h : wpG Γ P ops X (Q .normal)) : wpK Γ P (.region id ops true) Q X := .inr ⟨rfl, h⟩
theorem k_true {c : Operand} {x y : Code} (hb : ev X c = .t (.v (.bool true))) (h : wpK Γ P x Q X) : wpK Γ P (.cond c x y) Q X := ⟨true, hb, fun _ => h, fun h => nomatch h⟩
theorem yIO {c : Operand} {x y : Code} (hb : ev X c = .t (.v (.bool false))) (h : wpK Γ P y Q X) : wpK Γ P (.cond c x y) Q X := ⟨false, hb, (fun h => nomatch h), fun _ => h⟩
theorem yC {b : Code} (h : wpK Γ P b Q X) : uE Γ P b Q .normal X := ⟨X, Le.refl Γ X, h⟩
theorem yDD {b : Code} {X' : St} (hle : Le Γ X X') (h : wpK Γ P b Q X') : uE Γ P b Q .normal X := ⟨X', hle, h⟩
theorem yM {b : Code} {id : Nat} (h : Q (.exit id) X) : uE Γ P b Q (.exit id) X := h
theorem yG {b : Code} (h : Q .ret X) : uE Γ P b Q .ret X := h
theorem yS {id : Nat} (h : Q .normal X) : wH id Q .normal X := h
theorem yI {id : Nat} (h : Q .ret X) : wH id Q .ret X := h
theorem yK {id : Nat} (h : Q .normal X) : wH id Q (.exit id) X := by simp only [wH, if_true]; exact h
theorem wU {id id' : Nat} (hne : id' ≠ id) (h : Q (.exit id') X) : wH id Q (.exit id') X := by simp only [wH, if_neg hne]; exact h
theorem yB {ops : Array Oper} {ms : List Meta} (h : Q .normal X) : wN ops false Q X ms := ⟨(fun h => nomatch h), h⟩
theorem xO {ops : Array Oper} {ms : List Meta} (h0 : mK ops ms = true) (h : Q .normal X) : wN ops true Q X ms := ⟨fun _ => h0, h⟩
variable {ops : Array Oper} {rid i : Nat} {o : Oper} {os : List Oper} {acc : List Meta} {K : St → List Meta → Prop}
theorem yE (h : K X acc) : wpS Γ P ops rid i [] X acc K := h
theorem s_op (hg : o.guard = none) {r : Rec} {c : Prop} (hs : wP P rid i X o = some (r, c)) (hc : c) {X' : St} (hX : X.app o.dst r = X') {ms : Meta} (hm : r.info = ms) {i' : Nat} (hi : i + 1 = i') (h : wpS Γ P ops rid i' os X' (acc ++ [ms]) K) : wpS Γ P ops rid i (o :: os) X acc K := by
 subst hX hm hi
 simp only [wpS, hg, hs]
 exact ⟨hc, h⟩
theorem s_by (hg : o.guard = none) (hs : wP P rid i X o = none) {r : Rec} (ho : xD Γ P o X r) (ht : Tidy r) {X' : St} (hX : X.app o.dst r = X') {ms : Meta} (hm : r.info = ms) {i' : Nat} (hi : i + 1 = i') (h : wpS Γ P ops rid i' os X' (acc ++ [ms]) K) : wpS Γ P ops rid i (o :: os) X acc K := by
 subst hX hm hi
 simp only [wpS, hg, hs]
 exact ⟨r, ho, ht, h⟩
theorem yDp {g : Nat} {want : Bool} (hg : o.guard = some (g, want)) (hb : vO (vV ops X g) want = some true) {r : Rec} {c : Prop} (hs : wP P rid i X o = some (r, c)) (hc : c) {X' : St} (hX : X.app o.dst r = X') {ms : Meta} (hm : r.info = ms) {i' : Nat} (hi : i + 1 = i') (h : wpS Γ P ops rid i' os X' (acc ++ [ms]) K) : wpS Γ P ops rid i (o :: os) X acc K := by
 subst hX hm hi
 simp only [wpS, hg, hs]
 exact ⟨true, hb, fun _ => ⟨hc, h⟩, fun e => by cases e⟩
theorem yDq {g : Nat} {want : Bool} (hg : o.guard = some (g, want)) (hb : vO (vV ops X g) want = some true) (hs : wP P rid i X o = none) {r : Rec} (ho : xD Γ P o X r) (ht : Tidy r) {X' : St} (hX : X.app o.dst r = X') {ms : Meta} (hm : r.info = ms) {i' : Nat} (hi : i + 1 = i') (h : wpS Γ P ops rid i' os X' (acc ++ [ms]) K) : wpS Γ P ops rid i (o :: os) X acc K := by
 subst hX hm hi
 simp only [wpS, hg, hs]
 exact ⟨true, hb, fun _ => ⟨r, ho, ht, h⟩, fun e => by cases e⟩
theorem yHh {g : Nat} {want : Bool} (hg : o.guard = some (g, want)) (hb : vO (vV ops X g) want = some false) {X' : St} (hX : X.app o.dst { val := udf } = X') {i' : Nat} (hi : i + 1 = i') (h : wpS Γ P ops rid i' os X' (acc ++ [⟨[], [], false⟩]) K) : wpS Γ P ops rid i (o :: os) X acc K := by
 subst hX hi
 simp only [wpS, hg]
 exact ⟨false, hb, (fun e => by cases e), fun _ => h⟩
def Mle (a b : Meta) : Prop := (∀ m, m ∈ a.ws → m ∈ b.ws) ∧ (∀ m, m ∈ a.fs → m ∈ b.fs) ∧ (a.bar = true → b.bar = true)
def Msle : List Meta → List Meta → Prop
 | [], [] => True
 | a :: x, b :: y => Mle a b ∧ Msle x y
 | _, _ => False
theorem Mle.refl (a : Meta) : Mle a a := ⟨fun _ h => h, fun _ h => h, fun h => h⟩
theorem Msle.refl : ∀ x : List Meta, Msle x x
 | [] => trivial
 | a :: x => ⟨Mle.refl a, Msle.refl x⟩
theorem Msle.snoc {a b : Meta} (h : Mle a b) : ∀ {x y : List Meta}, Msle x y → Msle (x ++ [a]) (y ++ [b])
 | [], [], _ => ⟨h, trivial⟩
 | c :: x, d :: y, ⟨h1, h2⟩ => ⟨h1, Msle.snoc h h2⟩
theorem Msle.get : ∀ {x y : List Meta}, Msle x y → ∀ {i : Nat} {a : Meta}, x[i]? = some a → ∃ b, y[i]? = some b ∧ Mle a b
 | c :: x, d :: y, ⟨h1, h2⟩, i, a, h => by
  cases i with
  | zero => simp at h; subst h; exact ⟨d, by simp, h1⟩
  | succ i => simpa using Msle.get h2 (i := i) (by simpa using h)
theorem Msle.get_none : ∀ {x y : List Meta}, Msle x y → ∀ {i : Nat}, x[i]? = none → y[i]? = none
 | [], [], _, i, h => by simp
 | c :: x, d :: y, ⟨h1, h2⟩, i, h => by
  cases i with
  | zero => simp at h
  | succ i => simpa using Msle.get_none h2 (i := i) (by simpa using h)
theorem yCP {ops : Array Oper} {oi oj : Oper} {a b a' b' : Meta} (h : Mle a a') (k : Mle b b') (hc : clash ops oi oj a b = true) : clash ops oi oj a' b' = true := by
 obtain ⟨h1, h2, h3⟩ := h
 obtain ⟨k1, k2, k3⟩ := k
 simp only [clash, Bool.or_eq_true, List.any_eq_true, List.contains_iff_mem] at hc ⊢
 rcases hc with ((((hc | hc) | hc) | hc) | ⟨m, hm, hc⟩) | ⟨m, hm, hc⟩
 ·exact .inl (.inl (.inl (.inl (.inl (h3 hc)))))
 ·exact .inl (.inl (.inl (.inl (.inr (k3 hc)))))
 ·exact .inl (.inl (.inl (.inr hc)))
 ·exact .inl (.inl (.inr hc))
 ·exact .inl (.inr ⟨m, h1 m hm, hc.elim (fun e => .inl (k2 m e)) (fun e => .inr (k1 m e))⟩)
 ·exact .inr ⟨m, k1 m hm, h2 m hc⟩
theorem yCs {ops : Array Oper} {x y : List Meta} (h : Msle x y) (hr : mK ops y = true) : mK ops x = true := by
 simp only [mK, Bool.and_eq_true, List.all_eq_true, List.mem_range] at hr ⊢
 refine ⟨hr.1, fun j hj i hi => ?_⟩
 have := hr.2 j hj i hi
 split at this
 ·rename_i oi oj mi mj h1 h2 h3 h4
  cases e1 : x[i]? with
  | none => rw [h.get_none e1] at h3; cases h3
  | some mi' =>
   cases e2 : x[j]? with
   | none => rw [h.get_none e2] at h4; cases h4
   | some mj' =>
    obtain ⟨b1, g1, g2⟩ := h.get e1
    obtain ⟨b2, g3, g4⟩ := h.get e2
    rw [h3] at g1
    rw [h4] at g3
    cases g1
    cases g3
    simp only [h1, h2, Bool.or_eq_true, Bool.not_eq_true'] at this ⊢
    rcases this with this | this
    ·left
     cases e : clash ops oi oj mi' mj' with
     | false => rfl
     | true => rw [yCP g2 g4 e] at this; cases this
    ·exact .inr this
 ·cases this
theorem eR {Γ : Gl} {P : Program} {ops ops' : Array Oper} {rid : Nat} {draw : Bool} {Q : Exit → St → Prop} : ∀ (os : List Oper) (i : Nat) (X : St) (acc acc' : List Meta), Msle acc' acc → wpS Γ P ops rid i os X acc (wN ops' draw Q) → wpS Γ P ops rid i os X acc' (wN ops' draw Q)
 | [], i, X, acc, acc', hl, h => ⟨fun e => yCs hl (h.1 e), h.2⟩
 | o :: os, i, X, acc, acc', hl, h => by
  have run : (match wP P rid i X o with
   | some (r, c) => c ∧ wpS Γ P ops rid (i + 1) os (X.app o.dst r) (acc ++ [r.info]) (wN ops' draw Q)
   | none => ∃ r, xD Γ P o X r ∧ Tidy r ∧ wpS Γ P ops rid (i + 1) os (X.app o.dst r) (acc ++ [r.info]) (wN ops' draw Q)) → (match wP P rid i X o with
   | some (r, c) => c ∧ wpS Γ P ops rid (i + 1) os (X.app o.dst r) (acc' ++ [r.info]) (wN ops' draw Q)
   | none => ∃ r, xD Γ P o X r ∧ Tidy r ∧ wpS Γ P ops rid (i + 1) os (X.app o.dst r) (acc' ++ [r.info]) (wN ops' draw Q)) := by
   intro h
   split at h
   ·exact ⟨h.1, eR os _ _ _ _ (hl.snoc (Mle.refl _)) h.2⟩
   ·obtain ⟨r, h1, h2, h3⟩ := h
    exact ⟨r, h1, h2, eR os _ _ _ _ (hl.snoc (Mle.refl _)) h3⟩
  unfold wpS at h ⊢
  cases hg : o.guard with
  | none =>
   rw [hg] at h
   exact run h
  | some gw =>
   obtain ⟨g, want⟩ := gw
   rw [hg] at h
   obtain ⟨b, h1, h2, h3⟩ := h
   exact ⟨b, h1, fun e => run (h2 e), fun e => eR os _ _ _ _ (hl.snoc (Mle.refl _)) (h3 e)⟩
theorem yJG (F : List Nm) : Mle ⟨[], [], false⟩ ⟨[], F, false⟩ := ⟨fun _ h => h, (fun _ h => nomatch h), fun h => h⟩
theorem s_may {ops' : Array Oper} {draw : Bool} {Q : Exit → St → Prop} {g : Nat} {want b : Bool} (hg : o.guard = some (g, want)) (hb : vO (vV ops X g) want = some b) {v : D} {F : List Nm} {c : Prop} (hs : b = true → wP P rid i X o = some ({ val := v, F := F }, c)) (hc : b = true → c)
  {X' : St} (hX : X.app o.dst { val := if b = true then v else udf } = X') {i' : Nat} (hi : i + 1 = i') (h : wpS Γ P ops rid i' os X' (acc ++ [⟨[], F, false⟩]) (wN ops' draw Q)) : wpS Γ P ops rid i (o :: os) X acc (wN ops' draw Q) := by
 subst hX hi
 simp only [wpS, hg]
 refine ⟨b, hb, fun e => ?_, fun e => ?_⟩
 ·simp only [hs e]
  refine ⟨hc e, ?_⟩
  rw [if_pos e] at h
  exact h
 ·rw [if_neg (by rw [e]; simp)] at h
  exact eR _ _ _ _ _ ((Msle.refl acc).snoc (yJG F)) h
theorem qF {Γ : Gl} {P : Program} {ops ops' : Array Oper} {rid : Nat} {Q : Exit → St → Prop} : ∀ (os : List Oper) (i : Nat) (X : St) (acc acc' : List Meta), wpS Γ P ops rid i os X acc (wN ops' false Q) → wpS Γ P ops rid i os X acc' (wN ops' false Q)
 | [], i, X, acc, acc', h => ⟨(fun e => nomatch e), h.2⟩
 | o :: os, i, X, acc, acc', h => by
  have run : (match wP P rid i X o with
   | some (r, c) => c ∧ wpS Γ P ops rid (i + 1) os (X.app o.dst r) (acc ++ [r.info]) (wN ops' false Q)
   | none => ∃ r, xD Γ P o X r ∧ Tidy r ∧ wpS Γ P ops rid (i + 1) os (X.app o.dst r) (acc ++ [r.info]) (wN ops' false Q)) → (match wP P rid i X o with
   | some (r, c) => c ∧ wpS Γ P ops rid (i + 1) os (X.app o.dst r) (acc' ++ [r.info]) (wN ops' false Q)
   | none => ∃ r, xD Γ P o X r ∧ Tidy r ∧ wpS Γ P ops rid (i + 1) os (X.app o.dst r) (acc' ++ [r.info]) (wN ops' false Q)) := by
   intro h
   split at h
   ·exact ⟨h.1, qF os _ _ _ _ h.2⟩
   ·obtain ⟨r, h1, h2, h3⟩ := h
    exact ⟨r, h1, h2, qF os _ _ _ _ h3⟩
  unfold wpS at h ⊢
  cases hg : o.guard with
  | none =>
   rw [hg] at h
   exact run h
  | some gw =>
   obtain ⟨g, want⟩ := gw
   rw [hg] at h
   obtain ⟨b, h1, h2, h3⟩ := h
   exact ⟨b, h1, fun e => run (h2 e), fun e => qF os _ _ _ _ (h3 e)⟩
section
variable {ops' : Array Oper} {Q : Exit → St → Prop}
theorem yFJ (hg : o.guard = none) {r : Rec} {c : Prop} (hs : wP P rid i X o = some (r, c)) (hc : c) {X' : St} (hX : X.app o.dst r = X') {i' : Nat} (hi : i + 1 = i') (h : wpS Γ P ops rid i' os X' [] (wN ops' false Q)) : wpS Γ P ops rid i (o :: os) X [] (wN ops' false Q) :=
 s_op hg hs hc hX rfl hi (qF _ _ _ _ _ h)
theorem lD (hg : o.guard = none) (hs : wP P rid i X o = none) {r : Rec} (ho : xD Γ P o X r) (ht : Tidy r) {X' : St} (hX : X.app o.dst r = X') {i' : Nat} (hi : i + 1 = i') (h : wpS Γ P ops rid i' os X' [] (wN ops' false Q)) : wpS Γ P ops rid i (o :: os) X [] (wN ops' false Q) :=
 s_by hg hs ho ht hX rfl hi (qF _ _ _ _ _ h)
theorem yFI {g : Nat} {want : Bool} (hg : o.guard = some (g, want)) (hb : vO (vV ops X g) want = some true) {r : Rec} {c : Prop} (hs : wP P rid i X o = some (r, c)) (hc : c) {X' : St} (hX : X.app o.dst r = X') {i' : Nat} (hi : i + 1 = i') (h : wpS Γ P ops rid i' os X' [] (wN ops' false Q)) : wpS Γ P ops rid i (o :: os) X [] (wN ops' false Q) :=
 yDp hg hb hs hc hX rfl hi (qF _ _ _ _ _ h)
theorem qL {g : Nat} {want : Bool} (hg : o.guard = some (g, want)) (hb : vO (vV ops X g) want = some true) (hs : wP P rid i X o = none) {r : Rec} (ho : xD Γ P o X r) (ht : Tidy r) {X' : St} (hX : X.app o.dst r = X') {i' : Nat} (hi : i + 1 = i') (h : wpS Γ P ops rid i' os X' [] (wN ops' false Q)) : wpS Γ P ops rid i (o :: os) X [] (wN ops' false Q) :=
 yDq hg hb hs ho ht hX rfl hi (qF _ _ _ _ _ h)
theorem yIa {g : Nat} {want : Bool} (hg : o.guard = some (g, want)) (hb : vO (vV ops X g) want = some false) {X' : St} (hX : X.app o.dst { val := udf } = X') {i' : Nat} (hi : i + 1 = i') (h : wpS Γ P ops rid i' os X' [] (wN ops' false Q)) : wpS Γ P ops rid i (o :: os) X [] (wN ops' false Q) :=
 yHh hg hb hX hi (qF _ _ _ _ _ h)
theorem s_may0 {g : Nat} {want b : Bool} (hg : o.guard = some (g, want)) (hb : vO (vV ops X g) want = some b) {v : D} {F : List Nm} {c : Prop} (hs : b = true → wP P rid i X o = some ({ val := v, F := F }, c)) (hc : b = true → c)
  {X' : St} (hX : X.app o.dst { val := if b = true then v else udf } = X') {i' : Nat} (hi : i + 1 = i') (h : wpS Γ P ops rid i' os X' [] (wN ops' false Q)) : wpS Γ P ops rid i (o :: os) X [] (wN ops' false Q) :=
 s_may hg hb hs hc hX hi (qF _ _ _ _ _ h)
end
theorem yAo {b want : Bool} : vO (.t (.v (.bool b))) want = some (b == want) := rfl
theorem yCb {want : Bool} : vO udf want = some false := rfl
theorem yC9 {c b want : Bool} : vO (if c = true then .t (.v (.bool b)) else udf) want = some (c && (b == want)) := by cases c <;> rfl
theorem if_not {b : Bool} {x y : D} : (if (!b) = true then x else y) = if b = true then y else x := by cases b <;> rfl
theorem if_if2 {b : Bool} {x y z : D} : (if b = true then x else (if b = true then y else z)) = if b = true then x else z := by cases b <;> rfl
theorem beq_t {b : Bool} : (b == true) = b := by cases b <;> rfl
theorem beq_f {b : Bool} : (b == false) = !b := by cases b <;> rfl
theorem yIS {b : Bool} {x y : Bool} : (if b = true then D.t (.v (.bool x)) else D.t (.v (.bool y))) = .t (.v (.bool (if b then x else y))) := by cases b <;> rfl
theorem if_int {b : Bool} {k : IntKind} {x y : Int} : (if b = true then D.t (.v (.int k x)) else D.t (.v (.int k y))) = .t (.v (.int k (if b then x else y))) := by cases b <;> rfl
theorem yIR {b : Bool} {x y : ByteArray} : (if b = true then D.t (.v (.string x)) else D.t (.v (.string y))) = .t (.v (.string (if b then x else y))) := by cases b <;> rfl
theorem if_if {b : Bool} {x y z : D} : (if b = true then (if b = true then x else y) else z) = if b = true then x else z := by cases b <;> rfl
theorem if_if' {b : Bool} {x y z : D} : (if b = true then x else (if b = false then y else z)) = if b = true then x else y := by cases b <;> rfl
theorem if_and {b x : Bool} : (if b = true then x else false) = (b && x) := by cases b <;> rfl
theorem if_or {b x : Bool} : (if b = true then true else x) = (b || x) := by cases b <;> rfl
end
def srcL : List (Nm × Nm) → Nm → Option Nm
 | [], _ => none
 | (a, b) :: r, m => if a = m then some b else srcL r m
def notIn : List (Nm × Nm) → Nm → Prop
 | [], _ => True
 | (_, b) :: r, m => b ≠ m ∧ notIn r m
def ObsVw (S : List (Nm × Nm)) (LZ : List (Nm × Ob)) : List (Nm × Ob) → Prop
 | [] => True
 | (m, ob') :: r => (match srcL S m with
  | none => ob'.row = true ∧ ob'.cells = []
  | some m0 => match look LZ m0 with
   | some ob => ob'.ty = ob.ty ∧ rowOk m0 ob' ob ∧ (ob'.own = true → ob.own = true) ∧ VwL (srcL S) (look LZ) (notIn S) ob'.cells ob.cells
   | none => False) ∧ ObsVw S LZ r
def pOk : Nm → Nm → Prop
 | .p k, b => b = .p k
 | _, _ => True
def SrcOk (LF : List (Nm × Ob)) : List (Nm × Nm) → Prop
 | [] => True
 | (a, b) :: r => (look LF a).isSome = true ∧ srcL r a = none ∧ notIn r b ∧ pOk a b ∧ SrcOk LF r
theorem srcL_some : ∀ {S : List (Nm × Nm)} {m m0 : Nm}, srcL S m = some m0 → (m, m0) ∈ S
 | [], m, m0, h => by cases h
 | (a, b) :: r, m, m0, h => by
  simp only [srcL] at h
  split at h
  ·rename_i e; subst e; cases h; simp
  ·exact List.mem_cons_of_mem _ (srcL_some h)
theorem notIn_no : ∀ {S : List (Nm × Nm)} {m m0 : Nm}, (m, m0) ∈ S → ¬ notIn S m0
 | (a, b) :: r, m, m0, h, ⟨h1, h2⟩ => by
  rcases List.mem_cons.1 h with h | h
  ·cases h; exact h1 rfl
  ·exact notIn_no h h2
theorem SrcOk.mem {LF : List (Nm × Ob)} : ∀ {S : List (Nm × Nm)}, SrcOk LF S → ∀ {m m0}, (m, m0) ∈ S → (look LF m).isSome = true ∧ pOk m m0
 | (a, b) :: r, ⟨h1, h2, h3, h4, h5⟩, m, m0, h => by
  rcases List.mem_cons.1 h with h | h
  ·cases h; exact ⟨h1, h4⟩
  ·exact h5.mem h
theorem SrcOk.inj {LF : List (Nm × Ob)} : ∀ {S : List (Nm × Nm)}, SrcOk LF S → ∀ {m m' m0}, (m, m0) ∈ S → (m', m0) ∈ S → m = m'
 | (a, b) :: r, ⟨h1, h2, h3, h4, h5⟩, m, m', m0, h, h' => by
  rcases List.mem_cons.1 h with h | h <;> rcases List.mem_cons.1 h' with h' | h'
  ·cases h; cases h'; rfl
  ·cases h; exact absurd h3 (notIn_no h')
  ·cases h'; exact absurd h3 (notIn_no h)
  ·exact h5.inj h h'
theorem ObsVw.mem {S : List (Nm × Nm)} {LZ : List (Nm × Ob)} : ∀ {LF : List (Nm × Ob)}, ObsVw S LZ LF → ∀ {m ob'}, look LF m = some ob' →
  (srcL S m = none ∧ ob'.row = true ∧ ob'.cells = []) ∨ ∃ m0 ob, srcL S m = some m0 ∧ look LZ m0 = some ob ∧ ob'.ty = ob.ty ∧ rowOk m0 ob' ob ∧ (ob'.own = true → ob.own = true) ∧ VwL (srcL S) (look LZ) (notIn S) ob'.cells ob.cells
 | [], _, m, ob', h => by cases h
 | (a, o) :: r, ⟨h1, h2⟩, m, ob', h => by
  simp only [look] at h
  split at h
  ·rename_i e
   subst e
   cases h
   split at h1
   ·rename_i hs; exact .inl ⟨hs, h1⟩
   ·rename_i m0 hs
    split at h1
    ·rename_i ob hm; exact .inr ⟨m0, ob, hs, hm, h1⟩
    ·exact h1.elim
  ·exact h2.mem h
theorem yEk {S : List (Nm × Nm)} {LZ LF : List (Nm × Ob)} (h : ObsVw S LZ LF) (hs : SrcOk LF S) : HpVw (srcL S) (notIn S) (look LZ) (look LF) :=
 ⟨fun m ob' hm => h.mem hm, (fun m m0 hm e => by have := (hs.mem (srcL_some hm)).1; rw [e] at this; exact nomatch this), fun m m' m0 h1 h2 => hs.inj (srcL_some h1) (srcL_some h2), fun m m0 ob' h1 h2 _ => absurd h2 (notIn_no (srcL_some h1))⟩
theorem yIB {k : Nat} {b : Nm} (h : pOk (.p k) b) : b = .p k := h
theorem wL {Γ : Gl} {sl sl' : List D} {LZ LF : List (Nm × Ob)} (S : List (Nm × Nm)) (h1 : VwL (srcL S) (look LZ) (notIn S) sl' sl) (h2 : ObsVw S LZ LF) (h3 : SrcOk LF S) : Le Γ ⟨sl, look LZ⟩ ⟨sl', look LF⟩ := by
 refine View.le (src := srcL S) (len := notIn S) ⟨h1, yEk h2 h3, fun k m0 hk => yIB (h3.mem (srcL_some hk)).2, fun k ob' hk hr => ?_⟩
 rcases h2.mem hk with ⟨_, h4, _⟩ | ⟨m0, ob, h4, _⟩
 ·rw [h4] at hr; cases hr
 ·rw [h4, yIB (h3.mem (srcL_some h4)).2]
theorem yT {Γ : Gl} {sl sl' : List D} {LZ LF : List (Nm × Ob)} (h1 : VwL (srcL (LF.map fun p => (p.1, p.1))) (look LZ) (notIn (LF.map fun p => (p.1, p.1))) sl' sl) (h2 : ObsVw (LF.map fun p => (p.1, p.1)) LZ LF) (h3 : SrcOk LF (LF.map fun p => (p.1, p.1))) : Le Γ ⟨sl, look LZ⟩ ⟨sl', look LF⟩ := wL _ h1 h2 h3
theorem le_sz {Γ : Gl} {sl sl' : List D} {LZ LF : List (Nm × Ob)} (h1 : VwL (srcL (LF.map fun p => (p.1, p.1))) (look LZ) (notIn (LF.map fun p => (p.1, p.1))) sl' sl := by simp [-List.map_set, -List.map_replicate, -List.reduceReplicate, -List.map_map, -List.map_drop, -List.map_take]) (h2 : ObsVw (LF.map fun p => (p.1, p.1)) LZ LF := by simp [-List.map_set, -List.map_replicate, -List.reduceReplicate, -List.map_map, -List.map_drop, -List.map_take]) (h3 : SrcOk LF (LF.map fun p => (p.1, p.1)) := by simp [-List.map_set, -List.map_replicate, -List.reduceReplicate, -List.map_map, -List.map_drop, -List.map_take]) : Le Γ ⟨sl, look LZ⟩ ⟨sl', look LF⟩ := wL _ h1 h2 h3
def setAll : List D → List (Nat × D) → List D
 | sl, [] => sl
 | sl, (s, d) :: r => setAll (sl.set s d) r
def wV {α : Type} (Γ : Gl) (F : α → St) (hI : α → Prop) (μ : α → Nat) (n : Nat) (Q : Exit → St → Prop) (e : Exit) (Z : St) : Prop := match e with | .normal => ∃ a, Le Γ Z (F a) ∧ hI a ∧ μ a < n | e => Q e Z
theorem uT {Γ : Gl} {P : Program} : ∀ (c : Code) {Q Q' : Exit → St → Prop}, (∀ e Z, Q e Z → Q' e Z) → ∀ X, wpK Γ P c Q X → wpK Γ P c Q' X
 | .skip, _, _, hQ, X, h => hQ _ _ h
 | .region id ops draw, _, _, hQ, X, .inr h => .inr ⟨h.1, yA6 (hQ _) h.2⟩
 | .region id ops draw, _, _, hQ, X, .inl h => by
  have key : ∀ (os : List Oper) (i : Nat) (X : St) (acc : List Meta) {K K' : St → List Meta → Prop}, (∀ Z ms, K Z ms → K' Z ms) → wpS Γ P ops id i os X acc K → wpS Γ P ops id i os X acc K' := by
   intro os
   induction os with
   | nil => intro i X acc K K' hK h; exact hK _ _ h
   | cons o os ih =>
    intro i X acc K K' hK h
    have run : (match wP P id i X o with
     | some (r, c) => c ∧ wpS Γ P ops id (i + 1) os (X.app o.dst r) (acc ++ [r.info]) K
     | none => ∃ r, xD Γ P o X r ∧ Tidy r ∧ wpS Γ P ops id (i + 1) os (X.app o.dst r) (acc ++ [r.info]) K) → (match wP P id i X o with
     | some (r, c) => c ∧ wpS Γ P ops id (i + 1) os (X.app o.dst r) (acc ++ [r.info]) K'
     | none => ∃ r, xD Γ P o X r ∧ Tidy r ∧ wpS Γ P ops id (i + 1) os (X.app o.dst r) (acc ++ [r.info]) K') := by
     intro h
     split at h
     ·exact ⟨h.1, ih _ _ _ hK h.2⟩
     ·obtain ⟨r, h1, h2, h3⟩ := h
      exact ⟨r, h1, h2, ih _ _ _ hK h3⟩
    unfold wpS at h ⊢
    cases hg : o.guard with
    | none => rw [hg] at h; exact run h
    | some gw =>
     obtain ⟨g, want⟩ := gw
     rw [hg] at h
     obtain ⟨b, h1, h2, h3⟩ := h
     exact ⟨b, h1, fun e => run (h2 e), fun e => ih _ _ _ hK (h3 e)⟩
  exact .inl (key _ _ _ _ (fun Z ms h => ⟨h.1, hQ _ _ h.2⟩) h)
 | .seq a b, Q, Q', hQ, X, h => uT a (fun e Z h => by
   cases e with
   | normal => exact ⟨_, h.choose_spec.1, uT b hQ _ h.choose_spec.2⟩
   | exit id => exact hQ _ _ h
   | goto l => exact hQ _ _ h
   | ret => exact hQ _ _ h
   | panic ch => exact hQ _ _ h
   | outgrown => exact hQ _ _ h) X h
 | .cond c x y, _, _, hQ, X, ⟨b, h1, h2, h3⟩ => ⟨b, h1, fun e => uT x hQ X (h2 e), fun e => uT y hQ X (h3 e)⟩
 | .block id c, Q, Q', hQ, X, h => uT c (fun e Z h => by
   cases e with
   | exit id' =>
    simp only at h ⊢
    split
    ·rename_i e; rw [if_pos e] at h; exact hQ _ _ h
    ·rename_i e; rw [if_neg e] at h; exact hQ _ _ h
   | normal => exact hQ _ _ h
   | goto l => exact hQ _ _ h
   | ret => exact hQ _ _ h
   | panic ch => exact hQ _ _ h
   | outgrown => exact hQ _ _ h) X h
 | .loop c, Q, Q', hQ, X, ⟨I, μ, h1, h2⟩ => ⟨I, μ, h1, fun Y hI => uT c (fun e Z h => by
   cases e with
   | normal => exact h
   | exit id => exact hQ _ _ h
   | goto l => exact hQ _ _ h
   | ret => exact hQ _ _ h
   | panic ch => exact hQ _ _ h
   | outgrown => exact hQ _ _ h) Y (h2 Y hI)⟩
 | .exit id, _, _, hQ, X, h => hQ _ _ h
 | .label l, _, _, hQ, X, h => hQ _ _ h
 | .goto l, _, _, hQ, X, h => hQ _ _ h
 | .ret, _, _, hQ, X, h => hQ _ _ h
 | .scope c, _, _, hQ, X, h => h.elim
 | .rangeFunc f ps as b, _, _, hQ, X, h => h.elim
 | .refuse why, _, _, hQ, X, h => h.elim
theorem least (p : Nat → Prop) : (∃ n, p n) → ∃ n, p n ∧ ∀ k, p k → n ≤ k := by
 rintro ⟨n, h⟩
 induction n using Nat.strongRecOn with
 | _ n ih =>
  by_cases e : ∃ k, k < n ∧ p k
  ·obtain ⟨k, h1, h2⟩ := e
   exact ih k h1 h2
  ·exact ⟨n, h, fun k hk => Nat.le_of_not_lt fun hlt => e ⟨k, hlt, hk⟩⟩
open Classical in
theorem xN {Γ : Gl} {P : Program} {Q : Exit → St → Prop} {c : Code} {α : Type} {sl : List D} {L : List (Nm × Ob)} (F : List D → List (Nm × Ob) → α → St) (hI : α → Prop) (μ : α → Nat) (a0 : α) (h0 : Le Γ ⟨sl, look L⟩ (F sl L a0)) (h1 : hI a0)
  (h : ∀ a, hI a → wpK Γ P c (wV Γ (F sl L) hI μ (μ a) Q) (F sl L a)) : wpK Γ P (.loop c) Q ⟨sl, look L⟩ := by
 let G := F sl L
 let ex (Y : St) : Prop := ∃ n a, hI a ∧ G a = Y ∧ μ a = n
 let m (Y : St) : Nat := if hY : ex Y then (least _ hY).choose else 0
 refine ⟨fun Y => ∃ a, hI a ∧ Y = G a, m, ⟨G a0, h0, a0, h1, rfl⟩, ?_⟩
 rintro Y ⟨a1, ha1, rfl⟩
 have hY : ex (G a1) := ⟨_, a1, ha1, rfl, rfl⟩
 obtain ⟨a, ha, hGa, hμ⟩ := (least _ hY).choose_spec.1
 have hm : m (G a1) = μ a := by
  show (if hY : ex (G a1) then (least _ hY).choose else 0) = μ a
  rw [dif_pos hY, hμ]
 have := h a ha
 change wpK Γ P c (wV Γ G hI μ (μ a) Q) (G a) at this
 rw [hGa] at this
 refine uT c (fun e Z h => ?_) _ this
 cases e with
 | normal =>
  obtain ⟨a', h2, h3, h4⟩ := h
  refine ⟨G a', h2, ⟨a', h3, rfl⟩, ?_⟩
  have hY' : ex (G a') := ⟨_, a', h3, rfl, rfl⟩
  have : m (G a') ≤ μ a' := by
   show (if hY : ex (G a') then (least _ hY).choose else 0) ≤ μ a'
   rw [dif_pos hY']
   exact (least _ hY').choose_spec.2 _ ⟨a', h3, rfl, rfl⟩
  rw [hm]
  omega
 | exit id => exact h
 | goto l => exact h
 | ret => exact h
 | panic ch => exact h
 | outgrown => exact h
theorem xE {α : Type} {Γ : Gl} {F : α → St} {hI : α → Prop} {μ : α → Nat} {n : Nat} {Q : Exit → St → Prop} {X : St} (a : α) (h1 : Le Γ X (F a)) (h2 : hI a) (h3 : μ a < n) : wV Γ F hI μ n Q .normal X := ⟨a, h1, h2, h3⟩
theorem yN {α : Type} {Γ : Gl} {F : α → St} {hI : α → Prop} {μ : α → Nat} {n id : Nat} {Q : Exit → St → Prop} {X : St} (h : Q (.exit id) X) : wV Γ F hI μ n Q (.exit id) X := h
theorem wI {α : Type} {Γ : Gl} {F : α → St} {hI : α → Prop} {μ : α → Nat} {n : Nat} {Q : Exit → St → Prop} {X : St} (h : Q .ret X) : wV Γ F hI μ n Q .ret X := h
def wZ (Γ : Gl) (M : St) (Q : Exit → St → Prop) (e : Exit) (Z : St) : Prop := match e with | .normal => Le Γ Z M | e => Q e Z
theorem HpRes_nil : tZ [] [] = fun _ => none := by funext m; cases m <;> rfl
theorem aN {α β : Type} (f : α → Option β) : List.mapM f [] = some [] := rfl
theorem eC {α β : Type} (f : α → Option β) (a : α) (l : List α) : List.mapM f (a :: l) = (f a).bind fun b => (List.mapM f l).bind fun bs => some (b :: bs) := by
 rw [List.mapM_cons]; rfl
def resP : Nat → List (Option Ob) → List (Nm × Ob)
 | _, [] => []
 | k, none :: r => resP (k + 1) r
 | k, some o :: r => (.p k, o) :: resP (k + 1) r
def resN : Nat → List Ob → List (Nm × Ob)
 | _, [] => []
 | k, o :: r => (.n k, o) :: resN (k + 1) r
theorem look_resP : ∀ (ps : List (Option Ob)) (k : Nat) (L : List (Nm × Ob)) (j : Nat), (∀ i, look L (.p i) = none) → look (resP k ps ++ L) (.p j) = if k ≤ j then (ps[j - k]?).join else none
 | [], k, L, j, hL => by simp [resP, hL]
 | none :: r, k, L, j, hL => by
  rw [resP, look_resP r (k + 1) L j hL]
  by_cases e : k ≤ j
  ·rw [if_pos e]
   by_cases e' : j = k
   ·subst e'; rw [if_neg (by omega)]; simp
   ·rw [if_pos (by omega), show j - k = (j - (k + 1)) + 1 from by omega]; simp
  ·rw [if_neg e, if_neg (by omega)]
 | some o :: r, k, L, j, hL => by
  simp only [resP, List.cons_append, look]
  by_cases e' : j = k
  ·subst e'; simp
  ·rw [if_neg (by simpa using fun h => e' h.symm), look_resP r (k + 1) L j hL]
   by_cases e : k ≤ j
   ·rw [if_pos e, if_pos (by omega), show j - k = (j - (k + 1)) + 1 from by omega]; simp
   ·rw [if_neg e, if_neg (by omega)]
theorem look_resN : ∀ (ns : List Ob) (k j : Nat), look (resN k ns) (.n j) = if k ≤ j then ns[j - k]? else none
 | [], k, j => by simp [resN, look]
 | o :: r, k, j => by
  simp only [resN, look]
  by_cases e' : j = k
  ·subst e'; simp
  ·rw [if_neg (by simpa using fun h => e' h.symm), look_resN r (k + 1) j]
   by_cases e : k ≤ j
   ·rw [if_pos e, if_pos (by omega), show j - k = (j - (k + 1)) + 1 from by omega]; simp
   ·rw [if_neg e, if_neg (by omega)]
theorem look_resN_p : ∀ (ns : List Ob) (k j : Nat), look (resN k ns) (.p j) = none
 | [], k, j => rfl
 | o :: r, k, j => by simp [resN, look, look_resN_p r]
theorem look_resN_r : ∀ (ns : List Ob) (k a b c : Nat), look (resN k ns) (.r a b c) = none
 | [], k, a, b, c => rfl
 | o :: r, k, a, b, c => by simp [resN, look, look_resN_r r]
theorem look_resP_o : ∀ (ps : List (Option Ob)) (k : Nat) (L : List (Nm × Ob)) (m : Nm), (∀ i, m ≠ .p i) → look (resP k ps ++ L) m = look L m
 | [], k, L, m, h => rfl
 | none :: r, k, L, m, h => look_resP_o r (k + 1) L m h
 | some o :: r, k, L, m, h => by simp only [resP, List.cons_append, look]; rw [if_neg (fun e => h k e.symm), look_resP_o r (k + 1) L m h]
theorem lT (ps' : List (Option Ob)) (ns : List Ob) : tZ ps' ns = look (resP 0 ps' ++ resN 0 ns) := by
 funext m
 cases m with
 | p k => rw [look_resP _ _ _ _ (look_resN_p ns 0)]; simp [tZ]
 | n k => rw [look_resP_o _ _ _ _ (by simp), look_resN]; simp [tZ]
 | r a b c => rw [look_resP_o _ _ _ _ (by simp), look_resN_r]; rfl
theorem yFd (ps : List Ob) : nH ps = look (resP 0 (ps.map some)) := by
 have := lT (ps.map some) []
 simp only [resN, List.append_nil] at this
 rw [← this]
 funext m
 cases m with
 | p k => simp [nH, tZ]; cases ps[k]? <;> rfl
 | n k => rfl
 | r a b c => rfl
theorem yHl {P : Program} {fn : Func} {sl : List D} {LZ : List (Nm × Ob)} {r d : D} {ps' : List (Option Ob)} {ns : List Ob} (S : List (Nm × Nm)) (h : resD P ⟨sl, look LZ⟩ fn.results.toList = some d) (h1 : Vw (srcL S) (look LZ) (notIn S) r d) (h2 : ObsVw S LZ (resP 0 ps' ++ resN 0 ns)) (h3 : SrcOk (resP 0 ps' ++ resN 0 ns) S) : RetOk P fn ⟨sl, look LZ⟩ r ps' ns := by
 refine ⟨d, srcL S, notIn S, h, h1, by rw [lT]; exact yEk h2 h3, fun k ob' hk hr => ?_⟩
 rw [lT] at hk
 rcases h2.mem hk with ⟨_, h4, _⟩ | ⟨m0, ob, h4, _⟩
 ·rw [h4] at hr; cases hr
 ·rw [h4, yIB (h3.mem (srcL_some h4)).2]
theorem tL {Γ : Gl} {P : Program} {f : FuncId} {pre post : List D} {ps : List Ob} {r : D} {ps' : List (Option Ob)} {ns : List Ob} (h : ∀ A c, c ≤ maxLen → Good Γ P f (pre ++ .t (.v (.slice A 0 c)) :: post) ps r ps' ns) : Good Γ P f (pre ++ .t (.sl 0 []) :: post) ps r ps' ns := by
 intro w A η vals h1 h2 h3 h4 h5 h6 h7
 have key : ∀ (pre : List D) (vals : List Value), RepsA w (Mx (nH ps) η A) η (pre ++ .t (.sl 0 []) :: post) vals → ∃ B c, c ≤ maxLen ∧ RepsA w (Mx (nH ps) η A) η (pre ++ .t (.v (.slice B 0 c)) :: post) vals := by
  intro pre
  induction pre with
  | nil =>
   intro vals h
   obtain ⟨u, us, rfl, ⟨B, c, rfl, _, h8, _⟩, h9⟩ := h
   exact ⟨B, c, h8, _, us, rfl, rfl, h9⟩
  | cons d pre ih =>
   intro vals h
   obtain ⟨u, us, rfl, h8, h9⟩ := h
   obtain ⟨B, c, h10, h11⟩ := ih us h9
   exact ⟨B, c, h10, u, us, rfl, h8, h11⟩
 obtain ⟨B, c, h8, h9⟩ := key pre vals h7
 exact h B c h8 w A η vals h1 h2 h3 h4 h5 h6 h9
section
variable {src : Nm → Option Nm} {hp : Nm → Option Ob} {len : Nm → Prop}
theorem xM {ds : List D} : VwL src hp len [] ds ↔ ds = [] := Iff.rfl
theorem VwL_cons {c d : D} {cs ds : List D} : VwL src hp len (c :: cs) (d :: ds) ↔ Vw src hp len c d ∧ VwL src hp len cs ds := by
 constructor
 ·rintro ⟨d', ds', h, h1, h2⟩; cases h; exact ⟨h1, h2⟩
 ·rintro ⟨h1, h2⟩; exact ⟨d, ds, rfl, h1, h2⟩
theorem xY {d : D} : Vw src hp len .bad d ↔ True := Iff.rfl
theorem vN {x : T} {d : D} : Vw src hp len (.t x) d ↔ VwT hp len x d := Iff.rfl
theorem xV {m m' : Nm} {off off' : Nat} : Vw src hp len (.ptr m off) (.ptr m' off') ↔ src m = some m' ∧ off' = off := by
 constructor
 ·rintro ⟨m0, h, h'⟩; cases h'; exact ⟨h, rfl⟩
 ·rintro ⟨h, rfl⟩; exact ⟨m', h, rfl⟩
theorem xW {m m' : Nm} {off off' n n' sz sz' : Nat} : Vw src hp len (.msl m off n sz) (.msl m' off' n' sz') ↔ src m = some m' ∧ off' = off ∧ n' = n ∧ sz' = sz := by
 constructor
 ·rintro (⟨m0, h, h'⟩ | ⟨_, h'⟩)
  ·cases h'; exact ⟨h, rfl, rfl, rfl⟩
  ·cases h'
 ·rintro ⟨h, rfl, rfl, rfl⟩; exact .inl ⟨m', h, rfl⟩
theorem yX {m : Nm} {off n sz : Nat} : Vw src hp len (.msl m off n sz) (.t (.v (.slice none 0 0))) ↔ n = 0 := by
 constructor
 ·rintro (⟨m0, h, h'⟩ | ⟨h, _⟩)
  ·cases h'
  ·exact h
 ·rintro rfl; exact .inr ⟨rfl, rfl⟩
theorem xU {cs : List T} : Vw src hp len (.rop cs) (.rop cs) ↔ True := ⟨fun _ => trivial, fun _ => .inl rfl⟩
theorem Vw_agg {cs ds : List D} : Vw src hp len (.agg cs) (.agg ds) ↔ VwL src hp len cs ds := by
 constructor
 ·rintro ⟨ds', h, h1⟩; cases h; exact h1
 ·intro h; exact ⟨ds, rfl, h⟩
theorem xS {cs ds : List D} : Vw src hp len (.tup cs) (.tup ds) ↔ VwL src hp len cs ds := by
 constructor
 ·rintro ⟨ds', h, h1⟩; cases h; exact h1
 ·intro h; exact ⟨ds, rfl, h⟩
theorem xX {t t' : TypeId} {c d : D} : Vw src hp len (.ifc t c) (.ifc t' d) ↔ t' = t ∧ Vw src hp len c d := by
 constructor
 ·rintro ⟨d', h, h1⟩; cases h; exact ⟨rfl, h1⟩
 ·rintro ⟨rfl, h⟩; exact ⟨d, rfl, h⟩
theorem xK {n n' off sz : Nat} {m : Nm} {cs : List T} : VwT hp len (.sl n cs) (.msl m off n' sz) ↔ n' = n ∧ len m ∧ ∃ ob, hp m = some ob ∧ off + n * sz ≤ ob.cells.length ∧ VwTs hp len cs ((ob.cells.drop off).take (n * sz)) := by
 constructor
 ·rintro (h | ⟨m', off', sz', ob, h, h1, h2, h3, h4⟩ | ⟨_, _, h⟩)
  ·cases h
  ·cases h; exact ⟨rfl, h1, ob, h2, h3, h4⟩
  ·cases h
 ·rintro ⟨rfl, h1, ob, h2, h3, h4⟩; exact .inr (.inl ⟨m, off, sz, ob, rfl, h1, h2, h3, h4⟩)
theorem xL {cs : List T} {ds : List D} : VwT hp len (.agg cs) (.agg ds) ↔ VwTs hp len cs ds := by
 constructor
 ·rintro (h | ⟨ds', h, h1⟩)
  ·cases h
  ·cases h; exact h1
 ·intro h; exact .inr ⟨ds, rfl, h⟩
theorem wK {x y : Value} : VwT hp len (.v x) (.t (.v y)) ↔ y = x := ⟨fun h => by cases h; rfl, fun h => by cases h; rfl⟩
theorem xJ {n : Nat} {cs : List T} : VwT hp len (.sl n cs) (.t (.v (.slice none 0 0))) ↔ n = 0 ∧ cs = [] := by
 constructor
 ·rintro (h | ⟨m', off', sz', ob, h, _⟩ | ⟨h, h', _⟩)
  ·cases h
  ·cases h
  ·exact ⟨h, h'⟩
 ·rintro ⟨rfl, rfl⟩; exact .inr (.inr ⟨rfl, rfl, rfl⟩)
theorem yW {c : T} {d : D} {cs : List T} {ds : List D} : VwTs hp len (c :: cs) (d :: ds) ↔ VwT hp len c d ∧ VwTs hp len cs ds := by
 constructor
 ·rintro ⟨d', ds', h, h1, h2⟩; cases h; exact ⟨h1, h2⟩
 ·rintro ⟨h1, h2⟩; exact ⟨d, ds, rfl, h1, h2⟩
theorem VwTs_app : ∀ {a b : List T} {ds : List D}, VwTs hp len (a ++ b) (a.map D.t ++ ds) ↔ VwTs hp len b ds
 | [], b, ds => Iff.rfl
 | c :: a, b, ds => by
  simp only [List.cons_append, List.map_cons, yW, VwTs_app, xA, true_and]
theorem xC {ds : List D} : VwTs hp len [] ds ↔ ds = [] := Iff.rfl
theorem VwL_refl_map : ∀ cs : List T, VwL src hp len (cs.map .t) (cs.map .t)
 | [] => rfl
 | c :: cs => ⟨_, _, rfl, xA hp len c, VwL_refl_map cs⟩
end
theorem fV (ρ : Nm → Nm) : ∀ cs : List T, D.renL ρ (cs.map .t) = cs.map .t
 | [] => rfl
 | c :: cs => by simp [D.renL, D.ren, fV ρ cs]
theorem flatL_map_t : ∀ cs : List T, D.flatL (cs.map .t) = T.flatL cs
 | [] => rfl
 | c :: cs => by simp [D.flatL, T.flatL, D.flat, flatL_map_t cs]
theorem tW {α : Type} (f : α → T) (h : ∀ a, (f a).flat = true) : ∀ l : List α, T.flatL (l.map f) = true
 | [] => rfl
 | a :: l => by simp [T.flatL, h a, tW f h l]
theorem srcOf_nil : vC [] = fun _ => none := by funext m; cases m <;> simp [vC]
theorem sZ : nH [] = fun _ => none := by funext m; cases m <;> rfl
theorem sN {Γ : Gl} {P : Program} {o : Oper} {X : St} (g : Operand) (args : Array Operand) (tys : Array TypeId) (h : o.op = .call { callee := .value g, args := args, argTypes := tys }) {f : FuncId} {caps : List D} (hg : ev X g = .fn f caps) (hc : yQ P f = true)
  (len : List Nm) {cargs : List D} {r : D} {ns : List Ob} (hG : Good Γ P f cargs [] r [] ns)
  (hv : VwL (fun _ => none) X.hp (· ∈ len) cargs (args.toList.map (ev X) ++ caps)) (hlex : ∀ m ∈ len, X.hp m ≠ none)
  (rid i : Nat) (hnew : ∀ k, k < ns.length → X.hp (.r rid i k) = none) (sh : Bool) (hsh : sh = false → r.flat = true ∧ (∀ ob ∈ ns, D.flatL ob.cells = true)) :
  xD Γ P o X (vM X [] r [] ns rid i sh len []) := by
 refine bE g args tys h hg hc [] len hG (by rw [srcOf_nil]; exact hv) (by rw [srcOf_nil, sZ]; exact ⟨by simp, by simp, by simp, by simp⟩) rfl rfl (by simp) rid i hnew sh (fun e => ⟨(hsh e).1, (hsh e).2, by simp⟩) [] (by simp) (by simp) hlex (by simp) (by simp)
theorem wrapi {n : Int} (h1 : -9223372036854775808 ≤ n) (h2 : n ≤ 9223372036854775807) : IntKind.i64.wrap n = n := by rw [IntKind.wrap_i64]; omega
theorem yHd {n : Int} (h1 : 0 ≤ n) (h2 : n ≤ 255) : IntKind.u8.wrap n = n := by simp [IntKind.wrap, IntKind.bits, IntKind.signed]; omega
theorem yHH {n : Int} (h1 : 0 ≤ n) (h2 : n ≤ 65535) : IntKind.u16.wrap n = n := by simp [IntKind.wrap, IntKind.bits, IntKind.signed]; omega
theorem yHG {n : Int} (h1 : 0 ≤ n) (h2 : n ≤ 4294967295) : IntKind.u32.wrap n = n := by simp [IntKind.wrap, IntKind.bits, IntKind.signed]; omega
theorem yAm {n : Int} (h1 : 0 ≤ n) (h2 : n ≤ 18446744073709551615) : IntKind.u64.wrap n = n := by simp [IntKind.wrap, IntKind.bits, IntKind.signed]; omega
theorem head_drop {α : Type} [Inhabited α] {f : α → T} {l : List α} {i : Nat} (h : i < l.length) : (((l.map f).drop i).map D.t).headD .bad = .t (f (l.getD i default)) := by
 rw [← List.map_drop, List.drop_eq_getElem_cons h]
 simp [List.getD_eq_getElem?_getD, List.getElem?_eq_getElem h]
theorem len_drop {α : Type} {f : α → T} {l : List α} {i : Nat} : ((l.map f).drop i).length = l.length - i := by simp
theorem poi_st (m : Nm) (sl : List D) (L : List (Nm × Ob)) : St.poi m ⟨sl, look L⟩ = ⟨sl.map (D.poi m), look (L.map fun p => (p.1, p.2.poi m))⟩ := by simp only [St.poi, yBu]
theorem aC (m : Nm) (cs : List T) : (cs.map D.t).map (D.poi m) = cs.map D.t := by simp [D.poi, D.has]
theorem yCu (m : Nm) (l : List UInt8) : (bytesD l).map (D.poi m) = bytesD l := by rw [cG, aC]
theorem Nm_beq (m m' : Nm) : (m == m') = decide (m = m') := rfl
theorem xG {p : Prop} {h : Decidable p} : (@decide p h = true) = p := propext ⟨fun e => of_decide_eq_true e, fun e => decide_eq_true e⟩
theorem xH {p : Prop} {h : Decidable p} : (@decide p h = false) = ¬ p := propext ⟨fun e => of_decide_eq_false e, fun e => decide_eq_false e⟩
theorem yE2 {n : Int} (h : 0 ≤ n) : (if 0 ≤ n then some n.toNat else none) = some n.toNat := if_pos h
theorem sl_mid {α : Type} {f : α → T} {l : List α} {K R : Nat} (h : R ≤ l.length) : T.sl (R - K) (((l.map f).drop K).take (R - K)) = T.sl ((l.take R).drop K).length (((l.take R).drop K).map f) := by
 rw [List.map_drop, List.map_take, List.length_drop, List.length_take, Nat.min_eq_left h, List.drop_take]
theorem yFw {Γ : Gl} {P : Program} {o : Oper} {X : St} (src dst : TypeId) (x : Operand) (h : o.op = .convert src dst x) {e : TypeId} (hs : P.underlying src = some (.slice e)) (hd : P.underlying dst = some .string) (he : P.underlying e = some (.int .u8)) (l : List UInt8) {m : Nm} {off n : Nat} {ob : Ob}
  (hx : ev X x = .msl m off n 1) (hm : X.hp m = some ob) (hl : (ob.cells.drop off).take n = bytesD l) (hle : off + n ≤ ob.cells.length) : xD Γ P o X { val := .t (.v (.string (S l))), F := [m] } :=
 nM src dst x h hs hd he l (.inl ⟨m, off, n, ob, hx, hm, hl, hle⟩) [m] (fun m' off' n' sz' h' => by rw [hx] at h'; cases h'; simp)
theorem yHV {Γ : Gl} {P : Program} {o : Oper} {X : St} (src dst : TypeId) (x : Operand) (h : o.op = .convert src dst x) {e : TypeId} (hs : P.underlying src = some (.slice e)) (hd : P.underlying dst = some .string) (he : P.underlying e = some (.int .u8)) (l : List UInt8) {n : Nat}
  (hx : ev X x = .t (.sl n (l.map fun b => .v (.int .u8 b.toNat)))) (hn : n = l.length) : xD Γ P o X { val := .t (.v (.string (S l))) } :=
 nM src dst x h hs hd he l (.inr (.inl ⟨n, hx, hn⟩)) [] (fun m' off' n' sz' h' => by rw [hx] at h'; cases h')
theorem yHU {a b : Int} (h : 0 ≤ a) : a.tmod b = a % b := Int.tmod_eq_emod_of_nonneg h
theorem yHW {a b : Int} (h : 0 ≤ a) : a.tdiv b = a / b := Int.tdiv_eq_ediv_of_nonneg h
theorem mkS (l : List UInt8) : ByteArray.mk (List.toArray l) = S l := rfl
theorem look_nil (m : Nm) : look [] m = none := rfl
theorem yD5 (m m' : Nm) (o : Ob) (r : List (Nm × Ob)) : look ((m, o) :: r) m' = if m = m' then some o else look r m' := rfl
attribute [push_cast] look_nil yD5
theorem yFX (m : Nm) (o : Ob) : vD m o [] = [(m, o)] := rfl
theorem yDF (m m' : Nm) (o o' : Ob) (r : List (Nm × Ob)) : vD m o ((m', o') :: r) = if m' = m then (m, o) :: r else (m', o') :: vD m o r := rfl
theorem yGG (m : Nm) : lN m [] = [] := rfl
theorem yEJ (m m' : Nm) (o' : Ob) (r : List (Nm × Ob)) : lN m ((m', o') :: r) = if m' = m then lN m r else (m', o') :: lN m r := rfl
theorem yDm (cs : List D) (off : Nat) : setAt cs off [] = cs := rfl
theorem yCi (cs : List D) (off : Nat) (d : D) (ds : List D) : setAt cs off (d :: ds) = setAt (cs.set off d) (off + 1) ds := rfl
theorem yFs (h : Nm → Option Ob) : nL h [] = h := rfl
theorem yDa (h : Nm → Option Ob) (m : Nm) (o : Option Ob) (r : List (Nm × Option Ob)) : nL h ((m, o) :: r) = nL (upd h m o) r := rfl
theorem yFY (X : St) : X.poiL [] = X := rfl
theorem yDJ (X : St) (m : Nm) (r : List Nm) : X.poiL (m :: r) = (X.poi m).poiL r := rfl
theorem cO (z : List D) : vQ z 0 = [] := rfl
theorem yAl (z : List D) (n : Nat) : vQ z (n + 1) = z ++ vQ z n := rfl
theorem yEE (place : Nat → Option (Nat × Nat)) (cells : List D) : lL place cells [] = some cells := rfl
theorem yCJ (place : Nat → Option (Nat × Nat)) (cells : List D) (i : Nat) (d : D) (r : List (Nat × D)) : lL place cells ((i, d) :: r) = match place i, d.cells with
  | some (off, size), some ds => if ds.length = size ∧ off + size ≤ cells.length then lL place (setAt cells off ds) r else none
  | _, _ => none := rfl
theorem toT_t (x : T) : D.toT (.t x) = some x := rfl
theorem yHT (ds : List D) : D.toT (.agg ds) = (D.toTs ds).map .agg := rfl
theorem yHR (m : Nm) (o : Nat) : D.toT (.ptr m o) = none := rfl
theorem yHQ (cs : List T) : D.toT (.rop cs) = none := rfl
theorem yHS (m : Nm) (a b c : Nat) : D.toT (.msl m a b c) = none := rfl
theorem toT_bad : D.toT .bad = none := rfl
theorem toT_fn (f : FuncId) (c : List D) : D.toT (.fn f c) = none := rfl
theorem toTs_nil : D.toTs [] = some [] := rfl
theorem cU (d : D) (ds : List D) : D.toTs (d :: ds) = match D.toT d, D.toTs ds with
  | some x, some xs => some (x :: xs)
  | _, _ => none := rfl
theorem toTs_map : ∀ cs : List T, D.toTs (cs.map D.t) = some cs
 | [] => rfl
 | c :: cs => by rw [List.map_cons, cU, toT_t, toTs_map cs]
theorem has_t (m : Nm) (x : T) : D.has m (.t x) = false := rfl
theorem yI5 (m : Nm) : D.has m .bad = false := rfl
theorem yI6 (m : Nm) (cs : List D) : D.has m (.agg cs) = D.hasL m cs := rfl
theorem yI0 (m : Nm) (cs : List D) : D.has m (.tup cs) = D.hasL m cs := rfl
theorem yI4 (m : Nm) (t : TypeId) (d : D) : D.has m (.ifc t d) = D.has m d := rfl
theorem yI2 (m m' : Nm) (o : Nat) : D.has m (.ptr m' o) = decide (m = m') := rfl
theorem yI1 (m : Nm) (cs : List T) : D.has m (.rop cs) = false := rfl
theorem yI3 (m m' : Nm) (a b c : Nat) : D.has m (.msl m' a b c) = decide (m = m') := rfl
theorem has_fn (m : Nm) (f : FuncId) (c : List D) : D.has m (.fn f c) = D.hasL m c := rfl
theorem yGo (m : Nm) : D.hasL m [] = false := rfl
theorem yEo (m : Nm) (d : D) (ds : List D) : D.hasL m (d :: ds) = (D.has m d || D.hasL m ds) := rfl
theorem ren_t (ρ : Nm → Nm) (x : T) : D.ren ρ (.t x) = .t x := rfl
theorem yIm (ρ : Nm → Nm) : D.ren ρ .bad = .bad := rfl
theorem yIn (ρ : Nm → Nm) (cs : List D) : D.ren ρ (.agg cs) = .agg (D.renL ρ cs) := rfl
theorem yIh (ρ : Nm → Nm) (cs : List D) : D.ren ρ (.tup cs) = .tup (D.renL ρ cs) := rfl
theorem yIl (ρ : Nm → Nm) (t : TypeId) (d : D) : D.ren ρ (.ifc t d) = .ifc t (D.ren ρ d) := rfl
theorem yIj (ρ : Nm → Nm) (m : Nm) (o : Nat) : D.ren ρ (.ptr m o) = .ptr (ρ m) o := rfl
theorem yIi (ρ : Nm → Nm) (cs : List T) : D.ren ρ (.rop cs) = .rop cs := rfl
theorem yIk (ρ : Nm → Nm) (m : Nm) (a b c : Nat) : D.ren ρ (.msl m a b c) = .msl (ρ m) a b c := rfl
theorem ren_fn (ρ : Nm → Nm) (f : FuncId) (c : List D) : D.ren ρ (.fn f c) = .fn f (D.renL ρ c) := rfl
theorem yFQ (ρ : Nm → Nm) : D.renL ρ [] = [] := rfl
theorem yDy (ρ : Nm → Nm) (d : D) (ds : List D) : D.renL ρ (d :: ds) = D.ren ρ d :: D.renL ρ ds := rfl
attribute [push_cast] yFX yDF yGG yEJ yDm yCi yFs yDa yFY yDJ cO yAl yEE yCJ toT_t yHT yHR yHQ yHS toT_bad toT_fn toTs_nil cU toTs_map has_t yI5 yI6 yI0 yI4 yI2 yI1 yI3 has_fn yGo yEo ren_t yIm yIn yIh yIl yIj yIi yIk ren_fn yFQ yDy
attribute [push_cast] beq_self_eq_true yAo yCb yC9 if_not if_if2 beq_t beq_f yIS if_int yIR if_if if_if' if_and if_or wP sM lenF mmF binV unV ev evc bound D.cells D.ofCells yDU Option.map_some Option.map_none List.map_cons List.map_nil List.getD_cons_zero List.getD_cons_succ List.getD_nil List.getElem?_cons_zero List.getElem?_cons_succ List.set_cons_zero List.set_cons_succ List.set_nil List.drop_succ_cons List.drop_zero List.take_succ_cons List.take_zero List.headD_cons List.length_cons List.length_nil List.all_cons List.all_nil Value.oneCell' Bool.and_true Bool.true_and Bool.and_self Bool.and_false Bool.false_and Bool.false_eq_true Bool.true_eq_false Bool.not_true Bool.not_false Bool.not_not decide_true decide_false and_true true_and and_self not_true_eq_false not_false_eq_true if_true if_false Nm.r.injEq Nm.p.injEq Nm.n.injEq Nat.zero_add Nat.add_zero Nat.mul_one Nat.one_mul Nat.one_ne_zero Nat.zero_ne_one S_l Int.toNat_natCast false_and and_false Option.isSome_some Nat.lt_add_one Nat.le_refl implies_true not_false_iff Option.isNone_none Option.isNone_some List.toList_toArray List.getElem?_toArray wrapi yHd yHH yHG yAm head_drop len_drop List.length_map yE2 Nat.sub_zero yHU yHW mkS Int.cast_ofNat_Int appF srcF jA maxLen Nm_beq lK hU yAR Bool.or_self Bool.or_false Bool.false_or List.nil_append List.append_nil List.cons_append List.map_append List.length_append St.app poi_st D.poi Ob.poi aC yCu nR qH nV vM tE yDx Ob.ren fV List.zip_cons_cons List.zip_nil_left List.zip_nil_right List.zipIdx_cons List.zipIdx_nil Ob.frz List.isEmpty_nil List.isEmpty_cons
end Go.Ot
