/- Rows: made, appended to, copied into, turned into texts. -/
import Derived.Test.YtbpponebopnfaaaDoorOtPart
set_option linter.unusedVariables false
set_option linter.unusedSimpArgs false
namespace Go.Ot

@[simp] theorem hasL_map_t (m : Nm) : ∀ cs : List T, D.hasL m (cs.map D.t) = false
  | [] => rfl
  | c :: cs => by simp [D.hasL, D.has, hasL_map_t m cs]
@[simp] theorem hasL_append (m : Nm) : ∀ ds es : List D, D.hasL m (ds ++ es) = (D.hasL m ds || D.hasL m es)
  | [], es => by simp [D.hasL]
  | d :: ds, es => by simp [D.hasL, hasL_append m ds es, Bool.or_assoc]

/-- What is appended: of any world with this heap. -/
structure Src (P : Program) (w : World) (size : Nat) (x : Value) (u : TypeId) (k : Nat) (news : List Value) : Prop where
  ty : (∃ d, P.underlying u = some (.slice d)) ∨ P.underlying u = some .string
  len : ∀ w', (Builtin.lenOf x).run P w' = .ok k w'
  cells : ∀ w', w'.heap = w.heap → (Builtin.firstCells size k x).run P w' = .ok news.toArray w'
  lenN : news.length = k * size

section
variable {P : Program}

theorem run_append_grow' {w : World} (t u ty e : TypeId) (i : TypeInfo) (z : Value) (ht : P.underlying t = some (.slice e)) (hi : P.info? e = some i) (hz : i.zero = some z)
    (base : Option Addr) (n cap : Nat) (olds : List Value) (ho : ∀ w', w'.heap = w.heap → (Builtin.firstCells i.size n (.slice base n cap)).run P w' = .ok olds.toArray w')
    (x : Value) (k : Nat) (news : List Value) (hs : Src P w i.size x u k news) (hg : cap < n + k) (h63 : n + k ≤ maxLen) (hfit : (n + k) * i.bytes ≤ 140737488355328) :
    (Builtin.append_ #[t, u] ty #[.slice base n cap, x]).run P w =
      .ok (.slice (some ⟨w.heap.size, 0, none⟩) (n + k) (grownCap w (n + k) cap e)) (w.drew.alloc (.cells (olds.toArray ++ news.toArray ++ Builtin.zeroCells z.cells (grownCap w (n + k) cap e - (n + k))) e)) := by
  have hn : ¬ (n + k ≤ cap) := by omega
  have h63' : ¬ (9223372036854775807 < ((n : Int) + (k : Int))) := by simp only [maxLen] at h63; omega
  have h48' : ¬ (281474976710656 < Builtin.nextslicecap (n + k) cap * i.bytes) := by
    have := growslice_fits hg hfit
    omega
  have hf := hs.cells w.drew rfl
  have hfo := ho w.drew rfl
  rcases hs.ty with ⟨du, hu⟩ | hu <;> simp [Builtin.append_, run_underlying ht, run_underlying hu, sizeOf, typeInfo, zeroValue, hi, hz, hs.len, hn, h63', h48', Question.forced, hf, hfo, newRow, grownCap] <;> (congr 2; apply Array.ext'; simp [List.append_assoc])

theorem run_append_room' {w : World} (t u ty e : TypeId) (i : TypeInfo) (ht : P.underlying t = some (.slice e)) (hi : P.info? e = some i)
    (b n cap : Nat) (cur : Array Value) (fr : Nat × Nat) (hb : w.heap[b]? = some (.cells cur e fr)) (hfr : ∀ j, j < cur.size → ¬ (fr.1 ≤ j ∧ j < fr.2))
    (x : Value) (k : Nat) (news : List Value) (hs : Src P w i.size x u k news) (h1 : ∀ v ∈ news, v.oneCell' = true) (hg : n + k ≤ cap) (hfit : n * i.size + news.length ≤ cur.size) :
    (Builtin.append_ #[t, u] ty #[.slice (some ⟨b, 0, none⟩) n cap, x]).run P w = .ok (.slice (some ⟨b, 0, none⟩) (n + k) cap) (w.setRow b (setAtV cur.toList (n * i.size) news).toArray) := by
  have hf := hs.cells w rfl
  have hst := run_storeCells_fr P b (n * i.size) e fr news 0 cur w hb hfr (by omega) h1
  rw [Nat.add_zero] at hst
  rcases hs.ty with ⟨du, hu⟩ | hu <;> simp [Builtin.append_, run_underlying ht, run_underlying hu, sizeOf, typeInfo, hi, hs.len, hg, hf, add_at, hst]

theorem run_append_same {w : World} (t u ty e : TypeId) (i : TypeInfo) (ht : P.underlying t = some (.slice e)) (hi : P.info? e = some i)
    (base : Option Addr) (n cap : Nat) (x : Value) (hs : Src P w i.size x u 0 []) (hg : n ≤ cap) :
    (Builtin.append_ #[t, u] ty #[.slice base n cap, x]).run P w = .ok (.slice base n cap) w := by
  have hf := hs.cells w rfl
  rcases hs.ty with ⟨du, hu⟩ | hu <;> cases base <;> simp [Builtin.append_, run_underlying ht, run_underlying hu, sizeOf, typeInfo, hi, hs.len, hg, hf, storeCells]
end

theorem Sim.newNil {Γ : Gl} {E : Env} {X : St} {a : Act} {w : World} {η : Et} (h : Sim Γ E X a w η) {m : Nm} (hm : X.hp m = none) (he : E.η0 m = none) (ty : TypeId) :
    Sim Γ E { X with hp := upd X.hp m (some ⟨[], ty, true, true⟩) } a w η := by
  have hηm : η m = none := by
    cases e : η m with
    | none => rfl
    | some q => exact absurd hm (h.ok.dom m q e)
  have hM : ∀ b, Mx (upd X.hp m (some ⟨[], ty, true, true⟩)) η E.A b → Mx X.hp η E.A b := by
    rintro b (⟨m', ob', s, h1, h2, h3⟩ | h1)
    · by_cases e : m' = m
      · subst e; rw [hηm] at h3; cases h3
      · rw [upd_ne e] at h1
        exact .inl ⟨m', ob', s, h1, h2, h3⟩
    · exact .inr h1
  have hk : Keeps w w (Mx X.hp η E.A) := fun _ _ _ => rfl
  refine { slots := RepsA.keeps hk (fun b _ => hM b) _ _ (fun _ _ _ h => h) h.slots, ok := ⟨?_, ?_, h.ok.inj, h.ok.noA⟩, defers := h.defers, size := h.size, keep := h.keep, mine := ?_, mine2 := h.mine2, pin := ?_, low := h.low, os := h.os, tape := h.tape, output := h.output, par := h.par, glob := h.glob, gle := h.gle, gM := h.gM }
  · intro m' ob' hm'
    by_cases e : m' = m
    · subst e
      simp at hm'
      subst hm'
      simp [ObRep, hηm]
    · exact (h.ok.objs m' ob' (by simpa [upd_ne e] using hm')).keeps hk (fun b _ => hM b) (fun _ _ _ => rfl) rfl (fun _ _ _ h => h)
  · intro m' q hq
    by_cases e : m' = m
    · subst e; simp
    · simpa [upd_ne e] using h.ok.dom m' q hq
  · intro m' ob' b s h1 h2 h3
    by_cases e : m' = m
    · subst e; rw [hηm] at h3; cases h3
    · exact h.mine m' ob' b s (by simpa [upd_ne e] using h1) h2 h3
  · intro m' ob' q h1 h2 h3
    by_cases e : m' = m
    · subst e; rw [he] at h3; cases h3
    · exact h.pin m' ob' q (by simpa [upd_ne e] using h1) h2 h3

section
variable {Γ : Gl} {P : Program} {o : Oper} {X : St}

/-- What an operand of an append brings, by the abstract state: k elements, these cells. -/
def SrcD (P : Program) (X : St) (size : Nat) (u : TypeId) (d : D) (k : Nat) (nd : List D) (F : List Nm) : Prop :=
  ∀ (Γ : Gl) (E : Env) (Y : St) (a : Act) (w : World) (η : Et), Sim Γ E Y a w η → (∀ m ∈ F, Y.hp m = X.hp m) → ∀ v, Rep w (Mx Y.hp η E.A) η d v → ∃ news, Src P w size v u k news ∧ Reps w (Mx Y.hp η E.A) η nd news

theorem run_firstCells_at {w : World} (size k : Nat) (A : Addr) (c : Nat) (news : List Value) (hl : news.length = k * size) (hc : ∀ j v, news[j]? = some v → w.cell? (A.add j) = some v) : ∀ w', w'.heap = w.heap → (Builtin.firstCells size k (.slice (some A) k c)).run P w' = .ok news.toArray w' := by
  intro w' hw
  exact run_firstCells_some w' size k A k c news hl (fun j v hv => by
    have := hc j v hv
    simpa [World.cell?, hw] using this)

theorem src_sl {size : Nat} {u : TypeId} {k : Nat} {cs : List T} (hu : ∃ e, P.underlying u = some (.slice e)) (hl : cs.length = k * size) : SrcD P X size u (.t (.sl k cs)) k (cs.map .t) [] := by
  intro Γ E Y a w η hS _ v hv
  obtain ⟨A, c, rfl, hnc, hcm, hR⟩ := hv
  obtain ⟨e, hu⟩ := hu
  have nil : cs = [] → ∃ news, Src P w size (.slice A k c) u k news ∧ Reps w (Mx Y.hp η E.A) η (cs.map .t) news := by
    intro h0
    subst h0
    refine ⟨[], ⟨.inl ⟨_, hu⟩, fun w' => rfl, fun w' _ => ?_, by simpa using hl⟩, rfl⟩
    cases A with
    | none => simp [Builtin.firstCells]
    | some A => exact run_firstCells_at size k A c [] hl (by simp) w' (by assumption)
  rcases hR with hR | ⟨ad, rfl, hna, hR⟩
  · exact nil hR
  · have : ∀ n, n ≤ cs.length → ∃ us : List Value, us.length = n ∧ ∀ j (hj : j < n), ∃ x, us[j]? = some x ∧ w.cell? (ad.add j) = some x ∧ x.oneCell' = true ∧ ∃ hj' : j < cs.length, RepT w (Mx Y.hp η E.A) (cs[j]'hj') x := by
      intro n
      induction n with
      | zero => exact fun _ => ⟨[], rfl, fun j hj => by omega⟩
      | succ n ih =>
        intro hn
        obtain ⟨us, hl', hg⟩ := ih (by omega)
        obtain ⟨x, hu1, hu2, hu3⟩ := hR.get (i := n) (d := cs[n]'(by omega)) (List.getElem?_eq_getElem (by omega))
        refine ⟨us ++ [x], by simp [hl'], fun j hj => ?_⟩
        by_cases e : j = n
        · subst e
          exact ⟨x, by simp [← hl'], by simpa using hu1, hu2, by omega, hu3⟩
        · obtain ⟨u', h1, h2⟩ := hg j (by omega)
          exact ⟨u', by rw [List.getElem?_append_left (by omega)]; exact h1, h2⟩
    obtain ⟨us, hus, hget⟩ := this _ (Nat.le_refl _)
    refine ⟨us, ⟨.inl ⟨_, hu⟩, fun w' => rfl, run_firstCells_at size k ad c us (by rw [hus, hl]) (fun j v hv => ?_), by rw [hus, hl]⟩, ?_⟩
    · have hj : j < cs.length := by rw [← hus]; exact (List.getElem?_eq_some_iff.1 hv).1
      obtain ⟨x, h3, h4, _⟩ := hget j hj
      rw [h3] at hv
      cases hv
      exact h4
    · refine Reps.of_get (by simp [hus]) (fun j d hd => ?_)
      simp only [List.getElem?_map, Option.map_eq_some_iff] at hd
      obtain ⟨x, hx, rfl⟩ := hd
      obtain ⟨hj, rfl⟩ := List.getElem?_eq_some_iff.1 hx
      obtain ⟨y, h3, h4, h5, h6, h7⟩ := hget j hj
      exact ⟨y, h3, h5, h7⟩

theorem src_nil {size : Nat} {u : TypeId} {A : Option Addr} {c : Nat} (hu : ∃ e, P.underlying u = some (.slice e)) : SrcD P X size u (.t (.v (.slice A 0 c))) 0 [] [] := by
  intro Γ E Y a w η hS _ v hv
  obtain ⟨e, hu⟩ := hu
  have hv : v = .slice A 0 c := hv
  subst hv
  refine ⟨[], ⟨.inl ⟨_, hu⟩, fun w' => rfl, fun w' _ => ?_, by simp⟩, rfl⟩
  cases A with
  | none => simp [Builtin.firstCells]
  | some A => exact run_firstCells_at size 0 A c [] (by simp) (by simp) w' (by assumption)

theorem src_msl {size : Nat} {u : TypeId} {m : Nm} {off k : Nat} {ob : Ob} (hu : ∃ e, P.underlying u = some (.slice e)) (hm : X.hp m = some ob) (hl : off + k * size ≤ ob.cells.length) : SrcD P X size u (.msl m off k size) k ((ob.cells.drop off).take (k * size)) [m] := by
  intro Γ E Y a w η hS hF v hv
  obtain ⟨e, hu⟩ := hu
  obtain ⟨A, c, rfl, hnc, hcm, hR⟩ := hv
  have hm' : Y.hp m = some ob := (hF m (by simp)).trans hm
  rcases hR with hR | ⟨b, s, hη, rfl, hR⟩
  · have : k = 0 := by omega
    subst this
    refine ⟨[], ⟨.inl ⟨_, hu⟩, fun w' => rfl, fun w' _ => ?_, by simp⟩, by simp; rfl⟩
    cases A with
    | none => simp [Builtin.firstCells]
    | some A => exact run_firstCells_at (P := P) size 0 A c [] (by simp) (by simp) w' (by assumption)
  · obtain ⟨cur, fr, hb⟩ := hS.block hm' hη
    have hRR := (hb.reps.drop off).take (k * size)
    have hle := hb.le
    have hsz := hb.size
    refine ⟨_, ⟨.inl ⟨_, hu⟩, fun w' => rfl, run_firstCells_at size k _ c _ ?_ (fun j v hv => ?_), ?_⟩, hRR⟩
    · simp; omega
    · rw [add_at, cell_of_row w b (off + j) cur ob.ty fr hb.heap]
      rw [List.getElem?_take] at hv
      split at hv
      · rw [List.getElem?_drop, List.getElem?_take] at hv
        split at hv
        · simpa using hv
        · cases hv
      · cases hv
    · simp; omega

/-- A text's bytes, as cells. -/
def bytesT (s : ByteArray) : List T := s.data.toList.map fun b => .v (.int .u8 b.toNat)
theorem src_str {u : TypeId} (hu : P.underlying u = some .string) (s : ByteArray) : SrcD P X 1 u (.t (.v (.string s))) s.size ((bytesT s).map .t) [] := by
  intro Γ E Y a w η hS _ v hv
  have hv : v = .string s := hv
  subst hv
  refine ⟨Go.Lib.strCells s, ⟨.inr hu, fun w' => rfl, fun w' _ => Go.Lib.run_firstCells_string w' 1 s, by simp [Go.Lib.strCells_length]⟩, ?_⟩
  refine Reps.of_get (by simp [bytesT, Go.Lib.strCells]) (fun j d hd => ?_)
  simp only [bytesT, List.map_map, List.getElem?_map, Option.map_eq_some_iff, Function.comp] at hd
  obtain ⟨b, hb, rfl⟩ := hd
  exact ⟨.int .u8 b.toNat, by simp [Go.Lib.strCells, hb], rfl, rfl⟩

theorem app_poi {X : St} {dst : Option Nat} {d : D} {F : List Nm} {b : Bool} {m : Nm} {ob : Option Ob} : X.app dst { val := d, F := F, bar := b, poi := [m], upd := [(m, ob)] } = { ({ X.poi m with hp := upd (X.poi m).hp m ob } : St) with sl := match dst with | some s => (X.poi m).sl.set s d | none => (X.poi m).sl } := by
  cases dst <;> rfl

theorem appGrown {w : World} {e : TypeId} {i : TypeInfo} {z : Value} (hzs : z.cells.size = i.size) (olds news : List Value) (n k cap : Nat) (hlo : olds.length = n * i.size) (hln : news.length = k * i.size) :
    (olds.toArray ++ news.toArray ++ Builtin.zeroCells z.cells (grownCap w (n + k) cap e - (n + k))).size = grownCap w (n + k) cap e * i.size := by
  have hge := grownCap_ge w (n + k) cap e
  simp only [Array.size_append, List.size_toArray, size_zeroCells, hzs, hlo, hln, ← Nat.add_mul]
  congr 1
  omega

/-- An append to a row that the frame owns, whole. -/
theorem spec_append (s x : Operand) (t u : TypeId) (h : o.op = .call { callee := .builtin .append, args := #[s, x], argTypes := #[t, u] }) {e : TypeId} (ht : P.underlying t = some (.slice e)) {i : TypeInfo} {z : Value} (hi : P.info? e = some i) (hz : i.zero = some z) (hzs : z.cells.size = i.size)
    {m : Nm} {n sz : Nat} (hsz : i.size = sz) (hs : ev X s = .msl m 0 n sz) {ob : Ob} (hm : X.hp m = some ob) (ho : ob.own = true) (hr : ob.row = true) (hty : ob.ty = e) (hn : ob.cells.length = n * sz)
    {k : Nat} {nd : List D} {F : List Nm} (hx : SrcD P X sz u (ev X x) k nd F) (hnd : D.hasL m ob.cells = false) (hnd' : D.hasL m nd = false) (h63 : n + k ≤ maxLen) (hb : (n + k) * i.bytes ≤ 140737488355328) :
    OpSpec Γ P o X { val := .msl m 0 (n + k) sz, F := m :: F, bar := true, poi := [m], upd := [(m, some { ob with cells := ob.cells ++ nd })] } := by
  intro E Y a w η hA hS K Q hK
  obtain rfl : Y = X := hA.1 rfl
  subst hsz
  subst hty
  have hrs := hS.ev s
  rw [hs] at hrs
  obtain ⟨A, c, hes, hnc, hcm, hR⟩ := hrs
  obtain ⟨news, hsrc, hRn⟩ := hx Γ E Y a w η hS (fun _ _ => rfl) (a.eval x) (hS.ev x)
  have hP := hS.poi m
  have hns : D.hasL m (Y.poi m).sl = false := D.hasL_poi m _
  have hno : ∀ m' ob', m' ≠ m → (Y.poi m).hp m' = some ob' → D.hasL m ob'.cells = false := by
    intro m' ob' _ h'
    simp only [St.poi, Option.map_eq_some_iff] at h'
    obtain ⟨ob'', _, rfl⟩ := h'
    exact D.hasL_poi m _
  have hmP : (Y.poi m).hp m = some (ob.poi m) := by simp [St.poi, hm]
  have hnc' : D.hasL m (ob.cells ++ nd) = false := by simp [hnd, hnd']
  have hMx : Mx (Y.poi m).hp η E.A = Mx Y.hp η E.A := Mx_poi m
  have hlen : (ob.cells ++ nd).length = (n + k) * i.size := by
    have h1 := hRn.length
    have h2 := hsrc.lenN
    rw [List.length_append, hn, Nat.add_mul]
    omega
  have fin : ∀ (v' : Value) (w' : World) (row : Option Nat) (cur : Array Value) (fr : Nat × Nat) (b : Nat), (execOp a.eval o).run P w = .ok (.value v') w' → w.grownBy w' row → (∀ k', row = some k' → ∃ s', η m = some (k', s')) →
      (row = some b ∨ w.heap.size ≤ b) → w'.heap[b]? = some (.cells cur ob.ty fr) → (∀ j, j < cur.size → ¬ (fr.1 ≤ j ∧ j < fr.2)) → (ob.cells ++ nd).length ≤ cur.size → Reps w (Mx Y.hp η E.A) η (ob.cells ++ nd) (cur.toList.take (ob.cells ++ nd).length) →
      (∃ c', v' = .slice (some ⟨b, 0, none⟩) (n + k) c' ∧ n + k ≤ c' ∧ c' ≤ maxLen ∧ c' * i.size = cur.size) → o.wp P a w K Q := by
    intro v' w' row cur fr b hrun hg hrow hb' hh hfr hl hc ⟨c', hv, h1, h2, h3⟩
    refine wp_val hrun (hK _ _ (updE η m (some (b, cur.size))) ?_)
    rw [app_poi]
    have := hP.grow hmP ho hr hns hno hg hrow (ob.cells ++ nd) hnc' cur fr b hb' hh hfr hl (by rw [hMx]; exact hc)
    refine Sim.put (X := { Y.poi m with hp := upd (Y.poi m).hp m _ }) this (d := .msl m 0 (n + k) i.size) ?_ o.dst
    exact ⟨_, c', hv, h1, h2, .inr ⟨b, cur.size, by simp, rfl, by omega⟩⟩
  have hexec : ∀ v' w', (Builtin.append_ #[t, u] o.type #[.slice A n c, a.eval x]).run P w = .ok v' w' → (execOp a.eval o).run P w = .ok (.value v') w' := by
    intro v' w' hrun
    simp [execOp, h, resolve, invoke, builtin, hes, hrun]
  have grown : ∀ (olds : List Value), Reps w (Mx Y.hp η E.A) η ob.cells olds → (∀ w', w'.heap = w.heap → (Builtin.firstCells i.size n (.slice A n c)).run P w' = .ok olds.toArray w') → c < n + k → o.wp P a w K Q := by
    intro olds hRo hfo hlt
    have hlo : olds.length = n * i.size := by rw [hRo.length, hn]
    have hrun := run_append_grow' t u o.type ob.ty i z ht hi hz A n c olds hfo (a.eval x) k news hsrc hlt h63 hb
    have hsize := appGrown (w := w) (e := ob.ty) hzs olds news n k c hlo hsrc.lenN
    have hge := grownCap_ge w (n + k) c ob.ty
    refine fin _ _ none _ (0, 0) w.heap.size (hexec _ _ hrun) ⟨rfl, rfl, rfl, by simp, fun b' hb' _ => heap_alloc_old w.drew _ b' hb'⟩ (by simp) (.inr (Nat.le_refl _)) (by simpa using heap_alloc_new w.drew _) (by intro j _ ⟨_, h2⟩; omega) ?_ ?_ ⟨_, rfl, hge, grownCap_le_maxLen w (n + k) c ob.ty h63, hsize.symm⟩
    · rw [hsize, hlen]; exact Nat.mul_le_mul_right _ hge
    · have : (olds.toArray ++ news.toArray ++ Builtin.zeroCells z.cells (grownCap w (n + k) c ob.ty - (n + k))).toList.take (ob.cells ++ nd).length = olds ++ news := by
        simp only [Array.toList_append, List.append_assoc]
        rw [← List.append_assoc, show (ob.cells ++ nd).length = (olds ++ news).length from by simp [hRo.length, hRn.length]]
        exact List.take_left
      rw [this]
      exact hRo.append hRn
  rcases hR with hR | ⟨b, sb, hη, rfl, hR⟩
  · -- nothing is there yet
    have hn0 : n = 0 := by omega
    subst hn0
    have hc0 : ob.cells = [] := List.eq_nil_of_length_eq_zero (by simpa using hn)
    by_cases hk : k = 0
    · subst hk
      have hnews : news = [] := List.eq_nil_of_length_eq_zero (by simpa using hsrc.lenN)
      subst hnews
      have hnd0 : nd = [] := List.eq_nil_of_length_eq_zero (by simpa using hRn.length.symm)
      subst hnd0
      have hrun := run_append_same t u o.type ob.ty i ht hi A 0 c (a.eval x) hsrc (Nat.zero_le _)
      refine wp_val (hexec _ _ hrun) (hK _ _ η ?_)
      rw [app_poi]
      have hup : ({ Y.poi m with hp := upd (Y.poi m).hp m (some { ob with cells := ob.cells ++ [] }) } : St) = Y.poi m := by
        have : upd (Y.poi m).hp m (some { ob with cells := ob.cells ++ [] }) = (Y.poi m).hp := by
          funext m'
          by_cases e : m' = m
          · subst e
            rw [upd_same, hmP]
            simp [Ob.poi, hc0]
          · rw [upd_ne e]
        rw [this]
      rw [hup]
      exact Sim.put (X := Y.poi m) hP (d := .msl m 0 0 i.size) ⟨A, c, rfl, Nat.zero_le _, hcm, .inl hR⟩ o.dst
    · refine grown [] (by rw [hc0]; rfl) (fun w' hw => ?_) (by omega)
      cases A with
      | none => simp [Builtin.firstCells]
      | some A => exact run_firstCells_at i.size 0 A c [] (by simp) (by simp) w' hw
  · obtain ⟨cur, fr, hblk⟩ := hS.block hm hη
    have hsz := hblk.size
    have hle := hblk.le
    by_cases hroom : n + k ≤ c
    · have hfit : n * i.size + news.length ≤ cur.size := by
        rw [hsrc.lenN, ← Nat.add_mul, hsz, ← hR, Nat.zero_add]
        exact Nat.mul_le_mul_right _ hroom
      have hrun := run_append_room' t u o.type ob.ty i ht hi b n c cur fr hblk.heap hblk.free (a.eval x) k news hsrc hRn.one hroom hfit
      refine fin _ _ (some b) (setAtV cur.toList (n * i.size) news).toArray fr b (hexec _ _ hrun) ⟨rfl, rfl, rfl, by simp, fun b' _ hne => setRow_other w b b' _ (fun e => hne (by rw [e]))⟩ (fun k' hk' => by cases hk'; exact ⟨sb, hη⟩) (.inl rfl) (setRow_heap w b cur _ _ _ hblk.heap) (by simpa [setAtV_length] using hblk.free) ?_ ?_ ⟨c, rfl, hroom, hcm, ?_⟩
      · simp only [List.size_toArray, setAtV_length, Array.length_toList, hlen, hsz, ← hR, Nat.zero_add]
        exact Nat.mul_le_mul_right _ hroom
      · have key : ∀ (us : List Value) (cs : List Value) (off : Nat), off + us.length ≤ cs.length → (setAtV cs off us).take (off + us.length) = cs.take off ++ us := by
          intro us
          induction us with
          | nil => intro cs off _; simp [setAtV]
          | cons v us ih =>
            intro cs off hl
            simp only [setAtV, List.length_cons]
            rw [show off + (us.length + 1) = off + 1 + us.length from by omega, ih _ _ (by simp at hl ⊢; omega)]
            have hlt : off < cs.length := by simp at hl; omega
            rw [List.take_succ_eq_append_getElem (by simpa using hlt)]
            simp [List.take_set_of_le]
        have h1 : (ob.cells ++ nd).length = n * i.size + news.length := by rw [List.length_append, hn, hRn.length]
        rw [List.toList_toArray, h1, key _ _ _ (by simpa using hfit)]
        refine Reps.append ?_ hRn
        have := hblk.reps
        rwa [hn] at this
      · simp only [List.size_toArray, setAtV_length, Array.length_toList, hsz]
        omega
    · refine grown (cur.toList.take (n * i.size)) (by have := hblk.reps; rwa [hn] at this) (fun w' hw => ?_) (by omega)
      refine run_firstCells_at i.size n _ c _ ?_ (fun j v hv => ?_) w' hw
      · simp; omega
      · rw [add_at, cell_of_row w b (0 + j) cur ob.ty fr hblk.heap]
        rw [List.getElem?_take] at hv
        split at hv
        · simpa using hv
        · cases hv

/-- An append to nil. -/
theorem spec_append_nil (s x : Operand) (t u : TypeId) (h : o.op = .call { callee := .builtin .append, args := #[s, x], argTypes := #[t, u] }) {e : TypeId} (ht : P.underlying t = some (.slice e)) {i : TypeInfo} {z : Value} (hi : P.info? e = some i) (hz : i.zero = some z) (hzs : z.cells.size = i.size)
    {sz : Nat} (hsz : i.size = sz) (hs : ev X s = .t (.v (.slice none 0 0))) (rid j l : Nat) (hm : X.hp (.r rid j l) = none)
    {k : Nat} {nd : List D} {F : List Nm} (hx : SrcD P X sz u (ev X x) k nd F) (h63 : k ≤ maxLen) (hb : k * i.bytes ≤ 140737488355328) :
    OpSpec Γ P o X { val := .msl (.r rid j l) 0 k sz, F := .r rid j l :: F, upd := [(.r rid j l, some ⟨nd, e, true, true⟩)] } := by
  intro E Y a w η hA hS K Q hK
  subst hsz
  have hm' : Y.hp (.r rid j l) = none := (hA.2.2 _ (by simp)).trans hm
  have hes := hS.ev s
  rw [hA.2.1 s (by simp [h, Op.operands, Call.operands]), hs] at hes
  have hes : a.eval s = .slice none 0 0 := hes
  have hrx := hS.ev x
  rw [hA.2.1 x (by simp [h, Op.operands, Call.operands])] at hrx
  obtain ⟨news, hsrc, hRn⟩ := hx Γ E Y a w η hS (fun m hmF => hA.2.2 m (by simp [hmF])) (a.eval x) hrx
  have hexec : ∀ v' w', (Builtin.append_ #[t, u] o.type #[.slice none 0 0, a.eval x]).run P w = .ok v' w' → (execOp a.eval o).run P w = .ok (.value v') w' := by
    intro v' w' hrun
    simp [execOp, h, resolve, invoke, builtin, hes, hrun]
  by_cases hk : k = 0
  · subst hk
    have hnews : news = [] := List.eq_nil_of_length_eq_zero (by simpa using hsrc.lenN)
    subst hnews
    have hnd0 : nd = [] := List.eq_nil_of_length_eq_zero (by simpa using hRn.length.symm)
    subst hnd0
    have hrun := run_append_same t u o.type e i ht hi none 0 0 (a.eval x) hsrc (Nat.zero_le _)
    refine wp_val (hexec _ _ hrun) (hK _ _ η ?_)
    rw [app_upd]
    exact Sim.put (X := { Y with hp := upd Y.hp _ _ }) (hS.newNil hm' (hS.not_par _ _ _) e) (d := .msl _ 0 0 i.size) ⟨none, 0, rfl, Nat.le_refl _, Nat.zero_le _, .inl rfl⟩ o.dst
  · have hrun := run_append_grow' t u o.type e i z ht hi hz none 0 0 [] (fun w' _ => by simp [Builtin.firstCells]) (a.eval x) k news hsrc (by omega) (by simpa using h63) (by simpa using hb)
    simp only [Nat.zero_add] at hrun
    have hsize := appGrown (w := w) (e := e) hzs [] news 0 k 0 (by simp) hsrc.lenN
    simp only [Nat.zero_add] at hsize
    have hge := grownCap_ge w k 0 e
    generalize hcur : ((([] : List Value).toArray ++ news.toArray ++ Builtin.zeroCells z.cells (grownCap w k 0 e - k)) : Array Value) = cur at hrun hsize
    have hl : nd.length = k * i.size := by rw [← hRn.length, hsrc.lenN]
    have htake : cur.toList.take nd.length = news := by
      rw [← hcur, show nd.length = news.length from hRn.length.symm]
      simp
    have hS' : Sim Γ E Y a w.drew η := hS.world rfl rfl rfl rfl
    have hRn' : Reps w.drew (Mx Y.hp η E.A) η nd news := Reps.keeps (w := w) (w' := w.drew) (M := Mx Y.hp η E.A) (fun _ _ _ => rfl) (fun _ _ h => h) _ _ (fun _ _ _ h => h) hRn
    have := hS'.new hm' (hS.not_par rid j l) ⟨nd, e, true, true⟩ cur (0, 0) (by intro j _ ⟨_, h2⟩; omega) rfl (by rw [hl, hsize]; exact Nat.mul_le_mul_right _ hge) (by intro h; cases h) (by rw [htake]; exact hRn')
    refine wp_val (hexec _ _ hrun) (hK _ _ (updE η (.r rid j l) (some (w.heap.size, cur.size))) ?_)
    rw [app_upd]
    refine Sim.put (X := { Y with hp := upd Y.hp _ _ }) this (d := .msl _ 0 k i.size) ⟨_, _, rfl, hge, grownCap_le_maxLen w k 0 e h63, .inr ⟨w.heap.size, cur.size, by simp, rfl, by omega⟩⟩ o.dst
end
end Go.Ot
