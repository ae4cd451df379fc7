/- Contracts of this program's functions. -/
import Derived.Test.YtlacdlafoclaeaaDoorSQ0
set_option maxHeartbeats 4000000
set_option maxRecDepth 100000
set_option linter.unusedVariables false
set_option linter.unusedSimpArgs false
namespace Go.Proofs.Tryd
open Go Go.Ot

def greatL (l : List (List UInt8)) : Bool := ((l.take 60).any fun s => decide (400 < s.length)) || decide (50 < l.length)
theorem great_no {l : List (List UInt8)} {i : Nat} (h : ∀ s ∈ l.take i, s.length ≤ 400) (hi : 60 ≤ i ∨ l.length ≤ i) : greatL l = decide (50 < l.length) := by
  have h0 : ((l.take 60).any fun s => decide (400 < s.length)) = false := by
    rw [List.any_eq_false]
    intro s hs
    have : s ∈ l.take i := by
      rcases hi with hi | hi
      · have e : l.take 60 = (l.take i).take 60 := by rw [List.take_take, Nat.min_eq_left hi]
        rw [e] at hs
        exact List.mem_of_mem_take hs
      · rw [List.take_of_length_le hi]; exact List.mem_of_mem_take hs
    have := h s this
    simp; omega
  rw [greatL, h0, Bool.false_or]
theorem great_yes {l : List (List UInt8)} {i : Nat} (hi : i < l.length) (h6 : i < 60) (h : 400 < (l.getD i []).length) : greatL l = true := by
  have e : l.getD i [] = l[i] := by simp [List.getD_eq_getElem?_getD, List.getElem?_eq_getElem hi]
  have hm : l[i] ∈ l.take 60 := by rw [List.mem_take_iff_getElem]; exact ⟨i, by omega, rfl⟩
  have : ((l.take 60).any fun s => decide (400 < s.length)) = true := List.any_eq_true.2 ⟨l[i], hm, by rw [← e]; simpa using h⟩
  rw [greatL, this, Bool.true_or]
theorem great_f {l : List (List UInt8)} (h : greatL l = false) : l.length ≤ 50 ∧ ∀ s ∈ l, s.length ≤ 400 := by
  rw [greatL, Bool.or_eq_false_iff] at h
  have h1 : l.length ≤ 50 := by simpa using h.2
  refine ⟨h1, fun s hs => ?_⟩
  have h2 := h.1
  rw [List.take_of_length_le (by omega), List.any_eq_false] at h2
  simpa using h2 s hs
theorem mtn {l : List (List UInt8)} {i n : Nat} (h : ∀ s ∈ l.take i, s.length ≤ n) (hi : i < l.length) (hl : (l.getD i []).length ≤ n) : ∀ s ∈ l.take (i + 1), s.length ≤ n := by
  intro s hs
  have e : l.getD i [] = l[i] := by simp [List.getD_eq_getElem?_getD, List.getElem?_eq_getElem hi]
  rw [List.take_add_one, List.getElem?_eq_getElem hi, List.mem_append] at hs
  rcases hs with hs | hs
  · exact h s hs
  · simp at hs; rw [hs, ← e]; exact hl
theorem tsz_400 : ∀ {l : List (List UInt8)}, (∀ s ∈ l, s.length ≤ 400) → tsz l ≤ 405 * l.length
  | [], _ => by simp [tsz]
  | a :: l, h => by
    have h1 := h a (by simp)
    have h2 := tsz_400 (l := l) (fun s hs => h s (by simp [hs]))
    simp only [tsz, List.map_cons, List.sum_cons, List.length_cons] at h2 ⊢; omega
theorem rq_fit {q : Rq} (h : q.b.length ≤ 600) : mayW 6 q.w = true ∧ q.p.length = 37 + q.b.length := by
  have h1 : mayW 6 q.w = true := by show mayW 6 (rqW q.k q.d q.n q.b) = true; rw [rqW_may]; exact decide_eq_true (by omega)
  exact ⟨h1, by show (PutW q.w).length = _; rw [PutW_t h1]; exact rqW_len q.k q.d q.n q.b⟩
theorem rp_fit {q : Rp} (h : greatL q.l = false) : mayW 6 q.w = true ∧ q.p.length = 37 + tsz q.l ∧ tsz q.l ≤ 20250 ∧ q.l.length ≤ 50 := by
  obtain ⟨h2, h3⟩ := great_f h
  have h1 : mayW 6 q.w = true := by
    show mayW 6 (rpW q.k q.d q.n q.l) = true
    rw [rpW_may, Bool.and_eq_true]
    refine ⟨decide_eq_true (by omega), List.all_eq_true.2 fun s hs => decide_eq_true ?_⟩
    have := h3 s hs; omega
  have h4 := tsz_400 h3
  exact ⟨h1, by show (PutW q.w).length = _; rw [PutW_t h1]; exact rpW_len q.k q.d q.n q.l, by omega, h2⟩
theorem apart_q {q : Rq} (h : mayW 6 q.w = true) (hok : q.ok) : GP q.p = none := by
  cases e : GP q.p with
  | none => rfl
  | some r =>
    have h1 := (GP_some e).2.2.2.2
    rw [show got q.p = some q.w from got_PutW h (rqW_rng hok.1 hok.2.1 hok.2.2)] at h1
    have h2 := congrArg (fun w => (part w 3).k) (Option.some.inj h1)
    exact absurd (show (2 : Int) = 3 from h2) (by decide)
theorem apart_p {q : Rp} (h : mayW 6 q.w = true) (hok : q.ok) : GQ q.p = none := by
  cases e : GQ q.p with
  | none => rfl
  | some r =>
    have h1 := (GQ_some e).2.2.2.2
    rw [show got q.p = some q.w from got_PutW h (rpW_rng hok.1 hok.2.1 hok.2.2)] at h1
    have h2 := congrArg (fun w => (part w 3).k) (Option.some.inj h1)
    exact absurd (show (3 : Int) = 2 from h2) (by decide)
theorem rq_inj {q r : Rq} (hq : mayW 6 q.w = true) (oq : q.ok) (hr : mayW 6 r.w = true) (or : r.ok) (h : q.p = r.p) : q = r := by
  have h1 := GQ_p hq oq
  rw [h, GQ_p hr or] at h1
  exact (Option.some.inj h1).symm
theorem rp_inj {q r : Rp} (hq : mayW 6 q.w = true) (oq : q.ok) (hr : mayW 6 r.w = true) (or : r.ok) (h : q.p = r.p) : q = r := by
  have h1 := GP_p hq oq
  rw [h, GP_p hr or] at h1
  exact (Option.some.inj h1).symm
def rqE (q r : Rq) : Bool := q.k == r.k && q.d == r.d && q.n == r.n && q.b == r.b
theorem rqE_iff (q r : Rq) : rqE q r = decide (q = r) := by
  obtain ⟨k, d, n, b⟩ := q
  obtain ⟨k', d', n', b'⟩ := r
  by_cases h : (⟨k, d, n, b⟩ : Rq) = ⟨k', d', n', b'⟩
  · cases h; simp [rqE]
  · rw [decide_eq_false h, rqE]
    by_cases h1 : k = k' <;> by_cases h2 : d = d' <;> by_cases h3 : n = n' <;> by_cases h4 : b = b' <;> simp [h1, h2, h3, h4]
    exact h (by rw [h1, h2, h3, h4])
@[push_cast] theorem Rqz : Rq.z = ⟨0, 0, 0, []⟩ := rfl
@[push_cast] theorem Rpz : Rp.z = ⟨0, 0, 0, []⟩ := rfl
theorem aq_fit : mayW 6 (Rq.w ⟨1, 1, 2, [98]⟩) = true ∧ (Rq.p ⟨1, 1, 2, [98]⟩).length ≤ 1000000 := ⟨(rq_fit (by decide)).1, by rw [(rq_fit (by decide)).2]; decide⟩
theorem aq_got : GQ (Rq.p ⟨1, 1, 2, [98]⟩) = some ⟨1, 1, 2, [98]⟩ := GQ_p aq_fit.1 ⟨⟨by decide, by decide⟩, ⟨by decide, by decide⟩, ⟨by decide, by decide⟩⟩
theorem ap_fit : mayW 6 (Rp.w ⟨3, 0, 3, [[120]]⟩) = true ∧ (Rp.p ⟨3, 0, 3, [[120]]⟩).length ≤ 1000000 := ⟨(rp_fit (by decide)).1, by rw [(rp_fit (by decide)).2.1]; decide⟩
theorem ap_got : GP (Rp.p ⟨3, 0, 3, [[120]]⟩) = some ⟨3, 0, 3, [[120]]⟩ := GP_p ap_fit.1 ⟨⟨by decide, by decide⟩, ⟨by decide, by decide⟩, ⟨by decide, by decide⟩⟩
theorem ap_sz : tsz [[120]] ≤ 10000000 := by decide
theorem getD_le {l : List (List UInt8)} {n : Nat} (h : ∀ s ∈ l, s.length ≤ n) (i : Nat) : (l.getD i []).length ≤ n := by
  rw [List.getD_eq_getElem?_getD]
  cases e : l[i]? with
  | none => simp
  | some x => exact h x (List.mem_of_getElem? e)
theorem tsz_take_le (l : List (List UInt8)) (i : Nat) : tsz (l.take i) ≤ tsz l := by
  have h : tsz l = tsz (l.take i) + tsz (l.drop i) := by
    rw [tsz, tsz, tsz, ← List.sum_append, ← List.map_append, List.take_append_drop]
  omega

end Go.Proofs.Tryd
