/- Functions of Go's library whose contracts the kit has: as contracts of ours. -/
import Derived.Test.YtihkemlgdfjmjaaDoorOtUse
import Derived.Below
import Derived.Lib.Join
import Derived.Lib.Repeat
set_option linter.unusedVariables false
set_option linter.unusedSimpArgs false
namespace Go.Ot
open Go.RowKit

/-- A call that hands back a plain value, and leaves alone what was there. -/
theorem good_plain {Γ : Gl} {P : Program} {f : FuncId} {args : List D} {v : Value}
    (h : ∀ (w : World) (M : Nat → Prop) (vals : List Value), RepsA w M (fun _ => none) args vals → Calls P f vals.toArray w fun e w' => e = .returned v ∧ Below w.heap.size w w') : Good Γ P f args [] (.t (.v v)) [] [] := by
  intro w A η vals hG hgs hA hok hdom hmg hargs
  have hη : η = fun _ => none := by
    funext m
    cases e : η m with
    | none => rfl
    | some q =>
      obtain ⟨k, rfl⟩ := hdom m q e
      exact absurd (by rw [HpOf_nil']) (hok.dom _ q e)
  subst hη
  refine (h w _ vals hargs).mono fun e w' ⟨he, hb⟩ => ?_
  refine ⟨v, fun _ => none, he, rfl, ?_, hb.size, fun b hb' _ => hb.block b hb', (fun m ob b s _ _ h => nomatch h), (fun m b s h => nomatch h), (fun m ob q _ _ h => nomatch h), hb.os, hb.tape, hb.output⟩
  rw [HpRes_nil]
  exact ⟨(fun m ob hm => nomatch hm), (fun m q hq => nomatch hq), (fun m m' b s s' hm => nomatch hm), (fun m b s hm => nomatch hm)⟩

theorem reps_two {w : World} {M : Nat → Prop} {η : Et} {a b : D} {vals : List Value} (h : RepsA w M η [a, b] vals) : ∃ u v, vals = [u, v] ∧ Rep w M η a u ∧ Rep w M η b v := by
  obtain ⟨u, us, rfl, h1, v, vs, rfl, h2, rfl⟩ := h
  exact ⟨u, v, rfl, h1, h2⟩

theorem mk_S (l : List UInt8) : (⟨l.toArray⟩ : ByteArray) = S l := rfl
theorem join_flat : ∀ xs : List (List UInt8), Lib.join xs [] = xs.flatten
  | [] => rfl
  | x :: r => by
    rw [Lib.join_cons]
    simp [Lib.joinTail]
theorem good_join {Γ : Gl} {P : Program} {f : FuncId}
    (h0 : ∀ (a : Option Addr) (c : Nat) (sep : ByteArray) (w : World), Calls P f #[.slice a 0 c, .string sep] w fun e w' => e = .returned (.string ⟨#[]⟩) ∧ w' = w)
    (h1 : ∀ (bk o c : Nat) (xs : List ByteArray) (sep : ByteArray) (w : World), (∀ (j : Nat) x, xs[j]? = some x → w.cell? ⟨bk, o + j, none⟩ = some (.string x)) → bk < w.heap.size → xs.length ≤ 140737488355328 → xs.length ≤ c →
      (Lib.join (xs.map (·.data.toList)) sep.data.toList).length ≤ 140737488355328 → Calls P f #[.slice (some ⟨bk, o, none⟩) xs.length c, .string sep] w fun e w' => e = .returned (.string ⟨(Lib.join (xs.map (·.data.toList)) sep.data.toList).toArray⟩) ∧ Below w.heap.size w w')
    (xs : List (List UInt8)) (hn : xs.length ≤ 140737488355328) (hl : xs.flatten.length ≤ 140737488355328) : Good Γ P f [.t (lst txt xs), .t (txt [])] [] (.t (txt xs.flatten)) [] [] := by
  refine good_plain (v := .string (S xs.flatten)) fun w M vals hr => ?_
  obtain ⟨u, v, rfl, ⟨A, c, rfl, hc, _, hA⟩, hv⟩ := reps_two hr
  have hv : v = .string (S []) := hv
  subst hv
  cases xs with
  | nil => exact (h0 A c _ w).mono fun e w' ⟨he, hw⟩ => ⟨he, hw ▸ Below.refl _ _⟩
  | cons x xs =>
    rcases hA with hA | ⟨a, rfl, hM, hA⟩
    · simp at hA
    · obtain ⟨bk, o, sp⟩ := a
      have hsp : sp = none := by
        obtain ⟨⟨u, hu, _⟩, _⟩ := hA
        have hu : w.cell? ⟨bk, o, sp⟩ = some u := hu
        cases sp with
        | none => rfl
        | some s =>
          simp only [World.cell?] at hu
          split at hu <;> simp at hu
      subst hsp
      have hlt : bk < w.heap.size := hA.lt
      have hmap : ((x :: xs).map S).map (·.data.toList) = x :: xs := by
        rw [List.map_map]
        have : ((fun b : ByteArray => b.data.toList) ∘ S) = id := by funext l; rfl
        rw [this, List.map_id]
      have := h1 bk o c ((x :: xs).map S) (S []) w (fun j b hb => ?_) hlt (by simpa using hn) (by simpa using hc) (by rw [hmap]; show (Lib.join _ []).length ≤ _; rw [join_flat]; exact hl)
      · rw [hmap] at this
        simp only [List.length_map] at this
        refine this.mono fun e w' ⟨he, hb⟩ => ⟨?_, hb⟩
        rw [he]
        show _ = Ending.returned (.string (S (x :: xs).flatten))
        rw [← join_flat]
        rfl
      · rw [List.getElem?_map, Option.map_eq_some_iff] at hb
        obtain ⟨l, hl', rfl⟩ := hb
        obtain ⟨u, h2, _, h3⟩ := hA.get (i := j) (d := txt l) (by rw [List.getElem?_map, hl']; rfl)
        have h3 : u = .string (S l) := h3
        subst h3
        rwa [Nat.zero_add, add_at] at h2
theorem repeatL_rep (b : UInt8) : ∀ n, Lib.repeatL [b] n = List.replicate n b
  | 0 => rfl
  | n + 1 => by rw [Lib.repeatL, repeatL_rep b n]; rfl
theorem good_repeat {Γ : Gl} {P : Program} {f : FuncId}
    (h1 : ∀ (s : ByteArray) (c : Nat) (w : World), c ≤ 9223372036854775807 → s.size * c ≤ 140737488355328 → Calls P f #[.string s, .int .i64 c] w fun e w' => e = .returned (.string ⟨(Lib.repeatL s.data.toList c).toArray⟩) ∧ Below w.heap.size w w')
    (b : UInt8) (n : Nat) (hn : n ≤ 140737488355328) : Good Γ P f [.t (txt [b]), .t (num n)] [] (.t (txt (List.replicate n b))) [] [] := by
  refine good_plain (v := .string (S (List.replicate n b))) fun w M vals hr => ?_
  obtain ⟨u, v, rfl, hu, hv⟩ := reps_two hr
  have hu : u = .string (S [b]) := hu
  have hv : v = .int .i64 n := hv
  subst hu hv
  refine (h1 (S [b]) n w (by omega) (by show 1 * n ≤ _; omega)).mono fun e w' ⟨he, hb⟩ => ⟨?_, hb⟩
  rw [he, ← repeatL_rep]
  rfl
end Go.Ot
