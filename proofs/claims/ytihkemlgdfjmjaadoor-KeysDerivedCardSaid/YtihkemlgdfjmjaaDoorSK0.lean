import Derived.Test.YtihkemlgdfjmjaaDoorSF
import Derived.Test.YtihkemlgdfjmjaaDoorSH
import Derived.Test.YtihkemlgdfjmjaaDoorOtLib
import Derived.Test.YtihkemlgdfjmjaaDoorOtCopy
set_option maxHeartbeats 4000000
set_option maxRecDepth 100000
set_option linter.unusedVariables false
set_option linter.unusedSimpArgs false
namespace Go.Proofs.Tryd
open Go Go.Ot
open Go.RowKit

/-! ### numbers in decimals -/
theorem dgt8 (u : Nat) (h : u ≤ 9) : UInt8.ofInt (48 + (u : Int)) = UInt8.ofNat (48 + u) := by
  rcases u with _ | _ | _ | _ | _ | _ | _ | _ | _ | _ | u <;> first | rfl | omega
theorem dig_next {u : Nat} {s : List UInt8} (h : 10 ≤ u) : Lib.decDigits (u / 10) ++ (UInt8.ofInt (48 + (u : Int) % 10) :: s) = Lib.decDigits u ++ s := by
  conv => rhs; rw [Lib.decDigits, dif_neg (by omega)]
  rw [show (u : Int) % 10 = ((u % 10 : Nat) : Int) from by omega, dgt8 (u % 10) (by omega)]
  simp
theorem dig_last {u : Nat} {s : List UInt8} (h : u < 10) : UInt8.ofInt (48 + (u : Int)) :: s = Lib.decDigits u ++ s := by
  rw [Lib.decDigits, dif_pos h, dgt8 u (by omega)]; rfl
theorem u8n (u : Nat) (h : u ≤ 255) : ((UInt8.ofNat u).toNat : Int) = (u : Int) := by rw [UInt8.toNat_ofNat']; omega
theorem wrap_neg {n : Int} (h1 : -9223372036854775808 ≤ n) (h2 : n < 0) : IntKind.u64.wrap n = 18446744073709551616 + n := by simp [IntKind.wrap, IntKind.bits, IntKind.signed]; omega
theorem wrap_nn {n : Int} (h1 : 1 ≤ n) (h2 : n ≤ 9223372036854775808) : IntKind.u64.wrap (-(18446744073709551616 + -n)) = n := by simp [IntKind.wrap, IntKind.bits, IntKind.signed]; omega
theorem itoa_pos (k : Nat) : Lib.itoa (k : Int) = Lib.decDigits k := by unfold Lib.itoa; rw [if_neg (by omega)]; simp
theorem itoa_neg (k : Nat) (h : 1 ≤ k) : Lib.itoa (-(k : Int)) = 45 :: Lib.decDigits k := by unfold Lib.itoa; rw [if_pos (by omega)]; simp
def TG (P : Program) (Γ : Gl) : Prop := ∀ w, Γ.G w → Lib.TabIs P w "internal/strconv.uint64pow10" .u64 Lib.pow10Tab
theorem good_plainG {Γ : Gl} {P : Program} {f : FuncId} {args : List D} {v : Value}
    (h : ∀ (w : World) (M : Nat → Prop) (vals : List Value), Γ.G w → RepsA w M (fun _ => none) args vals → Calls P f vals.toArray w fun e w' => e = .returned v ∧ Below w.heap.size w w') : Go.Ot.Good Γ P f args [] (.t (.v v)) [] [] := by
  intro w A η vals hG hgs hA hok hdom hmg hargs
  have hη : η = fun _ => none := by
    funext m
    cases e : η m with
    | none => rfl
    | some q =>
      obtain ⟨k, rfl⟩ := hdom m q e
      exact absurd (by rw [HpOf_nil']) (hok.dom _ q e)
  subst hη
  refine (h w _ vals hG hargs).mono fun e w' ⟨he, hb⟩ => ?_
  refine ⟨v, fun _ => none, he, rfl, ?_, hb.size, fun b hb' _ => hb.block b hb', (fun m ob b s _ _ h => nomatch h), (fun m b s h => nomatch h), (fun m ob q _ _ h => nomatch h), hb.os, hb.tape, hb.output⟩
  rw [HpRes_nil]
  exact ⟨(fun m ob hm => nomatch hm), (fun m q hq => nomatch hq), (fun m m' b s s' hm => nomatch hm), (fun m b s hm => nomatch hm)⟩
theorem reps_one {w : World} {M : Nat → Prop} {η : Et} {a : D} {vals : List Value} (h : RepsA w M η [a] vals) : ∃ u, vals = [u] ∧ Rep w M η a u := by
  obtain ⟨u, us, rfl, h1, rfl⟩ := h
  exact ⟨u, rfl, h1⟩
theorem itoa_good (Γ : Gl) (hT : TG Tryd.prog Γ) (n : Int) (h0 : -9223372036854775808 ≤ n) (h1 : n ≤ 9223372036854775807) : Go.Ot.Good Γ prog 22 [.t (num n)] [] (.t (txt (Lib.itoa n))) [] [] := by
  refine good_plainG (v := .string (S (Lib.itoa n))) fun w M vals hG hr => ?_
  obtain ⟨u, rfl, hu⟩ := reps_one hr
  have hu : u = .int .i64 n := hu
  subst hu
  refine (Tryd.strconv_Itoa n h0 h1 w (hT w hG)).mono fun e w' ⟨he, k, os, hw⟩ => ⟨he, ?_⟩
  rw [hw]
  exact ⟨rfl, rfl, rfl, by show w.heap.size ≤ (w.heap ++ os).size; rw [Array.size_append]; omega, fun j hj => by show (w.heap ++ os)[j]? = _; exact Array.getElem?_append_left hj⟩
theorem itoas_good (Γ : Gl) (n : Nat) (h : n < 100) : Go.Ot.Good Γ prog 22 [.t (num n)] [] (.t (txt (Lib.itoa n))) [] [] := by
  rw [itoa_pos]
  refine good_plain (v := .string (S (Lib.decDigits n))) fun w M vals hr => ?_
  obtain ⟨u, rfl, hu⟩ := reps_one hr
  have hu : u = .int .i64 n := hu
  subst hu
  refine (Tryd.strconv_Itoa_small n h w).mono fun e w' ⟨he, hw⟩ => ⟨he, ?_⟩
  subst hw
  exact Below.refl _ _

end Go.Proofs.Tryd
