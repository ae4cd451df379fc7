/- Contracts of this program's functions. -/
import Derived.Test.YtkbikblijipceaaGreatDoorSCH1
set_option maxHeartbeats 4000000
set_option maxRecDepth 100000
set_option linter.unusedVariables false
set_option linter.unusedSimpArgs false
namespace Go.Proofs.Tryz.Cy
open Go Go.Ot
def cB (u : Nat) : List UInt8 := if h : u < 10 then [UInt8.ofNat (48 + u)] else cB (u / 10) ++ [UInt8.ofNat (48 + u % 10)]
termination_by u
decreasing_by omega
theorem dgt8 (u : Nat) (h : u ≤ 9) : UInt8.ofInt (48 + (u : Int)) = UInt8.ofNat (48 + u) := by
 rcases u with _ | _ | _ | _ | _ | _ | _ | _ | _ | _ | u <;> first | rfl | omega
theorem yGC {u : Nat} {s : List UInt8} (h : 10 ≤ u) : cB (u / 10) ++ (UInt8.ofInt (48 + (u : Int) % 10) :: s) = cB u ++ s := by
 conv => rhs; rw [cB, dif_neg (by omega)]
 rw [show (u : Int) % 10 = ((u % 10 : Nat) : Int) from by omega, dgt8 (u % 10) (by omega)]
 simp
theorem yGD {u : Nat} {s : List UInt8} (h : u < 10) : UInt8.ofInt (48 + (u : Int)) :: s = cB u ++ s := by
 rw [cB, dif_pos h, dgt8 u (by omega)]; rfl
theorem yGH (k : Nat) : ∀ u, u < 10 ^ (k + 1) → (cB u).length ≤ k + 1 := by
 induction k with
 | zero => intro u hu; rw [cB, dif_pos (by omega)]; simp
 | succ k ih =>
  intro u hu
  by_cases h : u < 10
  ·rw [cB, dif_pos h]; simp
  ·rw [cB, dif_neg h]
   have := ih (u / 10) (by rw [Nat.pow_succ] at hu; omega)
   simp only [List.length_append, List.length_cons, List.length_nil]
   omega
theorem yEK {u : Nat} (h : u ≤ 9223372036854775807) : (cB u).length ≤ 20 := by
 have h10 : (10 : Nat) ^ (18 + 1) = 10000000000000000000 := by decide
 have := yGH 18 u (by omega)
 omega
theorem gC {H : List UInt8 → List UInt8 → List UInt8} (hH : ∀ k s, (H k s).length = 32) (a b c : List UInt8) (n : Nat) : (derB H a b c n).length = n := by
 simp only [derB, List.length_take, mU hH]
 omega
def ownB (key : List UInt8) (n : Nat) : List UInt8 := derB hmacB [100, 101, 97, 100, 100, 114, 111, 112] key (111 :: 119 :: 110 :: 32 :: cB n) 32
theorem ownB_len (key : List UInt8) (n : Nat) : (ownB key n).length = 32 := gC hmacB_len _ _ _ _
def epochB (key : List UInt8) (n : Nat) : List UInt8 := derB hmacB [100, 101, 97, 100, 100, 114, 111, 112] key (101 :: 112 :: 111 :: 99 :: 104 :: 32 :: cB n) 32
theorem epochB_len (key : List UInt8) (n : Nat) : (epochB key n).length = 32 := gC hmacB_len _ _ _ _
def wrapB (key : List UInt8) : List UInt8 := derB hmacB [100, 101, 97, 100, 100, 114, 111, 112] key [119, 114, 97, 112] 64
theorem wrapB_len (key : List UInt8) : (wrapB key).length = 64 := gC hmacB_len _ _ _ _
def nonceB (n : Nat) : List UInt8 := 0 :: 0 :: 0 :: 0 :: eight n
theorem nonceB_len (n : Nat) : (nonceB n).length = 12 := by simp [nonceB, pL]
end Go.Proofs.Tryz.Cy

namespace Go.Proofs.Tryz.Cy
open Go Go.Ot
attribute [local simp] num bol txt w8 w16 w32 w64 lst cls xZ xR List.take_of_length_le
attribute [local irreducible] wpK wpS uE wH wV wN wZ xD Le wX tQ lI pC cN chunks takeB yAf yAM sha uH qC aT hmacB keyOf hk dT derB eight
theorem yBV (Γ : Gl) (k : Nat) (h1 : k ≤ 9223372036854775807) : Go.Ot.Good Γ prog 19 [.t (num k)] [] (.t (txt (cB k))) [] [] := by
 refine yR F.mix func19 (by rfl) ntmps19 ?_
 refine yD (yA rfl ?_)
 refine yF ?_
 refine yE (yB (yC (yD (yA rfl ?_))))
 refine yF ?_
 refine yF (hs := by (simp (disch := omega) only [push_cast, yHd, yAm] <;> rfl)) ?_
 iterate 2 refine yF ?_
 refine yE (yB (yC (yD (yD (yA rfl ?_)))))
 iterate 2 refine yF ?_
 refine yE (yB (yC (yJ (yL (yC (yD (yH ?_)))))))
 refine xN (fun sl L (q : Nat × List UInt8) => ⟨setAll (setBad sl [5, 6, 7, 8, 9, 10, 11, 12, 13, 14, 15, 16, 17, 18, 19, 20, 21, 22]) [(3, .t (.v (.int .u64 (q.1 : Int)))), (4, .t (txt q.2))], Go.Ot.look (L)⟩) (fun q => cB q.1 ++ q.2 = cB k ∧ 2 * q.2.length + q.1 ≤ k) (fun q => q.1) ((k, [])) (wF ?_) ?_ ?_
 ·refine yT ?_ ?_ ?_ <;> simp
 ·exact ⟨by simp, by simp⟩
 ·rintro ⟨u, s⟩ ⟨hu1, hu2⟩; simp only at hu1 hu2
  refine vE ?_
  refine yD (yD (yA rfl ?_))
  iterate 2 refine yF ?_
  refine yE (yB (yC ?_))
  refine vL (fun hc1 => ?_) (fun hc1 => ?_)
  ·(try simp only [zB] at hc1)
   refine yL (yC (yH (yD (yA rfl ?_))))
   iterate 3 refine yF ?_
   refine pQ ?_
   refine yF ?_
   first | refine sV ?_ | refine uO ?_
   iterate 3 refine yF ?_
   refine yE (yB (yC (yA rfl ?_)))
   iterate 3 refine yF ?_
   refine yE (yB ?_)
   refine yS (xE ((u / 10, UInt8.ofInt (48 + (u : Int) % 10) :: s)) (wF ?_) ?_ ?_)
   ·refine yT ?_ ?_ ?_ <;> simp
   ·exact ⟨by rw [yGC (by omega)]; exact hu1, by simp only [List.length_cons]; omega⟩
   ·simp only []; omega
  ·(try simp only [zB] at hc1)
   refine xQ (yM (yN (yK (yC (yD (yA rfl ?_))))))
   iterate 2 refine yF ?_
   refine pQ ?_
   refine yF ?_
   first | refine sV ?_ | refine uO ?_
   iterate 3 refine yF ?_
   have hL := congrArg List.length hu1
   rw [cB, dif_pos (by omega : u < 10)] at hL
   simp only [List.length_append, List.length_cons, List.length_nil] at hL
   rw [yGD (by omega), hu1]
   refine yE (yB (yC (yD (yD (yA rfl ?_)))))
   iterate 2 refine yF ?_
   refine yE (yB (yC (yJ (yL (yC (yD (yA rfl ?_)))))))
   iterate 2 refine yF ?_
   refine yE (yB (yC (yO ?_)))
   refine ⟨.inr rfl, yP [] (by rw [results19]) ?_ ?_ ?_⟩ <;> simp
theorem refOwn_good (Γ : Gl) (key : List UInt8) (hk : key.length ≤ 1000) (n : Nat) (h1 : n ≤ 9223372036854775807) : Go.Ot.Good Γ prog 81 [.t (txt key), .t (num n)] [] (.t (txt (ownB key n))) [] [] := by
 have hl := yEK h1
 refine yR F.mix func81 (by rfl) ntmps81 ?_
 refine yD (yA rfl ?_)
 refine yF ?_
 refine yE (yB (yC (yD (yA rfl ?_))))
 iterate 2 refine yF ?_
 refine yU [] false (yBV Γ n h1) ?_
 refine yF ?_
 refine yU [] false (yDz Γ [100, 101, 97, 100, 100, 114, 111, 112] key (111 :: 119 :: 110 :: 32 :: cB n) 32 (by omega) (by decide) (by omega) (by simp only [List.length_cons]; omega) hmacB hmacB_len (fun k s => refmac_good Γ k s)) ?_
 refine yF ?_
 refine yE (yB (yC (yO ?_)))
 refine ⟨.inr rfl, yP [] (by rw [results81]) ?_ ?_ ?_⟩ <;> simp [ownB]
theorem refEpoch_good (Γ : Gl) (key : List UInt8) (hk : key.length ≤ 1000) (n : Nat) (h1 : n ≤ 9223372036854775807) : Go.Ot.Good Γ prog 84 [.t (txt key), .t (num n)] [] (.t (txt (epochB key n))) [] [] := by
 have hl := yEK h1
 refine yR F.mix func84 (by rfl) ntmps84 ?_
 refine yD (yA rfl ?_)
 refine yF ?_
 refine yE (yB (yC (yD (yA rfl ?_))))
 iterate 2 refine yF ?_
 refine yU [] false (yBV Γ n h1) ?_
 refine yF ?_
 refine yU [] false (yDz Γ [100, 101, 97, 100, 100, 114, 111, 112] key (101 :: 112 :: 111 :: 99 :: 104 :: 32 :: cB n) 32 (by omega) (by decide) (by omega) (by simp only [List.length_cons]; omega) hmacB hmacB_len (fun k s => refmac_good Γ k s)) ?_
 refine yF ?_
 refine yE (yB (yC (yO ?_)))
 refine ⟨.inr rfl, yP [] (by rw [results84]) ?_ ?_ ?_⟩ <;> simp [epochB]
theorem refWrap_good (Γ : Gl) (key : List UInt8) (hk : key.length ≤ 1000) : Go.Ot.Good Γ prog 80 [.t (txt key)] [] (.t (txt (wrapB key))) [] [] := by
 refine yR F.mix func80 (by rfl) ntmps80 ?_
 refine yD (yA rfl ?_)
 refine yF ?_
 refine yE (yB (yC (yD (yA rfl ?_))))
 refine yF ?_
 refine yU [] false (yDz Γ [100, 101, 97, 100, 100, 114, 111, 112] key [119, 114, 97, 112] 64 (by omega) (by decide) (by omega) (by decide) hmacB hmacB_len (fun k s => refmac_good Γ k s)) ?_
 refine yF ?_
 refine yE (yB (yC (yO ?_)))
 refine ⟨.inr rfl, yP [] (by rw [results80]) ?_ ?_ ?_⟩ <;> simp [wrapB]
theorem refnonce_good (Γ : Gl) (n : Nat) : Go.Ot.Good Γ prog 82 [.t (num n)] [] (.t (txt (nonceB n))) [] [] := by
 refine yR F.mix func82 (by rfl) ntmps82 ?_
 refine yD (yA rfl ?_)
 refine yF ?_
 refine yE (yB (yC (yD (yA rfl ?_))))
 refine yF ?_
 refine yU [] false (lM Γ n) ?_
 iterate 2 refine yF ?_
 refine yE (yB (yC (yO ?_)))
 refine ⟨.inr rfl, yP [] (by rw [results82]) ?_ ?_ ?_⟩ <;> simp [nonceB]
end Go.Proofs.Tryz.Cy
