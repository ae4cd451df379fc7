/- Contracts of this program's functions. -/
import Derived.Test.YtkbikblijipceaaGreatDoorSLG3
import Derived.Test.YtkbikblijipceaaGreatDoorSRL1
import Derived.Test.YtkbikblijipceaaGreatDoorSME5
set_option maxHeartbeats 4000000
set_option maxRecDepth 100000
set_option linter.unusedVariables false
set_option linter.unusedSimpArgs false
namespace Go.Proofs.Tryz
open Go Go.Ot
attribute [local simp] num bol txt w8 w16 w32 w64 lst cls xZ xR List.take_of_length_le
attribute [local irreducible] wpK wpS uE wH wV wN wZ xD Le rdS lpW rdW got tB mayW uW putW nb u64 qB mwB sha rcF hdF hsh RG inF chC fl lkT ckB chP chS
theorem tM (Γ : Gl) (hE : EG Γ) (l : List (List UInt8)) (hl : l.length ≤ 1000000) (hs : ∀ i, (l.getD i []).length ≤ 1000000) : Go.Ot.Good Γ prog 60 [.t (lst txt l)] [] ((chR (chS l))) [] [] := by
 refine yR F.mix func60 (by rfl) ntmps60 ?_
 refine yD (yA rfl ?_)
 iterate 2 refine yF ?_
 refine yE (yB (yC (yD (yA rfl ?_))))
 refine yF ?_
 refine yE (yB (yC (yD (yD (yA rfl ?_)))))
 iterate 3 refine yF ?_
 refine yE (yB (yC (yH ?_)))
 refine xN (fun sl L (i : Nat) => ⟨setAll (setBad sl [0, 2, 3, 6, 7, 8, 12, 13, 14, 15, 16, 17, 18, 19, 20, 21, 22, 23, 24, 25, 26]) [(4, .msl (.n 9) 0 i 6), (11, .t (num i))], Go.Ot.look (vD (.n 9) (uV (chP l i)) L)⟩) (fun i => i ≤ l.length ∧ ∀ j, j < i → (RG (l.getD j [])).isSome = true) (fun i => l.length - i) (0) (wF ?_) ?_ ?_
 ·refine wL [] ?_ ?_ ?_ <;> simp [rcT, wpT, uV, chP_0]
 ·exact ⟨Nat.zero_le _, fun j hj => absurd hj (Nat.not_lt_zero _)⟩
 ·rintro i ⟨hi, hI⟩
  have hpi := yEY hi
  refine vE ?_
  refine yD (yA rfl ?_)
  refine yF ?_
  refine yE (yB (yC (yD ?_)))
  refine vL (fun hc0 => ?_) (fun hc0 => ?_)
  ·(try simp only [zB] at hc0)
   refine yL (yC (yD (yH (yD (yA rfl ?_)))))
   iterate 2 refine yF ?_
   obtain ⟨s, hx⟩ : ∃ s, l.getD i [] = s := ⟨_, rfl⟩
   simp only [hx]
   have hsl : s.length ≤ 1000000 := by rw [← hx]; exact hs i
   have hil : i < l.length := by omega
   refine yF ?_
   refine yE (yB (yC (yD (yA rfl ?_))))
   rcases hg : RG s with _ | r
   ·have hq : chS l = none := chS_no hil (by rw [hx]; exact hg)
    refine yF ?_
    refine yU [] true ((by have h := bS Γ hE s hsl; rw [hg] at h; exact h)) ?_
    iterate 6 refine yF ?_
    refine yE (yB (yC (yD (yD (yA rfl ?_)))))
    iterate 2 refine yF ?_
    refine yE (yB (yC (xF (yD (yA rfl ?_)))))
    iterate 2 refine yF ?_
    refine yE (yB (yC (yO (yG (yI (yG (wI (yI (yG ?_)))))))))
    refine ⟨.inr rfl, yP [] (by rw [results60]) ?_ ?_ ?_⟩ <;> simp [rcT, wpT, hq, chR_none]
   ·have hn : chP l (i + 1) = chP l i ++ [r] := chP_s hil (by rw [hx]; exact hg)
    refine yF ?_
    refine yU [] true ((by have h := bS Γ hE s hsl; rw [hg] at h; exact h)) ?_
    iterate 6 refine yF ?_
    refine yE (yB (yC (yD (yD (yA rfl ?_)))))
    iterate 2 refine yF ?_
    refine yE (yB (yC (yJ (yL (yC (yA rfl ?_))))))
    iterate 5 refine yF ?_
    refine yE (yB (yS (yC (yA rfl ?_))))
    iterate 2 refine yF ?_
    refine yE (yB ?_)
    refine xE (i + 1) (wF ?_) ?_ ?_
    ·refine wL [(.n 9, .n 9)] ?_ ?_ ?_ <;> simp [rcT, wpT, uV, hn, List.flatMap_append, rcT, List.map_append, VwL_app]
    ·refine ⟨by omega, fun j hj => ?_⟩
     by_cases e : j = i
     ·rw [e, hx, hg]; rfl
     ·exact hI j (by omega)
    ·(first | omega | (simp only []; omega))
  ·(try simp only [zB] at hc0)
   refine xQ (yM (yN (yK (yC (yD (yA rfl ?_))))))
   have hil : i = l.length := by omega
   subst hil
   have hq : chS l = some (chP l l.length) := yEX (fun j hj => hI j hj)
   have hpl := yEY (l := l) (Nat.le_refl _)
   have hal := qM hpl
   iterate 2 refine yF ?_
   refine yU [.n 9] false (yCQ Γ (chP l l.length) (by omega) (fun j => chP_w l l.length j)) ?_ (hv := by (simp (disch := first | omega | (simp only [zL] <;> omega) | fail) [-List.map_map, -List.map_drop, -List.map_take, VwL_cons, xM, xY, vN, xV, xW, xU, Vw_agg, xS, xX, xA, VwL_refl_map, yX, xK, xL, wK, xJ, yW, xC, yV, VwTs_app, List.take_of_length_le, srcL, notIn, ObsVw, SrcOk, pOk, Go.Ot.look, resP, resN, ev, evc, mkS, push_cast, List.take_of_length_le, hpl, hal, uB, -List.length_flatMap] <;> (try omega)))
   iterate 2 refine yF ?_
   refine yE (yB (yC (yO ?_)))
   refine ⟨.inr rfl, yP [] (by rw [results60]) ?_ ?_ ?_⟩ <;> simp [rcT, wpT, hq, nE, hpl, hal, uB, -List.length_flatMap]
end Go.Proofs.Tryz

namespace Go.Proofs.Tryz
open Go Go.Ot
attribute [local simp] num bol txt w8 w16 w32 w64 lst cls xZ xR List.take_of_length_le
attribute [local irreducible] wpK wpS uE wH wV wN wZ xD Le
theorem yEP (Γ : Gl) (a : (List UInt8)) (l : List (List UInt8)) (hl : l.length < 1000000) : Go.Ot.Good Γ prog 87 [.t (lst txt (a :: l))] [] (.msl (.n 0) 0 (a :: l).length 1) [] [xZ 9 txt (a :: l)] := by
 refine yR F.mix func87 (by rfl) ntmps87 ?_
 refine yD (yA rfl ?_)
 refine yF ?_
 refine yE (yB (yC (yD (yD (yA rfl ?_)))))
 iterate 2 refine yF ?_
 refine yE (yB (yC (yJ (yL (yC (yD (yA rfl ?_)))))))
 iterate 4 refine yF ?_
 refine yE (yB (yC (yO ?_)))
 refine ⟨.inr rfl, yP [(.n 0, .r 3 0 0)] (by rw [results87]) ?_ ?_ ?_⟩ <;> simp [-List.map_set, -List.map_replicate, -List.reduceReplicate, -List.map_map, -List.map_drop, -List.map_take, mbT]
theorem yEN (Γ : Gl) (c : Nat) : Go.Ot.Good Γ prog 87 [.t (.v (.slice none 0 c))] [] (.msl (.n 0) 0 0 1) [] [xZ 9 txt []] := by
 refine yR F.mix func87 (by rfl) ntmps87 ?_
 refine yD (yA rfl ?_)
 refine yF ?_
 refine yE (yB (yC (yD (yD (yA rfl ?_)))))
 iterate 2 refine yF ?_
 refine yE (yB (yC (xF (yD (yA rfl ?_)))))
 refine yF ?_
 refine yE (yB (yC (yO (yG ?_))))
 refine ⟨.inr rfl, yP [] (by rw [results87]) ?_ ?_ ?_⟩ <;> simp [mbT]
theorem yEO (Γ : Gl) (A : Addr) (c : Nat) : Go.Ot.Good Γ prog 87 [.t (.v (.slice (some A) 0 c))] [] (.msl (.n 0) 0 0 1) [] [xZ 9 txt []] := by
 refine yR F.mix func87 (by rfl) ntmps87 ?_
 refine yD (yA rfl ?_)
 refine yF ?_
 refine yE (yB (yC (yD (yD (yA rfl ?_)))))
 iterate 2 refine yF ?_
 refine yE (yB (yC (yJ (yL (yC (yD (yA rfl ?_)))))))
 iterate 4 refine yF ?_
 refine yE (yB (yC (yO ?_)))
 refine ⟨.inr rfl, yP [(.n 0, .r 3 0 0)] (by rw [results87]) ?_ ?_ ?_⟩ <;> simp [mbT]
theorem vT (Γ : Gl) (l : List (List UInt8)) (hl : l.length ≤ 1000000) : Go.Ot.Good Γ prog 87 [.t (lst txt l)] [] (.msl (.n 0) 0 l.length 1) [] [xZ 9 txt l] := by
 cases l with
 | nil =>
  refine tL (pre := []) (post := []) (fun A c hc => ?_)
  cases A with
  | none => exact yEN Γ c
  | some A => exact yEO Γ A c
 | cons a l => exact yEP Γ a l (by simp at hl; omega)
theorem yES (Γ : Gl) (a : Int) (l : List Int) (hl : l.length < 1000000) : Go.Ot.Good Γ prog 88 [.t (lst num (a :: l))] [] (.msl (.n 0) 0 (a :: l).length 1) [] [xZ 3 num (a :: l)] := by
 refine yR F.mix func88 (by rfl) ntmps88 ?_
 refine yD (yA rfl ?_)
 refine yF ?_
 refine yE (yB (yC (yD (yD (yA rfl ?_)))))
 iterate 2 refine yF ?_
 refine yE (yB (yC (yJ (yL (yC (yD (yA rfl ?_)))))))
 iterate 4 refine yF ?_
 refine yE (yB (yC (yO ?_)))
 refine ⟨.inr rfl, yP [(.n 0, .r 3 0 0)] (by rw [results88]) ?_ ?_ ?_⟩ <;> simp [-List.map_set, -List.map_replicate, -List.reduceReplicate, -List.map_map, -List.map_drop, -List.map_take, mbT]
theorem yEQ (Γ : Gl) (c : Nat) : Go.Ot.Good Γ prog 88 [.t (.v (.slice none 0 c))] [] (.msl (.n 0) 0 0 1) [] [xZ 3 num []] := by
 refine yR F.mix func88 (by rfl) ntmps88 ?_
 refine yD (yA rfl ?_)
 refine yF ?_
 refine yE (yB (yC (yD (yD (yA rfl ?_)))))
 iterate 2 refine yF ?_
 refine yE (yB (yC (xF (yD (yA rfl ?_)))))
 refine yF ?_
 refine yE (yB (yC (yO (yG ?_))))
 refine ⟨.inr rfl, yP [] (by rw [results88]) ?_ ?_ ?_⟩ <;> simp [mbT]
theorem yER (Γ : Gl) (A : Addr) (c : Nat) : Go.Ot.Good Γ prog 88 [.t (.v (.slice (some A) 0 c))] [] (.msl (.n 0) 0 0 1) [] [xZ 3 num []] := by
 refine yR F.mix func88 (by rfl) ntmps88 ?_
 refine yD (yA rfl ?_)
 refine yF ?_
 refine yE (yB (yC (yD (yD (yA rfl ?_)))))
 iterate 2 refine yF ?_
 refine yE (yB (yC (yJ (yL (yC (yD (yA rfl ?_)))))))
 iterate 4 refine yF ?_
 refine yE (yB (yC (yO ?_)))
 refine ⟨.inr rfl, yP [(.n 0, .r 3 0 0)] (by rw [results88]) ?_ ?_ ?_⟩ <;> simp [mbT]
theorem yAb (Γ : Gl) (l : List Int) (hl : l.length ≤ 1000000) : Go.Ot.Good Γ prog 88 [.t (lst num l)] [] (.msl (.n 0) 0 l.length 1) [] [xZ 3 num l] := by
 cases l with
 | nil =>
  refine tL (pre := []) (post := []) (fun A c hc => ?_)
  cases A with
  | none => exact yEQ Γ c
  | some A => exact yER Γ A c
 | cons a l => exact yES Γ a l (by simp at hl; omega)
theorem yBW (Γ : Gl) (r : Rl) (hr : rlS r) : Go.Ot.Good Γ prog 35 [.agg [.t (.sl r.boxes.length (r.boxes.flatMap mbT)), .t (lst txt r.log), .t (txt r.snap), .t (num r.shares), .t (lst num r.last)]] [] (.agg [.msl (.n 0) 0 r.boxes.length 2, .msl (.n 1) 0 r.log.length 1, .t (txt r.snap), .t (num r.shares), .msl (.n 2) 0 r.last.length 1]) [] [wE r.boxes, xZ 9 txt r.log, xZ 3 num r.last] := by
 obtain ⟨hb, hm, hg, hn⟩ := hr
 refine yR F.mix func35 (by rfl) ntmps35 ?_
 refine yD (yA rfl ?_)
 iterate 2 refine yF ?_
 refine yE (yB (yC (yD (yA rfl ?_))))
 iterate 2 refine yY ?_
 refine yZ [] true (gH Γ r.boxes (by omega)) ?_
 iterate 2 refine yY ?_
 refine yZ [] true (vT Γ r.log hg) ?_
 iterate 2 refine yY ?_
 refine yZ [] true (yAb Γ r.last hn) ?_
 iterate 6 refine yY ?_
 refine yE (xO (by kernel_rfl) (yC (yD (yD (yA rfl ?_)))))
 iterate 4 refine yF ?_
 refine yE (yB (yC (yH ?_)))
 refine xN (fun sl L (i : Nat) => ⟨setAll (setBad sl [0, 3, 4, 5, 6, 7, 8, 9, 10, 11, 12, 13, 14, 15, 16, 17, 20, 21, 22, 23, 24, 25, 26, 27, 28, 29, 30, 31, 32, 33, 34]) [(19, .t (num i))], Go.Ot.look (L)⟩) (fun i => i ≤ r.boxes.length) (fun i => r.boxes.length - i) (0) (wF ?_) ?_ ?_
 ·refine wL [(.r 0 0 0, .r 0 0 0), (.r 0 1 0, .r 0 1 0), (.r 1 2 0, .r 1 2 0), (.r 1 5 0, .r 1 5 0), (.r 1 8 0, .r 1 8 0)] ?_ ?_ ?_ <;> simp [-List.map_set, -List.map_replicate, -List.reduceReplicate, -List.map_map, -List.map_drop, -List.map_take, mbT, wE] <;> (try omega)
 ·(first | omega | simp)
 ·intro i hi
  refine vE ?_
  refine yD (yA rfl ?_)
  refine yF ?_
  refine yE (yB (yC (yD ?_)))
  refine vL (fun hc0 => ?_) (fun hc0 => ?_)
  ·(try simp only [zB] at hc0)
   refine yL (yC (yD (yH (yD (yA rfl ?_)))))
   iterate 2 refine yF ?_
   refine yE (yB (yC (yA rfl ?_)))
   iterate 9 refine yY ?_
   have hib : i < r.boxes.length := by omega
   obtain ⟨m, he⟩ : ∃ m, r.boxes.getD i default = m := ⟨_, rfl⟩
   simp only [he]
   have hset := yDX hib he
   refine yZ [] true (tX Γ m.l (by rw [← he]; exact hm i)) ?_
   iterate 3 refine yY ?_
   refine yE (xO (by kernel_rfl) (yS (yC (yA rfl ?_))))
   iterate 2 refine yF ?_
   refine yE (yB ?_)
   refine xE (i + 1) (wF ?_) ?_ ?_
   ·refine wL [(.r 0 0 0, .r 0 0 0), (.r 0 1 0, .r 0 1 0), (.r 1 2 0, .r 1 2 0), (.r 1 5 0, .r 1 5 0), (.r 1 8 0, .r 1 8 0)] ?_ ?_ ?_ <;> simp [-List.map_set, -List.map_replicate, -List.reduceReplicate, -List.map_map, -List.map_drop, -List.map_take, mbT, wE, hset] <;> (try omega)
   ·(first | omega | (simp_all <;> omega))
   ·(first | omega | (simp only []; omega))
  ·(try simp only [zB] at hc0)
   refine xQ (yM (yN (yK (yC (yD (yA rfl ?_))))))
   have hal := lY (l := r.boxes) rfl
   iterate 2 refine yF ?_
   refine yE (yB (yC (yO ?_)))
   refine ⟨.inr rfl, yP [(.n 0, .r 1 2 0), (.n 1, .r 1 5 0), (.n 2, .r 1 8 0)] (by rw [results35]) ?_ ?_ ?_⟩ <;> simp [-List.map_set, -List.map_replicate, -List.reduceReplicate, -List.map_map, -List.map_drop, -List.map_take, mbT, wE, hal, qP, -List.length_flatMap]
end Go.Proofs.Tryz

namespace Go.Proofs.Tryz
open Go Go.Ot
def fA (m : Mb) (n : Int) : Int := if m.first + m.l.length < n then m.first + m.l.length else if m.first ≤ n then n else m.first
def yHE (m : Mb) (n : Int) : Int := fA m (min n (m.first + m.l.length) + 1)
def kG (m : Mb) (n : Int) : Mb := ⟨yHE m n, m.l.drop (yHE m n - m.first).toNat⟩
def yC5 (m : Mb) (n : Int) : List (List UInt8) := (m.l.drop (fA m n - m.first).toNat).take 8
theorem jS (m : Mb) (n : Int) : m.first ≤ fA m n ∧ fA m n ≤ m.first + m.l.length := by
 rw [fA]; split
 ·omega
 ·split <;> omega
theorem yDK {m : Mb} {n : Int} (h : m.first + m.l.length < n) : fA m n = m.first + m.l.length := if_pos h
theorem yBx {m : Mb} {n : Int} (h : ¬ m.first + m.l.length < n) (h2 : m.first ≤ n) : fA m n = n := by rw [fA, if_neg h, if_pos h2]
theorem yIA {m : Mb} {n : Int} (h : ¬ m.first + m.l.length < n) (h2 : ¬ m.first ≤ n) : fA m n = m.first := by rw [fA, if_neg h, if_neg h2]
theorem yG7 (m : Mb) : kG m (m.first + m.l.length) = ⟨m.first + m.l.length, []⟩ := by
 have h : yHE m (m.first + m.l.length) = m.first + m.l.length := by rw [yHE, yDK (by omega)]
 rw [kG, h, show (m.first + (m.l.length : Int) - m.first).toNat = m.l.length from by omega, List.drop_length]
attribute [local simp] num bol txt w8 w16 w32 w64 lst cls xZ xR List.take_of_length_le
attribute [local irreducible] wpK wpS uE wH wV wN wZ xD Le fA kG yC5
theorem fZ (Γ : Gl) (m : Mb) (hf : -4503599627370496 ≤ m.first ∧ m.first ≤ 9007199254740992) (hl : m.l.length ≤ 1000000) (n : Int) (hn : -4503599627370496 ≤ n ∧ n ≤ 18014398509481984)  : Go.Ot.Good Γ prog 158 [.agg [.t (num m.first), .t (lst txt m.l)], .t (num n)] [] (.t (num (fA m n))) [] [] := by
 refine yR F.mix func158 (by rfl) ntmps158 ?_
 refine yD (yA rfl ?_)
 iterate 2 refine yF ?_
 refine yE (yB (yC (yD (yA rfl ?_))))
 iterate 7 refine yF ?_
 refine yE (yB (yC (yD (yH (yD (yH (yD (yH (yD (yD (yD (yA rfl ?_))))))))))))
 iterate 4 refine yF ?_
 refine yE (yB (yC ?_))
 refine vL (fun hc0 => ?_) (fun hc0 => ?_)
 ·(try simp only [zB] at hc0)
  refine xQ (yM (yM (yK (yC (yA rfl ?_)))))
  iterate 2 refine yF ?_
  refine yE (yB (yS (yC (yD (yD (yA rfl ?_))))))
  iterate 2 refine yF ?_
  refine yE (yB (yC (yO (yG (yI (yG ?_))))))
  refine ⟨.inr rfl, yP [] (by rw [results158]) ?_ ?_ ?_⟩ <;> simp [mbT, yDK hc0]
 ·(try simp only [zB] at hc0)
  refine yL (yC (yD (yA rfl ?_)))
  iterate 5 refine yF ?_
  refine yE (yB (yC ?_))
  refine vL (fun hc1 => ?_) (fun hc1 => ?_)
  ·(try simp only [zB] at hc1)
   refine xQ (yM (wU (by decide) (yM (yK (yC (yD (yD (yA rfl ?_))))))))
   iterate 2 refine yF ?_
   refine yE (yB (yC (yO (yG (yI (yG ?_))))))
   refine ⟨.inr rfl, yP [] (by rw [results158]) ?_ ?_ ?_⟩ <;> simp [mbT, yBx hc0 hc1]
  ·(try simp only [zB] at hc1)
   refine yL (yC (xQ (wU (by decide) (yM (wU (by decide) (yM (yK (yC (yD (yA rfl ?_))))))))))
   iterate 3 refine yF ?_
   refine yE (yB (yC (yO ?_)))
   refine ⟨.inr rfl, yP [] (by rw [results158]) ?_ ?_ ?_⟩ <;> simp [mbT, yIA hc0 hc1]
theorem yB6 (Γ : Gl) (m : Mb) (hf : -4503599627370496 ≤ m.first ∧ m.first ≤ 9007199254740992) (hl : m.l.length ≤ 1000000) (n : Int) (hn : -4503599627370496 ≤ n ∧ n ≤ 9007199254740992)  : Go.Ot.Good Γ prog 128 [.agg [.t (num m.first), .t (lst txt m.l)], .t (num n)] [] (.agg [.t (num (kG m n).first), .t (lst txt (kG m n).l)]) [] [] := by
 have hp := jS m (min n (m.first + m.l.length) + 1)
 obtain ⟨k, hk⟩ : ∃ k : Nat, fA m (min n (m.first + m.l.length) + 1) = m.first + (k : Int) := ⟨(fA m (min n (m.first + m.l.length) + 1) - m.first).toNat, by omega⟩
 have hkl : k ≤ m.l.length := by omega
 have hd : kG m n = ⟨m.first + k, m.l.drop k⟩ := by
  rw [kG, yHE, hk, show (m.first + (k : Int) - m.first).toNat = k from by omega]
 have hmd : (m.l.drop k).map txt = (m.l.map txt).drop k := List.map_drop
 refine yR F.mix func128 (by rfl) ntmps128 ?_
 refine yD (yA rfl ?_)
 iterate 2 refine yF ?_
 refine yE (yB (yC (yD (yA rfl ?_))))
 iterate 10 refine yF ?_
 refine yU [] false ((by have h := fZ Γ m hf hl (min n (m.first + m.l.length) + 1) (by omega); rw [hk] at h; exact h)) ?_
 refine yF ?_
 refine yE (yB (yC (yD (yA rfl ?_))))
 iterate 6 refine yF ?_
 refine yF (hs := by (simp (disch := first | omega | (simp only [zL] <;> omega) | (simp only [push_cast] <;> omega) | fail) only [push_cast, reduceCtorEq, Nat.reduceAdd, Nat.reduceSub, Nat.reduceMul, Nat.reduceEqDiff, Nat.reduceLT, Nat.reduceLeDiff, Nat.reduceMod, Nat.reduceDiv, Int.reduceLE, Int.reduceLT, Int.reduceEq, Int.reduceToNat, Int.reduceAdd, Int.reduceSub, Int.reduceMul, Int.reduceNeg, show m.first + (k : Int) - m.first = (k : Int) from by omega] <;> rfl)) ?_
 refine yF ?_
 refine yU [] true (tX Γ (m.l.drop k) (by rw [List.length_drop]; omega)) ?_ (hv := by (simp (disch := first | omega | (simp only [zL] <;> omega) | fail) [-List.map_map, -List.map_drop, -List.map_take, VwL_cons, xM, xY, vN, xV, xW, xU, Vw_agg, xS, xX, xA, VwL_refl_map, yX, xK, xL, wK, xJ, yW, xC, yV, VwTs_app, List.take_of_length_le, srcL, notIn, ObsVw, SrcOk, pOk, Go.Ot.look, resP, resN, ev, evc, mkS, push_cast, List.take_of_length_le, hmd] <;> (try omega)))
 iterate 2 refine yF ?_
 refine yE (yB (yC (yO ?_)))
 refine ⟨.inr rfl, yP [] (by rw [results128]) ?_ ?_ ?_⟩ <;> simp [mbT, hd, hmd]
theorem yCK (Γ : Gl) (m : Mb) (hf : -4503599627370496 ≤ m.first ∧ m.first ≤ 9007199254740992) (hl : m.l.length ≤ 1000000) (n : Int) (hn : -4503599627370496 ≤ n ∧ n ≤ 9007199254740992)  : Go.Ot.Good Γ prog 129 [.agg [.t (num m.first), .t (lst txt m.l)], .t (num n)] [] (.tup [.t (num (fA m n)), .t (lst txt (yC5 m n))]) [] [] := by
 have hp := jS m n
 obtain ⟨k, hk⟩ : ∃ k : Nat, fA m n = m.first + (k : Int) := ⟨(fA m n - m.first).toNat, by omega⟩
 have hkl : k ≤ m.l.length := by omega
 obtain ⟨q, hq⟩ : ∃ q : Nat, min (m.l.length - k) 8 = q := ⟨_, rfl⟩
 have hql : q ≤ m.l.length - k := by omega
 have hd : yC5 m n = (m.l.drop k).take q := by
  rw [← hq, yC5, hk, show (m.first + (k : Int) - m.first).toNat = k from by omega, Nat.min_comm, ← List.take_take]
  congr 1
  exact (List.take_of_length_le (by rw [List.length_drop]; exact Nat.le_refl _)).symm
 have hmd : ((m.l.drop k).take q).map txt = ((m.l.map txt).drop k).take q := by rw [List.map_take, List.map_drop]
 have hml : min q (m.l.length - k) = q := by omega
 refine yR F.mix func129 (by rfl) ntmps129 ?_
 refine yD (yA rfl ?_)
 iterate 3 refine yF ?_
 refine yE (yB (yC (yD (yA rfl ?_))))
 iterate 2 refine yF ?_
 refine yU [] false ((by have h := fZ Γ m hf hl n (by omega); rw [hk] at h; exact h)) ?_
 refine yF ?_
 refine yE (yB (yC (yD (yA rfl ?_))))
 iterate 5 refine yF ?_
 refine yF (hs := by (simp (disch := first | omega | (simp only [zL] <;> omega) | (simp only [push_cast] <;> omega) | fail) only [push_cast, reduceCtorEq, Nat.reduceAdd, Nat.reduceSub, Nat.reduceMul, Nat.reduceEqDiff, Nat.reduceLT, Nat.reduceLeDiff, Nat.reduceMod, Nat.reduceDiv, Int.reduceLE, Int.reduceLT, Int.reduceEq, Int.reduceToNat, Int.reduceAdd, Int.reduceSub, Int.reduceMul, Int.reduceNeg, show m.first + (k : Int) - m.first = (k : Int) from by omega] <;> rfl)) ?_
 iterate 2 refine yF ?_
 refine yE (yB (yC (yD (yA rfl ?_))))
 iterate 4 refine yF ?_
 refine yF (hs := by (simp (disch := first | omega | (simp only [zL] <;> omega) | (simp only [push_cast] <;> omega) | fail) only [push_cast, reduceCtorEq, Nat.reduceAdd, Nat.reduceSub, Nat.reduceMul, Nat.reduceEqDiff, Nat.reduceLT, Nat.reduceLeDiff, Nat.reduceMod, Nat.reduceDiv, Int.reduceLE, Int.reduceLT, Int.reduceEq, Int.reduceToNat, Int.reduceAdd, Int.reduceSub, Int.reduceMul, Int.reduceNeg, show min ((m.l.length : Int) - (k : Int)) 8 = (q : Int) from by omega] <;> rfl)) ?_
 refine yF ?_
 refine yU [] true (tX Γ ((m.l.drop k).take q) (by rw [List.length_take, List.length_drop]; omega)) ?_ (hv := by (simp (disch := first | omega | (simp only [zL] <;> omega) | fail) [-List.map_map, -List.map_drop, -List.map_take, VwL_cons, xM, xY, vN, xV, xW, xU, Vw_agg, xS, xX, xA, VwL_refl_map, yX, xK, xL, wK, xJ, yW, xC, yV, VwTs_app, List.take_of_length_le, srcL, notIn, ObsVw, SrcOk, pOk, Go.Ot.look, resP, resN, ev, evc, mkS, push_cast, List.take_of_length_le, hmd, hml] <;> (try omega)))
 iterate 2 refine yF ?_
 refine yE (yB (yC (yO ?_)))
 refine ⟨.inr rfl, yP [] (by rw [results129]) ?_ ?_ ?_⟩ <;> simp [mbT, hk, hd, hmd, hml]
theorem yIU (Γ : Gl) (l : List (List UInt8)) (x : List UInt8) (hl : l.length ≤ 1000000) (h : ∀ j, j < l.length → l.getD j [] ≠ x) : Go.Ot.Good Γ prog 159 [.t (lst txt l), .t (txt x)] [] (.t (num (-1))) [] [] := by
 refine yR F.mix func159 (by rfl) ntmps159 ?_
 refine yD (yA rfl ?_)
 refine yF ?_
 refine yE (yB (yC (yD (yD (yA rfl ?_)))))
 iterate 3 refine yF ?_
 refine yE (yB (yC (yH ?_)))
 refine xN (fun sl L (i : Nat) => ⟨setAll (setBad sl [4, 5, 6, 9, 10, 11, 12, 13, 14, 15, 16, 17, 18]) [(8, .t (num i))], Go.Ot.look (L)⟩) (fun i => i ≤ l.length) (fun i => l.length - i) (0) (wF ?_) ?_ ?_
 ·refine yT ?_ ?_ ?_ <;> simp
 ·(first | omega | simp)
 ·intro i hi
  refine vE ?_
  refine yD (yA rfl ?_)
  refine yF ?_
  refine yE (yB (yC (yD ?_)))
  refine vL (fun hc0 => ?_) (fun hc0 => ?_)
  ·(try simp only [zB] at hc0)
   refine yL (yC (yD (yH (yD (yA rfl ?_)))))
   iterate 2 refine yF ?_
   refine yE (yB (yC (yD (yA rfl ?_))))
   iterate 5 refine yF ?_
   have hx := h i (by omega)
   obtain ⟨v, hv⟩ : ∃ v, l.getD i [] = v := ⟨_, rfl⟩
   simp only [hv]
   rw [hv] at hx
   have hx2 : (x == v) = false := by simpa using fun e : x = v => hx e.symm
   refine yF (hs := by (simp (disch := first | omega | (simp only [zL] <;> omega) | (simp only [push_cast] <;> omega) | fail) only [push_cast, reduceCtorEq, Nat.reduceAdd, Nat.reduceSub, Nat.reduceMul, Nat.reduceEqDiff, Nat.reduceLT, Nat.reduceLeDiff, Nat.reduceMod, Nat.reduceDiv, Int.reduceLE, Int.reduceLT, Int.reduceEq, Int.reduceToNat, Int.reduceAdd, Int.reduceSub, Int.reduceMul, Int.reduceNeg, hx2] <;> rfl)) ?_
   refine yE (yB (yC (yJ (yL (yS (yC (yA rfl ?_)))))))
   iterate 2 refine yF ?_
   refine yE (yB ?_)
   refine xE (i + 1) (wF ?_) ?_ ?_
   ·refine yT ?_ ?_ ?_ <;> simp
   ·(first | omega | (simp_all <;> omega))
   ·(first | omega | (simp only []; omega))
  ·(try simp only [zB] at hc0)
   refine xQ (yM (yN (yK (yC (yD (yA rfl ?_))))))
   refine yF ?_
   refine yE (yB (yC (yO ?_)))
   refine ⟨.inr rfl, yP [] (by rw [results159]) ?_ ?_ ?_⟩ <;> simp
theorem yGl (Γ : Gl) (l : List (List UInt8)) (x : List UInt8) (k : Nat) (hl : l.length ≤ 1000000) (hk : k < l.length) (hx : l.getD k [] = x) (hb : ∀ j, j < k → l.getD j [] ≠ x) : Go.Ot.Good Γ prog 159 [.t (lst txt l), .t (txt x)] [] (.t (num k)) [] [] := by
 refine yR F.mix func159 (by rfl) ntmps159 ?_
 refine yD (yA rfl ?_)
 refine yF ?_
 refine yE (yB (yC (yD (yD (yA rfl ?_)))))
 iterate 3 refine yF ?_
 refine yE (yB (yC (yH ?_)))
 refine xN (fun sl L (i : Nat) => ⟨setAll (setBad sl [4, 5, 6, 9, 10, 11, 12, 13, 14, 15, 16, 17, 18]) [(8, .t (num i))], Go.Ot.look (L)⟩) (fun i => i ≤ k) (fun i => k - i) (0) (wF ?_) ?_ ?_
 ·refine yT ?_ ?_ ?_ <;> simp
 ·(first | omega | simp)
 ·intro i hi
  refine vE ?_
  refine yD (yA rfl ?_)
  refine yF ?_
  refine yE (yB (yC (yD (xF (yL (yC (yD (yH (yD (yA rfl ?_))))))))))
  iterate 2 refine yF ?_
  refine yE (yB (yC (yD (yA rfl ?_))))
  rcases (show i = k ∨ i < k by omega) with rfl | hik
  ·skip
   iterate 5 refine yF ?_
   simp only [hx]
   refine yF (hs := by (simp (disch := first | omega | (simp only [zL] <;> omega) | (simp only [push_cast] <;> omega) | fail) only [push_cast, reduceCtorEq, Nat.reduceAdd, Nat.reduceSub, Nat.reduceMul, Nat.reduceEqDiff, Nat.reduceLT, Nat.reduceLeDiff, Nat.reduceMod, Nat.reduceDiv, Int.reduceLE, Int.reduceLT, Int.reduceEq, Int.reduceToNat, Int.reduceAdd, Int.reduceSub, Int.reduceMul, Int.reduceNeg, beq_self_eq_true] <;> rfl)) ?_
   refine yE (yB (yC (xF (yD (yA rfl ?_)))))
   iterate 2 refine yF ?_
   refine yE (yB (yC (yO (yI (yG (wI (yI (yG ?_))))))))
   refine ⟨.inr rfl, yP [] (by rw [results159]) ?_ ?_ ?_⟩ <;> simp
  ·skip
   iterate 5 refine yF ?_
   have hx1 := hb i (by omega)
   obtain ⟨v, hv⟩ : ∃ v, l.getD i [] = v := ⟨_, rfl⟩
   simp only [hv]
   rw [hv] at hx1
   have hx2 : (x == v) = false := by simpa using fun e : x = v => hx1 e.symm
   refine yF (hs := by (simp (disch := first | omega | (simp only [zL] <;> omega) | (simp only [push_cast] <;> omega) | fail) only [push_cast, reduceCtorEq, Nat.reduceAdd, Nat.reduceSub, Nat.reduceMul, Nat.reduceEqDiff, Nat.reduceLT, Nat.reduceLeDiff, Nat.reduceMod, Nat.reduceDiv, Int.reduceLE, Int.reduceLT, Int.reduceEq, Int.reduceToNat, Int.reduceAdd, Int.reduceSub, Int.reduceMul, Int.reduceNeg, hx2] <;> rfl)) ?_
   refine yE (yB (yC (yJ (yL (yS (yC (yA rfl ?_)))))))
   iterate 2 refine yF ?_
   refine yE (yB ?_)
   refine xE (i + 1) (wF ?_) ?_ ?_
   ·refine yT ?_ ?_ ?_ <;> simp
   ·(first | omega | (simp_all <;> omega))
   ·omega
theorem yJh (Γ : Gl) (l : List (List UInt8)) (x : List UInt8) (hl : l.length ≤ 1000000) (h : ∀ j, j < l.length → l.getD j [] ≠ x) : Go.Ot.Good Γ prog 130 [.t (lst txt l), .t (txt x)] [] (.t (bol false)) [] [] := by
 refine yR F.mix func130 (by rfl) ntmps130 ?_
 refine yD (yA rfl ?_)
 refine yF ?_
 refine yE (yB (yC (yD (yA rfl ?_))))
 iterate 2 refine yF ?_
 refine yU [] false (yIU Γ l x hl h) ?_
 iterate 2 refine yF ?_
 refine yE (yB (yC (yO ?_)))
 refine ⟨.inr rfl, yP [] (by rw [results130]) ?_ ?_ ?_⟩ <;> simp
theorem yGI (Γ : Gl) (l : List (List UInt8)) (x : List UInt8) (k : Nat) (hl : l.length ≤ 1000000) (hk : k < l.length) (hx : l.getD k [] = x) (hb : ∀ j, j < k → l.getD j [] ≠ x) : Go.Ot.Good Γ prog 130 [.t (lst txt l), .t (txt x)] [] (.t (bol true)) [] [] := by
 refine yR F.mix func130 (by rfl) ntmps130 ?_
 refine yD (yA rfl ?_)
 refine yF ?_
 refine yE (yB (yC (yD (yA rfl ?_))))
 iterate 2 refine yF ?_
 refine yU [] false (yGl Γ l x k hl hk hx hb) ?_
 iterate 2 refine yF ?_
 refine yE (yB (yC (yO ?_)))
 refine ⟨.inr rfl, yP [] (by rw [results130]) ?_ ?_ ?_⟩ <;> simp
theorem sU (Γ : Gl) (l : List (List UInt8)) (x : List UInt8) (hl : l.length ≤ 1000000) : Go.Ot.Good Γ prog 130 [.t (lst txt l), .t (txt x)] [] (.t (bol (l.contains x))) [] [] := by
 rcases Classical.em (∃ k, k < l.length ∧ l.getD k [] = x) with h | h
 ·obtain ⟨k, ⟨h1, h2⟩, h3⟩ := dP (p := fun k => k < l.length ∧ l.getD k [] = x) h
  have hc : l.contains x = true := by
   rw [List.contains_iff_mem, ← h2]
   simp only [List.getD_eq_getElem?_getD, List.getElem?_eq_getElem h1, Option.getD_some]
   exact List.getElem_mem h1
  rw [hc]
  exact yGI Γ l x k hl h1 h2 (fun j hj e => h3 j hj ⟨by omega, e⟩)
 ·have hc : l.contains x = false := by
   rcases e : l.contains x with _ | _
   ·rfl
   ·rw [List.contains_iff_mem] at e
    obtain ⟨k, hk, e⟩ := List.mem_iff_getElem.1 e
    exact absurd ⟨k, hk, by simp only [List.getD_eq_getElem?_getD, List.getElem?_eq_getElem hk, Option.getD_some]; exact e⟩ h
  rw [hc]
  exact yJh Γ l x hl (fun j hj e => h ⟨j, hj, e⟩)
end Go.Proofs.Tryz

namespace Go.Proofs.Tryz
open Go Go.Ot
@[push_cast] theorem mb_at {l : List Mb} {i : Nat} (h : i < l.length) : List.take 2 (List.drop (i * 2) ((l.flatMap mbT).map D.t)) = [.t (num (l.getD i default).first), .t (lst txt (l.getD i default).l)] := by
 rw [← List.map_drop, ← List.map_take, jP nS h]
 rfl
theorem yAO {l : List Mb} {i : Nat} (a : Int) (b : List (List UInt8)) (h : i < l.length) : (((l.flatMap mbT).map D.t).set (i * 2) (.t (num a))).set (i * 2 + 1) (.t (lst txt b)) = ((l.set i ⟨a, b⟩).flatMap mbT).map D.t := by
 have h1 := yBE (l := l) (i := i) (j := 0) (r' := ⟨a, (l.getD i default).l⟩) (c := num a) h (by decide) rfl
 rw [Nat.add_zero] at h1
 have hg : (l.set i ⟨a, (l.getD i default).l⟩).getD i default = ⟨a, (l.getD i default).l⟩ := by simp [List.getD_eq_getElem?_getD, h]
 have h2 := yBE (l := l.set i ⟨a, (l.getD i default).l⟩) (i := i) (j := 1) (r' := ⟨a, b⟩) (c := lst txt b) (by rw [List.length_set]; exact h) (by decide) (by rw [hg]; rfl)
 rw [h1, h2, List.set_set]
theorem app_len {l : List (List UInt8)} {b : List UInt8} (hs : ∀ i, (l.getD i []).length ≤ 1000000) (hb : b.length ≤ 1000000) (i : Nat) : ((l ++ [b]).getD i []).length ≤ 1000000 := by
 by_cases h : i < l.length
 ·rw [List.getD_eq_getElem?_getD, List.getElem?_append_left h, ← List.getD_eq_getElem?_getD]; exact hs i
 ·rw [List.getD_eq_getElem?_getD, List.getElem?_append_right (by omega)]
  rcases i - l.length with _ | k
  ·exact hb
  ·exact Nat.zero_le _
theorem yAJ {Γ : Gl} {P : Program} {Q : Exit → St → Prop} {b : Code} {sl : List D} {L : List (Nm × Ob)} (f : List D → List (Nm × Ob) → St) (hle : Le Γ ⟨sl, Go.Ot.look L⟩ (f sl L)) (h : wpK Γ P b Q (f sl L)) : uE Γ P b Q .normal ⟨sl, Go.Ot.look L⟩ := yDD hle h
attribute [local simp] num bol txt w8 w16 w32 w64 lst cls xZ xR List.take_of_length_le
attribute [local irreducible] wpK wpS uE wH wV wN wZ xD Le rdS lpW rdW got tB mayW uW putW nb u64 qB mwB sha rcF hdF hsh RG inF chC fl lkT ckB chP chS fA kG yC5
theorem add_dup (Γ : Gl) (r : Rl) (hr : rlS r) (d n : Int) (b : List UInt8) (hcn : r.log.contains b = true) : Go.Ot.Good Γ prog 95 [.ptr (.p 0) 0, .agg [.t (num 4), .t (num d), .t (num n), .t (txt b)], .ptr (.p 1) 0] [xR 31 [.msl (.p 2) 0 r.boxes.length 2, .msl (.p 3) 0 r.log.length 1, .t (txt r.snap), .t (num r.shares), .msl (.p 4) 0 r.last.length 1], xR 44 [.t (num 4), .t (num 0), .t (num 0), .t (.v (.slice none 0 0))], wE r.boxes, xZ 9 txt r.log, xZ 3 num r.last] (.t (.v .nilIface)) [some (xR 31 [.msl (.p 2) 0 r.boxes.length 2, .msl (.p 3) 0 r.log.length 1, .t (txt r.snap), .t (num r.shares), .msl (.p 4) 0 r.last.length 1]), some (xR 44 [.t (num 4), .t (num 0), .t (num r.log.length), .t (lst txt [])]), some (wE r.boxes), some (xZ 9 txt r.log), some (xZ 3 num r.last)] [] := by
 obtain ⟨hb, hm, hg, hn⟩ := hr
 refine yR F.mix func95 (by rfl) ntmps95 ?_
 refine yD (yA rfl ?_)
 iterate 2 refine yF ?_
 refine yE (yB (yC (yD (yD (yA rfl ?_)))))
 iterate 6 refine yY ?_
 refine yZ [.p 3] false ((by have h := sU Γ r.log b hg; rw [hcn] at h; exact h)) ?_ (hv := by (simp (disch := first | omega | (simp only [zL] <;> omega) | fail) [-List.map_map, -List.map_drop, -List.map_take, VwL_cons, xM, xY, vN, xV, xW, xU, Vw_agg, xS, xX, xA, VwL_refl_map, yX, xK, xL, wK, xJ, yW, xC, yV, VwTs_app, List.take_of_length_le, srcL, notIn, ObsVw, SrcOk, pOk, Go.Ot.look, resP, resN, ev, evc, mkS, push_cast, List.take_of_length_le] <;> (try omega)))
 refine yE (xO (by kernel_rfl) (yC (xF (yD (yA rfl ?_)))))
 iterate 9 refine yF ?_
 refine yE (yB (yC (yD (yA rfl ?_))))
 refine yF ?_
 refine yE (yB (yC (yO (yG ?_))))
 refine ⟨.inr rfl, yP [(.p 0, .p 0), (.p 1, .p 1), (.p 2, .p 2), (.p 3, .p 3), (.p 4, .p 4)] (by rw [results95]) ?_ ?_ ?_⟩ <;> simp [-List.map_set, -List.map_replicate, -List.reduceReplicate, -List.map_map, -List.map_drop, -List.map_take, mbT, wE]
theorem add_form (Γ : Gl) (hE : EG Γ) (r : Rl) (hr : rlS r) (d n : Int) (b : List UInt8) (hcn : r.log.contains b = false) (hg2 : r.log.length < 1000000) (hs : ∀ i, (r.log.getD i []).length ≤ 1000000) (hbl : b.length ≤ 1000000) (ho : chS (r.log ++ [b]) = none) : Go.Ot.Good Γ prog 95 [.ptr (.p 0) 0, .agg [.t (num 4), .t (num d), .t (num n), .t (txt b)], .ptr (.p 1) 0] [xR 31 [.msl (.p 2) 0 r.boxes.length 2, .msl (.p 3) 0 r.log.length 1, .t (txt r.snap), .t (num r.shares), .msl (.p 4) 0 r.last.length 1], xR 44 [.t (num 4), .t (num 0), .t (num 0), .t (.v (.slice none 0 0))], wE r.boxes, xZ 9 txt r.log, xZ 3 num r.last] (.t (.ifc 88 (.agg [num 11]))) [some (xR 31 [.msl (.p 2) 0 r.boxes.length 2, .msl (.p 3) 0 r.log.length 1, .t (txt r.snap), .t (num r.shares), .msl (.p 4) 0 r.last.length 1]), some (xR 44 [.t (num 4), .t (num 0), .t (num 0), .t (lst txt [])]), some (wE r.boxes), some (xZ 9 txt r.log), some (xZ 3 num r.last)] [] := by
 obtain ⟨hb, hm, hg, hn⟩ := hr
 refine yR F.mix func95 (by rfl) ntmps95 ?_
 refine yD (yA rfl ?_)
 iterate 2 refine yF ?_
 refine yE (yB (yC (yD (yD (yA rfl ?_)))))
 iterate 6 refine yY ?_
 refine yZ [.p 3] false ((by have h := sU Γ r.log b hg; rw [hcn] at h; exact h)) ?_ (hv := by (simp (disch := first | omega | (simp only [zL] <;> omega) | fail) [-List.map_map, -List.map_drop, -List.map_take, VwL_cons, xM, xY, vN, xV, xW, xU, Vw_agg, xS, xX, xA, VwL_refl_map, yX, xK, xL, wK, xJ, yW, xC, yV, VwTs_app, List.take_of_length_le, srcL, notIn, ObsVw, SrcOk, pOk, Go.Ot.look, resP, resN, ev, evc, mkS, push_cast, List.take_of_length_le] <;> (try omega)))
 refine yE (xO (by kernel_rfl) (yC (yJ (yL (yC (yD (yA rfl ?_)))))))
 iterate 4 refine yY ?_
 refine yZ [.p 3] false (vT Γ r.log hg) ?_ (hv := by (simp (disch := first | omega | (simp only [zL] <;> omega) | fail) [-List.map_map, -List.map_drop, -List.map_take, VwL_cons, xM, xY, vN, xV, xW, xU, Vw_agg, xS, xX, xA, VwL_refl_map, yX, xK, xL, wK, xJ, yW, xC, yV, VwTs_app, List.take_of_length_le, srcL, notIn, ObsVw, SrcOk, pOk, Go.Ot.look, resP, resN, ev, evc, mkS, push_cast, List.take_of_length_le] <;> (try omega)))
 iterate 4 refine yY ?_
 refine yZ [.r 4 4 0] true ((by have h := tM Γ hE (r.log ++ [b]) (by rw [List.length_append]; simp only [List.length_cons, List.length_nil]; omega) (app_len hs hbl); rw [ho, chR_none] at h; exact h)) ?_ (hv := by (simp (maxSteps := 2000000) (disch := first | omega | (simp only [zL] <;> omega) | fail) [-List.map_map, -List.map_drop, -List.map_take, VwL_cons, xM, xY, vN, xV, xW, xU, Vw_agg, xS, xX, xA, VwL_refl_map, yX, xK, xL, wK, xJ, yW, xC, yV, VwTs_app, List.take_of_length_le, srcL, notIn, ObsVw, SrcOk, pOk, Go.Ot.look, resP, resN, ev, evc, mkS, push_cast, List.take_of_length_le] <;> (try omega)))
 iterate 5 refine yY ?_
 refine yE (xO (by kernel_rfl) (yC (yD (yD (yA rfl ?_)))))
 iterate 2 refine yF ?_
 refine yE (yB (yC (xF (yD (yA rfl ?_)))))
 iterate 3 refine yF ?_
 refine yE (yB (yC (yO (yG ?_))))
 refine ⟨.inr rfl, yP [(.p 0, .p 0), (.p 1, .p 1), (.p 2, .p 2), (.p 3, .p 3), (.p 4, .p 4)] (by rw [results95]) ?_ ?_ ?_⟩ <;> simp [-List.map_set, -List.map_replicate, -List.reduceReplicate, -List.map_map, -List.map_drop, -List.map_take, mbT, wE]
theorem add_fork (Γ : Gl) (hE : EG Γ) (r : Rl) (hr : rlS r) (d n : Int) (b : List UInt8) (hcn : r.log.contains b = false) (hg2 : r.log.length < 1000000) (hs : ∀ i, (r.log.getD i []).length ≤ 1000000) (hbl : b.length ≤ 1000000) (rs : List Rc) (ho : chS (r.log ++ [b]) = some rs) (hck : ckB rs = false) : Go.Ot.Good Γ prog 95 [.ptr (.p 0) 0, .agg [.t (num 4), .t (num d), .t (num n), .t (txt b)], .ptr (.p 1) 0] [xR 31 [.msl (.p 2) 0 r.boxes.length 2, .msl (.p 3) 0 r.log.length 1, .t (txt r.snap), .t (num r.shares), .msl (.p 4) 0 r.last.length 1], xR 44 [.t (num 4), .t (num 0), .t (num 0), .t (.v (.slice none 0 0))], wE r.boxes, xZ 9 txt r.log, xZ 3 num r.last] (.t (.ifc 88 (.agg [num 11]))) [some (xR 31 [.msl (.p 2) 0 r.boxes.length 2, .msl (.p 3) 0 r.log.length 1, .t (txt r.snap), .t (num r.shares), .msl (.p 4) 0 r.last.length 1]), some (xR 44 [.t (num 4), .t (num 0), .t (num 0), .t (lst txt [])]), some (wE r.boxes), some (xZ 9 txt r.log), some (xZ 3 num r.last)] [] := by
 obtain ⟨hb, hm, hg, hn⟩ := hr
 refine yR F.mix func95 (by rfl) ntmps95 ?_
 refine yD (yA rfl ?_)
 iterate 2 refine yF ?_
 refine yE (yB (yC (yD (yD (yA rfl ?_)))))
 iterate 6 refine yY ?_
 refine yZ [.p 3] false ((by have h := sU Γ r.log b hg; rw [hcn] at h; exact h)) ?_ (hv := by (simp (disch := first | omega | (simp only [zL] <;> omega) | fail) [-List.map_map, -List.map_drop, -List.map_take, VwL_cons, xM, xY, vN, xV, xW, xU, Vw_agg, xS, xX, xA, VwL_refl_map, yX, xK, xL, wK, xJ, yW, xC, yV, VwTs_app, List.take_of_length_le, srcL, notIn, ObsVw, SrcOk, pOk, Go.Ot.look, resP, resN, ev, evc, mkS, push_cast, List.take_of_length_le] <;> (try omega)))
 refine yE (xO (by kernel_rfl) (yC (yJ (yL (yC (yD (yA rfl ?_)))))))
 iterate 4 refine yY ?_
 refine yZ [.p 3] false (vT Γ r.log hg) ?_ (hv := by (simp (disch := first | omega | (simp only [zL] <;> omega) | fail) [-List.map_map, -List.map_drop, -List.map_take, VwL_cons, xM, xY, vN, xV, xW, xU, Vw_agg, xS, xX, xA, VwL_refl_map, yX, xK, xL, wK, xJ, yW, xC, yV, VwTs_app, List.take_of_length_le, srcL, notIn, ObsVw, SrcOk, pOk, Go.Ot.look, resP, resN, ev, evc, mkS, push_cast, List.take_of_length_le] <;> (try omega)))
 iterate 4 refine yY ?_
 refine yZ [.r 4 4 0] true ((by have h := tM Γ hE (r.log ++ [b]) (by rw [List.length_append]; simp only [List.length_cons, List.length_nil]; omega) (app_len hs hbl); rw [ho, nE, hck] at h; exact h)) ?_ (hv := by (simp (maxSteps := 2000000) (disch := first | omega | (simp only [zL] <;> omega) | fail) [-List.map_map, -List.map_drop, -List.map_take, VwL_cons, xM, xY, vN, xV, xW, xU, Vw_agg, xS, xX, xA, VwL_refl_map, yX, xK, xL, wK, xJ, yW, xC, yV, VwTs_app, List.take_of_length_le, srcL, notIn, ObsVw, SrcOk, pOk, Go.Ot.look, resP, resN, ev, evc, mkS, push_cast, List.take_of_length_le] <;> (try omega)))
 iterate 5 refine yY ?_
 refine yE (xO (by kernel_rfl) (yC (yD (yD (yA rfl ?_)))))
 iterate 2 refine yF ?_
 refine yE (yB (yC (xF (yD (yA rfl ?_)))))
 iterate 3 refine yF ?_
 refine yE (yB (yC (yO (yG ?_))))
 refine ⟨.inr rfl, yP [(.p 0, .p 0), (.p 1, .p 1), (.p 2, .p 2), (.p 3, .p 3), (.p 4, .p 4)] (by rw [results95]) ?_ ?_ ?_⟩ <;> simp [-List.map_set, -List.map_replicate, -List.reduceReplicate, -List.map_map, -List.map_drop, -List.map_take, mbT, wE]
theorem yJA (Γ : Gl) (hE : EG Γ) (r : Rl) (hr : rlS r) (d n : Int) (b : List UInt8) (hcn : r.log.contains b = false) (hg2 : r.log.length < 1000000) (hs : ∀ i, (r.log.getD i []).length ≤ 1000000) (hbl : b.length ≤ 1000000) (rs : List Rc) (ho : chS (r.log ++ [b]) = some rs) (hck : ckB rs = true) (c : Rc) (hrl : rs.length = r.log.length + 1) (hrc : rs.getD r.log.length default = c) (hk : c.kind ≠ 2) : Go.Ot.Good Γ prog 95 [.ptr (.p 0) 0, .agg [.t (num 4), .t (num d), .t (num n), .t (txt b)], .ptr (.p 1) 0] [xR 31 [.msl (.p 2) 0 r.boxes.length 2, .msl (.p 3) 0 r.log.length 1, .t (txt r.snap), .t (num r.shares), .msl (.p 4) 0 r.last.length 1], xR 44 [.t (num 4), .t (num 0), .t (num 0), .t (.v (.slice none 0 0))], wE r.boxes, xZ 9 txt r.log, xZ 3 num r.last] (.t (.v .nilIface)) [some (xR 31 [.msl (.p 2) 0 r.boxes.length 2, .msl (.p 3) 0 (r.log ++ [b]).length 1, .t (txt r.snap), .t (num r.shares), .msl (.p 4) 0 r.last.length 1]), some (xR 44 [.t (num 4), .t (num 0), .t (num (r.log.length + 1)), .t (lst txt [])]), some (wE r.boxes), some (xZ 9 txt (r.log ++ [b])), some (xZ 3 num r.last)] [] := by
 obtain ⟨hb, hm, hg, hn⟩ := hr
 have hri : (rs.length : Int) - 1 = (r.log.length : Int) := by omega
 refine yR F.mix func95 (by rfl) ntmps95 ?_
 refine yD (yA rfl ?_)
 iterate 2 refine yF ?_
 refine yE (yB (yC (yD (yD (yA rfl ?_)))))
 iterate 6 refine yY ?_
 refine yZ [.p 3] false ((by have h := sU Γ r.log b hg; rw [hcn] at h; exact h)) ?_ (hv := by (simp (disch := first | omega | (simp only [zL] <;> omega) | fail) [-List.map_map, -List.map_drop, -List.map_take, VwL_cons, xM, xY, vN, xV, xW, xU, Vw_agg, xS, xX, xA, VwL_refl_map, yX, xK, xL, wK, xJ, yW, xC, yV, VwTs_app, List.take_of_length_le, srcL, notIn, ObsVw, SrcOk, pOk, Go.Ot.look, resP, resN, ev, evc, mkS, push_cast, List.take_of_length_le] <;> (try omega)))
 refine yE (xO (by kernel_rfl) (yC (yJ (yL (yC (yD (yA rfl ?_)))))))
 iterate 4 refine yY ?_
 refine yZ [.p 3] false (vT Γ r.log hg) ?_ (hv := by (simp (disch := first | omega | (simp only [zL] <;> omega) | fail) [-List.map_map, -List.map_drop, -List.map_take, VwL_cons, xM, xY, vN, xV, xW, xU, Vw_agg, xS, xX, xA, VwL_refl_map, yX, xK, xL, wK, xJ, yW, xC, yV, VwTs_app, List.take_of_length_le, srcL, notIn, ObsVw, SrcOk, pOk, Go.Ot.look, resP, resN, ev, evc, mkS, push_cast, List.take_of_length_le] <;> (try omega)))
 iterate 4 refine yY ?_
 refine yZ [.r 4 4 0] true ((by have h := tM Γ hE (r.log ++ [b]) (by rw [List.length_append]; simp only [List.length_cons, List.length_nil]; omega) (app_len hs hbl); rw [ho, nE, hck] at h; exact h)) ?_ (hv := by (simp (maxSteps := 2000000) (disch := first | omega | (simp only [zL] <;> omega) | fail) [-List.map_map, -List.map_drop, -List.map_take, VwL_cons, xM, xY, vN, xV, xW, xU, Vw_agg, xS, xX, xA, VwL_refl_map, yX, xK, xL, wK, xJ, yW, xC, yV, VwTs_app, List.take_of_length_le, srcL, notIn, ObsVw, SrcOk, pOk, Go.Ot.look, resP, resN, ev, evc, mkS, push_cast, List.take_of_length_le] <;> (try omega)))
 iterate 5 refine yY ?_
 refine yE (xO (by kernel_rfl) ?_)
 refine yAJ (fun sl L => ⟨setBad sl [1, 11, 12, 13, 14, 15, 16, 17, 18, 19, 20, 21, 22, 23, 24, 25, 26, 27, 28, 29, 30, 31, 32, 33, 34, 35, 36, 37, 38], Go.Ot.look (vD (.p 0) (xR 31 [.msl (.p 2) 0 r.boxes.length 2, .msl (.p 3) 0 r.log.length 1, .t (txt r.snap), .t (num r.shares), .msl (.p 4) 0 r.last.length 1]) (vD (.p 1) (xR 44 [.t (num 4), .t (num 0), .t (num 0), .t (.v (.slice none 0 0))]) (vD (.p 2) (wE r.boxes) (vD (.p 3) (xZ 9 txt r.log) (vD (.p 4) (xZ 3 num r.last) (vD (.r 0 0 0) (xR 41 [.t (num 4), .t (num d), .t (num n), .t (txt b)]) []))))))⟩) (wF ?_) (vE ?_)
 ·refine wL [(.p 0, .p 0), (.p 1, .p 1), (.p 2, .p 2), (.p 3, .p 3), (.p 4, .p 4), (.r 0 0 0, .r 0 0 0)] ?_ ?_ ?_ <;> simp [-List.map_set, -List.map_replicate, -List.reduceReplicate, -List.map_map, -List.map_drop, -List.map_take, wE, mbT]
 refine yD (yD (yA rfl ?_))
 iterate 2 refine yF ?_
 refine yE (yB (yC (yJ (yL (yC (yD ?_))))))
 refine tD (.p 3) [47] [.p 0] rfl ?_
 iterate 12 refine nK ?_
 refine kK ⟨yC4 (by kernel_rfl) (by kernel_rfl), ?_⟩
 refine yC (yD (yD (yA rfl ?_)))
 iterate 3 refine yF ?_
 refine yF (hs := by (simp (disch := first | omega | (simp only [zL] <;> omega) | (simp only [push_cast] <;> omega) | fail) only [push_cast, reduceCtorEq, Nat.reduceAdd, Nat.reduceSub, Nat.reduceMul, Nat.reduceEqDiff, Nat.reduceLT, Nat.reduceLeDiff, Nat.reduceMod, Nat.reduceDiv, Int.reduceLE, Int.reduceLT, Int.reduceEq, Int.reduceToNat, Int.reduceAdd, Int.reduceSub, Int.reduceMul, Int.reduceNeg, hri] <;> rfl)) ?_
 iterate 2 refine yF ?_
 simp only [hrc]
 iterate 2 refine yF ?_
 refine yE (yB (yC (yD (yA rfl ?_))))
 iterate 4 refine yY ?_
 iterate 8 refine yCZ ?_
 refine yY ?_
 refine yE (xO (by kernel_rfl) (yC (yJ (yL (yC (yD (yA rfl ?_)))))))
 iterate 9 refine yF ?_
 refine yE (yB (yC (yD (yA rfl ?_))))
 refine yF ?_
 refine yE (yB (yC (yO ?_)))
 refine ⟨.inr rfl, yP [(.p 0, .p 0), (.p 1, .p 1), (.p 2, .p 2), (.p 3, .p 3), (.p 4, .p 4)] (by rw [results95]) ?_ ?_ ?_⟩ <;> simp [-List.map_set, -List.map_replicate, -List.reduceReplicate, -List.map_map, -List.map_drop, -List.map_take, mbT, wE, List.map_append]
theorem yJz (Γ : Gl) (hE : EG Γ) (r : Rl) (hr : rlS r) (d n : Int) (b : List UInt8) (hcn : r.log.contains b = false) (hg2 : r.log.length < 1000000) (hs : ∀ i, (r.log.getD i []).length ≤ 1000000) (hbl : b.length ≤ 1000000) (rs : List Rc) (ho : chS (r.log ++ [b]) = some rs) (hck : ckB rs = true) (c : Rc) (hrl : rs.length = r.log.length + 1) (hrc : rs.getD r.log.length default = c) (hk : c.kind = 2) (hdv : (r.boxes.length : Int) ≤ c.dev) : Go.Ot.Good Γ prog 95 [.ptr (.p 0) 0, .agg [.t (num 4), .t (num d), .t (num n), .t (txt b)], .ptr (.p 1) 0] [xR 31 [.msl (.p 2) 0 r.boxes.length 2, .msl (.p 3) 0 r.log.length 1, .t (txt r.snap), .t (num r.shares), .msl (.p 4) 0 r.last.length 1], xR 44 [.t (num 4), .t (num 0), .t (num 0), .t (.v (.slice none 0 0))], wE r.boxes, xZ 9 txt r.log, xZ 3 num r.last] (.t (.v .nilIface)) [some (xR 31 [.msl (.p 2) 0 r.boxes.length 2, .msl (.p 3) 0 (r.log ++ [b]).length 1, .t (txt r.snap), .t (num r.shares), .msl (.p 4) 0 r.last.length 1]), some (xR 44 [.t (num 4), .t (num 0), .t (num (r.log.length + 1)), .t (lst txt [])]), some (wE r.boxes), some (xZ 9 txt (r.log ++ [b])), some (xZ 3 num r.last)] [] := by
 obtain ⟨hb, hm, hg, hn⟩ := hr
 have hri : (rs.length : Int) - 1 = (r.log.length : Int) := by omega
 refine yR F.mix func95 (by rfl) ntmps95 ?_
 refine yD (yA rfl ?_)
 iterate 2 refine yF ?_
 refine yE (yB (yC (yD (yD (yA rfl ?_)))))
 iterate 6 refine yY ?_
 refine yZ [.p 3] false ((by have h := sU Γ r.log b hg; rw [hcn] at h; exact h)) ?_ (hv := by (simp (disch := first | omega | (simp only [zL] <;> omega) | fail) [-List.map_map, -List.map_drop, -List.map_take, VwL_cons, xM, xY, vN, xV, xW, xU, Vw_agg, xS, xX, xA, VwL_refl_map, yX, xK, xL, wK, xJ, yW, xC, yV, VwTs_app, List.take_of_length_le, srcL, notIn, ObsVw, SrcOk, pOk, Go.Ot.look, resP, resN, ev, evc, mkS, push_cast, List.take_of_length_le] <;> (try omega)))
 refine yE (xO (by kernel_rfl) (yC (yJ (yL (yC (yD (yA rfl ?_)))))))
 iterate 4 refine yY ?_
 refine yZ [.p 3] false (vT Γ r.log hg) ?_ (hv := by (simp (disch := first | omega | (simp only [zL] <;> omega) | fail) [-List.map_map, -List.map_drop, -List.map_take, VwL_cons, xM, xY, vN, xV, xW, xU, Vw_agg, xS, xX, xA, VwL_refl_map, yX, xK, xL, wK, xJ, yW, xC, yV, VwTs_app, List.take_of_length_le, srcL, notIn, ObsVw, SrcOk, pOk, Go.Ot.look, resP, resN, ev, evc, mkS, push_cast, List.take_of_length_le] <;> (try omega)))
 iterate 4 refine yY ?_
 refine yZ [.r 4 4 0] true ((by have h := tM Γ hE (r.log ++ [b]) (by rw [List.length_append]; simp only [List.length_cons, List.length_nil]; omega) (app_len hs hbl); rw [ho, nE, hck] at h; exact h)) ?_ (hv := by (simp (maxSteps := 2000000) (disch := first | omega | (simp only [zL] <;> omega) | fail) [-List.map_map, -List.map_drop, -List.map_take, VwL_cons, xM, xY, vN, xV, xW, xU, Vw_agg, xS, xX, xA, VwL_refl_map, yX, xK, xL, wK, xJ, yW, xC, yV, VwTs_app, List.take_of_length_le, srcL, notIn, ObsVw, SrcOk, pOk, Go.Ot.look, resP, resN, ev, evc, mkS, push_cast, List.take_of_length_le] <;> (try omega)))
 iterate 5 refine yY ?_
 refine yE (xO (by kernel_rfl) ?_)
 refine yAJ (fun sl L => ⟨setBad sl [1, 11, 12, 13, 14, 15, 16, 17, 18, 19, 20, 21, 22, 23, 24, 25, 26, 27, 28, 29, 30, 31, 32, 33, 34, 35, 36, 37, 38], Go.Ot.look (vD (.p 0) (xR 31 [.msl (.p 2) 0 r.boxes.length 2, .msl (.p 3) 0 r.log.length 1, .t (txt r.snap), .t (num r.shares), .msl (.p 4) 0 r.last.length 1]) (vD (.p 1) (xR 44 [.t (num 4), .t (num 0), .t (num 0), .t (.v (.slice none 0 0))]) (vD (.p 2) (wE r.boxes) (vD (.p 3) (xZ 9 txt r.log) (vD (.p 4) (xZ 3 num r.last) (vD (.r 0 0 0) (xR 41 [.t (num 4), .t (num d), .t (num n), .t (txt b)]) []))))))⟩) (wF ?_) (vE ?_)
 ·refine wL [(.p 0, .p 0), (.p 1, .p 1), (.p 2, .p 2), (.p 3, .p 3), (.p 4, .p 4), (.r 0 0 0, .r 0 0 0)] ?_ ?_ ?_ <;> simp [-List.map_set, -List.map_replicate, -List.reduceReplicate, -List.map_map, -List.map_drop, -List.map_take, wE, mbT]
 refine yD (yD (yA rfl ?_))
 iterate 2 refine yF ?_
 refine yE (yB (yC (yJ (yL (yC (yD ?_))))))
 refine tD (.p 3) [47] [.p 0] rfl ?_
 iterate 12 refine nK ?_
 refine kK ⟨yC4 (by kernel_rfl) (by kernel_rfl), ?_⟩
 refine yC (yD (yD (yA rfl ?_)))
 iterate 3 refine yF ?_
 refine yF (hs := by (simp (disch := first | omega | (simp only [zL] <;> omega) | (simp only [push_cast] <;> omega) | fail) only [push_cast, reduceCtorEq, Nat.reduceAdd, Nat.reduceSub, Nat.reduceMul, Nat.reduceEqDiff, Nat.reduceLT, Nat.reduceLeDiff, Nat.reduceMod, Nat.reduceDiv, Int.reduceLE, Int.reduceLT, Int.reduceEq, Int.reduceToNat, Int.reduceAdd, Int.reduceSub, Int.reduceMul, Int.reduceNeg, hri] <;> rfl)) ?_
 iterate 2 refine yF ?_
 simp only [hrc]
 iterate 2 refine yF ?_
 refine yE (yB (yC (yD (yA rfl ?_))))
 iterate 4 refine yY ?_
 iterate 8 refine vR ?_
 refine yY ?_
 refine yE (xO (by kernel_rfl) (yC (yJ (yL (yC (yD (yA rfl ?_)))))))
 iterate 9 refine yF ?_
 refine yE (yB (yC (yD (yA rfl ?_))))
 refine yF ?_
 refine yE (yB (yC (yO ?_)))
 refine ⟨.inr rfl, yP [(.p 0, .p 0), (.p 1, .p 1), (.p 2, .p 2), (.p 3, .p 3), (.p 4, .p 4)] (by rw [results95]) ?_ ?_ ?_⟩ <;> simp [-List.map_set, -List.map_replicate, -List.reduceReplicate, -List.map_map, -List.map_drop, -List.map_take, mbT, wE, List.map_append]
theorem yJy (Γ : Gl) (hE : EG Γ) (r : Rl) (hr : rlS r) (d n : Int) (b : List UInt8) (hcn : r.log.contains b = false) (hg2 : r.log.length < 1000000) (hs : ∀ i, (r.log.getD i []).length ≤ 1000000) (hbl : b.length ≤ 1000000) (rs : List Rc) (ho : chS (r.log ++ [b]) = some rs) (hck : ckB rs = true) (c : Rc) (hrl : rs.length = r.log.length + 1) (hrc : rs.getD r.log.length default = c) (hk : c.kind = 2) (j : Nat) (hdv : c.dev = (j : Int)) (hD : j < r.boxes.length) (m : Mb) (hme : r.boxes.getD j default = m) (hmf : 0 ≤ m.first ∧ m.first ≤ 4503599627370496) : Go.Ot.Good Γ prog 95 [.ptr (.p 0) 0, .agg [.t (num 4), .t (num d), .t (num n), .t (txt b)], .ptr (.p 1) 0] [xR 31 [.msl (.p 2) 0 r.boxes.length 2, .msl (.p 3) 0 r.log.length 1, .t (txt r.snap), .t (num r.shares), .msl (.p 4) 0 r.last.length 1], xR 44 [.t (num 4), .t (num 0), .t (num 0), .t (.v (.slice none 0 0))], wE r.boxes, xZ 9 txt r.log, xZ 3 num r.last] (.t (.v .nilIface)) [some (xR 31 [.msl (.p 2) 0 (r.boxes.set j ⟨m.first + m.l.length, []⟩).length 2, .msl (.p 3) 0 (r.log ++ [b]).length 1, .t (txt r.snap), .t (num r.shares), .msl (.p 4) 0 r.last.length 1]), some (xR 44 [.t (num 4), .t (num 0), .t (num (r.log.length + 1)), .t (lst txt [])]), some (wE (r.boxes.set j ⟨m.first + m.l.length, []⟩)), some (xZ 9 txt (r.log ++ [b])), some (xZ 3 num r.last)] [] := by
 obtain ⟨hb, hm, hg, hn⟩ := hr
 have hri : (rs.length : Int) - 1 = (r.log.length : Int) := by omega
 have hml : m.l.length ≤ 1000000 := by rw [← hme]; exact hm j
 have hset := yAO (m.first + m.l.length) [] hD
 simp only [num, lst, List.map_nil, List.length_nil] at hset
 refine yR F.mix func95 (by rfl) ntmps95 ?_
 refine yD (yA rfl ?_)
 iterate 2 refine yF ?_
 refine yE (yB (yC (yD (yD (yA rfl ?_)))))
 iterate 6 refine yY ?_
 refine yZ [.p 3] false ((by have h := sU Γ r.log b hg; rw [hcn] at h; exact h)) ?_ (hv := by (simp (disch := first | omega | (simp only [zL] <;> omega) | fail) [-List.map_map, -List.map_drop, -List.map_take, VwL_cons, xM, xY, vN, xV, xW, xU, Vw_agg, xS, xX, xA, VwL_refl_map, yX, xK, xL, wK, xJ, yW, xC, yV, VwTs_app, List.take_of_length_le, srcL, notIn, ObsVw, SrcOk, pOk, Go.Ot.look, resP, resN, ev, evc, mkS, push_cast, List.take_of_length_le] <;> (try omega)))
 refine yE (xO (by kernel_rfl) (yC (yJ (yL (yC (yD (yA rfl ?_)))))))
 iterate 4 refine yY ?_
 refine yZ [.p 3] false (vT Γ r.log hg) ?_ (hv := by (simp (disch := first | omega | (simp only [zL] <;> omega) | fail) [-List.map_map, -List.map_drop, -List.map_take, VwL_cons, xM, xY, vN, xV, xW, xU, Vw_agg, xS, xX, xA, VwL_refl_map, yX, xK, xL, wK, xJ, yW, xC, yV, VwTs_app, List.take_of_length_le, srcL, notIn, ObsVw, SrcOk, pOk, Go.Ot.look, resP, resN, ev, evc, mkS, push_cast, List.take_of_length_le] <;> (try omega)))
 iterate 4 refine yY ?_
 refine yZ [.r 4 4 0] true ((by have h := tM Γ hE (r.log ++ [b]) (by rw [List.length_append]; simp only [List.length_cons, List.length_nil]; omega) (app_len hs hbl); rw [ho, nE, hck] at h; exact h)) ?_ (hv := by (simp (maxSteps := 2000000) (disch := first | omega | (simp only [zL] <;> omega) | fail) [-List.map_map, -List.map_drop, -List.map_take, VwL_cons, xM, xY, vN, xV, xW, xU, Vw_agg, xS, xX, xA, VwL_refl_map, yX, xK, xL, wK, xJ, yW, xC, yV, VwTs_app, List.take_of_length_le, srcL, notIn, ObsVw, SrcOk, pOk, Go.Ot.look, resP, resN, ev, evc, mkS, push_cast, List.take_of_length_le] <;> (try omega)))
 iterate 5 refine yY ?_
 refine yE (xO (by kernel_rfl) ?_)
 refine yAJ (fun sl L => ⟨setBad sl [1, 11, 12, 13, 14, 15, 16, 17, 18, 19, 20, 21, 22, 23, 24, 25, 26, 27, 28, 29, 30, 31, 32, 33, 34, 35, 36, 37, 38], Go.Ot.look (vD (.p 0) (xR 31 [.msl (.p 2) 0 r.boxes.length 2, .msl (.p 3) 0 r.log.length 1, .t (txt r.snap), .t (num r.shares), .msl (.p 4) 0 r.last.length 1]) (vD (.p 1) (xR 44 [.t (num 4), .t (num 0), .t (num 0), .t (.v (.slice none 0 0))]) (vD (.p 2) (wE r.boxes) (vD (.p 3) (xZ 9 txt r.log) (vD (.p 4) (xZ 3 num r.last) (vD (.r 0 0 0) (xR 41 [.t (num 4), .t (num d), .t (num n), .t (txt b)]) []))))))⟩) (wF ?_) (vE ?_)
 ·refine wL [(.p 0, .p 0), (.p 1, .p 1), (.p 2, .p 2), (.p 3, .p 3), (.p 4, .p 4), (.r 0 0 0, .r 0 0 0)] ?_ ?_ ?_ <;> simp [-List.map_set, -List.map_replicate, -List.reduceReplicate, -List.map_map, -List.map_drop, -List.map_take, wE, mbT]
 refine yD (yD (yA rfl ?_))
 iterate 2 refine yF ?_
 refine yE (yB (yC (yJ (yL (yC (yD ?_))))))
 refine tD (.p 3) [47] [.p 0] rfl ?_
 iterate 12 refine nK ?_
 refine kK ⟨yC4 (by kernel_rfl) (by kernel_rfl), ?_⟩
 refine yC (yD (yD (yA rfl ?_)))
 iterate 3 refine yF ?_
 refine yF (hs := by (simp (disch := first | omega | (simp only [zL] <;> omega) | (simp only [push_cast] <;> omega) | fail) only [push_cast, reduceCtorEq, Nat.reduceAdd, Nat.reduceSub, Nat.reduceMul, Nat.reduceEqDiff, Nat.reduceLT, Nat.reduceLeDiff, Nat.reduceMod, Nat.reduceDiv, Int.reduceLE, Int.reduceLT, Int.reduceEq, Int.reduceToNat, Int.reduceAdd, Int.reduceSub, Int.reduceMul, Int.reduceNeg, hri] <;> rfl)) ?_
 iterate 2 refine yF ?_
 simp only [hrc, hdv]
 iterate 2 refine yF ?_
 refine yE (yB (yC (yD (yA rfl ?_))))
 iterate 4 refine yY ?_
 iterate 8 refine vR ?_
 refine yY ?_
 refine yE (xO (by kernel_rfl) (yC (xF (yD (yA rfl ?_)))))
 iterate 8 refine yY ?_
 simp only [hme]
 iterate 2 refine yY ?_
 refine yE (xO (by kernel_rfl) (yC (yA rfl ?_)))
 iterate 13 refine yY ?_
 refine yZ [] true ((by have h := yB6 Γ m (by omega) hml (m.first + m.l.length) (by omega); rw [yG7] at h; exact h)) ?_ (hv := by (simp (maxSteps := 2000000) (disch := first | omega | (simp only [zL] <;> omega) | fail) [-List.map_map, -List.map_drop, -List.map_take, VwL_cons, xM, xY, vN, xV, xW, xU, Vw_agg, xS, xX, xA, VwL_refl_map, yX, xK, xL, wK, xJ, yW, xC, yV, VwTs_app, List.take_of_length_le, srcL, notIn, ObsVw, SrcOk, pOk, Go.Ot.look, resP, resN, ev, evc, mkS, push_cast, List.take_of_length_le] <;> (try omega)))
 iterate 2 refine yY ?_
 refine yE (xO (by kernel_rfl) (yC (yD (yA rfl ?_))))
 iterate 9 refine yF ?_
 refine yE (yB (yC (yD (yA rfl ?_))))
 refine yF ?_
 refine yE (yB (yC (yO ?_)))
 refine ⟨.inr rfl, yP [(.p 0, .p 0), (.p 1, .p 1), (.p 2, .p 2), (.p 3, .p 3), (.p 4, .p 4)] (by rw [results95]) ?_ ?_ ?_⟩ <;> simp [-List.map_set, -List.map_replicate, -List.reduceReplicate, -List.map_map, -List.map_drop, -List.map_take, mbT, wE, List.map_append, hset]
end Go.Proofs.Tryz
