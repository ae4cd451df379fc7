/- Contracts of this program's functions. -/
import Derived.Test.YtkbikblijipceaaGreatDoorSV0
import Derived.Test.YtkbikblijipceaaGreatDoorOtF
import Derived.Test.YtkbikblijipceaaGreatDoorOtE
set_option maxHeartbeats 4000000
set_option maxRecDepth 100000
set_option linter.unusedVariables false
set_option linter.unusedSimpArgs false
namespace Go.Proofs.Tryz
open Go Go.Ot
structure Mb where
 first : Int
 l : List (List UInt8)
 deriving DecidableEq
instance : Inhabited Mb := ⟨⟨0, []⟩⟩
structure Rl where
 boxes : List Mb
 log : List (List UInt8)
 snap : List UInt8
 shares : Int
 last : List Int
def mbT (m : Mb) : List T := [num m.first, lst txt m.l]
theorem nS (m : Mb) : (mbT m).length = 2 := rfl
@[push_cast] theorem qP (l : List Mb) : (l.flatMap mbT).length = l.length * 2 := mG nS l
theorem lX {α : Type} [Inhabited α] {f : α → List T} {k : Nat} (hf : ∀ a, (f a).length = k) {l : List α} {i : Nat} (h : i < l.length) : (l.flatMap f).drop (i * k) = f (l.getD i default) ++ (l.flatMap f).drop (i * k + k) := by
 rw [← jP hf h, ← List.drop_drop, List.take_append_drop]
@[push_cast] theorem mb_drop {l : List Mb} {i : Nat} (h : i < l.length) : (l.flatMap mbT).drop (i * 2) = num (l.getD i default).first :: lst txt (l.getD i default).l :: (l.flatMap mbT).drop (i * 2 + 2) := lX nS h
theorem dW {α : Type} [Inhabited α] {l : List α} {i : Nat} (h : i < l.length) : l.getD i default = l[i] := by simp [List.getD_eq_getElem?_getD, List.getElem?_eq_getElem h]
def wE (l : List Mb) : Ob := ⟨(l.flatMap mbT).map .t, 76, true, true⟩
@[push_cast] theorem rowMb_eq (l : List Mb) : wE l = ⟨(l.flatMap mbT).map .t, 76, true, true⟩ := rfl
theorem mb_g {l : List Mb} {i j : Nat} (h : i < l.length) (hj : j < 2) {c : T} (hc : (mbT (l.getD i default))[j]? = some c) : ((l.flatMap mbT).map D.t).getD (i * 2 + j) .bad = .t c := by
 have e : ((l.flatMap mbT).drop (i * 2)) = mbT (l.getD i default) ++ (l.flatMap mbT).drop (i * 2 + 2) := lX nS h
 rw [List.getD_eq_getElem?_getD, List.getElem?_map, ← List.getElem?_drop, e, List.getElem?_append_left (by rw [nS]; exact hj), hc]; rfl
@[push_cast] theorem mb_g1 {l : List Mb} {i : Nat} (h : i < l.length) : ((l.flatMap mbT).map D.t).getD (i * 2 + 1) .bad = .t (lst txt (l.getD i default).l) := mb_g (j := 1) h (by decide) rfl
theorem yBD {l : List Mb} {i : Nat} {r' : Mb} (h : i < l.length) : l.flatMap mbT = (l.take i).flatMap mbT ++ (mbT (l.getD i default) ++ (l.drop (i + 1)).flatMap mbT) ∧ (l.set i r').flatMap mbT = (l.take i).flatMap mbT ++ (mbT r' ++ (l.drop (i + 1)).flatMap mbT) := by
 constructor
 ·conv => lhs; rw [← List.take_append_drop i l, List.drop_eq_getElem_cons h, ← dW h]
  rw [List.flatMap_append, List.flatMap_cons]
 ·rw [List.set_eq_take_append_cons_drop, if_pos h, List.flatMap_append, List.flatMap_cons]
theorem yBE {l : List Mb} {i j : Nat} {r' : Mb} {c : T} (h : i < l.length) (hj : j < 2) (hv : mbT r' = (mbT (l.getD i default)).set j c) : ((l.flatMap mbT).map D.t).set (i * 2 + j) (.t c) = ((l.set i r').flatMap mbT).map D.t := by
 have ht : ((l.take i).flatMap mbT).length = i * 2 := by rw [mG nS, List.length_take, Nat.min_eq_left (by omega)]
 rw [(yBD (r' := r') h).1, (yBD (r' := r') h).2, List.map_append, List.map_append, List.set_append_right _ _ (by rw [List.length_map]; omega), List.length_map, ht, Nat.add_sub_cancel_left, List.set_append_left _ _ (by rw [List.length_map, nS]; exact hj), hv, List.map_append, List.map_append, List.map_set]
theorem yDX {l : List Mb} {i : Nat} {m : Mb} (h : i < l.length) (he : l.getD i default = m) : ((l.flatMap mbT).map D.t).set (i * 2 + 1) (.t (.sl m.l.length (m.l.map txt))) = (l.flatMap mbT).map D.t := by
 rw [yBE (r' := m) (c := .sl m.l.length (m.l.map txt)) h (by decide) (by rw [he]; rfl), ← he, dW h, List.set_getElem_self]
theorem lY {l : List Mb} {n : Nat} (h : l.length = n) : List.take (n * 2) ((l.flatMap mbT).map D.t) = (l.flatMap mbT).map D.t := List.take_of_length_le (by rw [List.length_map, qP, h]; exact Nat.le_refl _)
def sK (k : Nat) : Nat → List Mb
 | 0 => List.replicate k ⟨0, []⟩
 | i + 1 => (sK k i).set i ⟨1, ((sK k i).getD i default).l⟩
@[push_cast] theorem vH (k : Nat) : ∀ i, (sK k i).length = k
 | 0 => List.length_replicate
 | i + 1 => by rw [sK, List.length_set, vH k i]
theorem jV {k i : Nat} (h : i < k) : (((sK k i).flatMap mbT).map D.t).set (i * 2) (.t (.v (.int .i64 1))) = ((sK k (i + 1)).flatMap mbT).map D.t := by
 have := yBE (l := sK k i) (i := i) (j := 0) (r' := ⟨1, ((sK k i).getD i default).l⟩) (c := num 1) (by rw [vH]; exact h) (by decide) rfl
 rwa [Nat.add_zero] at this
def nJ (k : Nat) : Rl := ⟨sK k k, [], [], 0, List.replicate k 0⟩
structure rlS (r : Rl) : Prop where
 b : r.boxes.length ≤ 100
 m : ∀ i, (r.boxes.getD i default).l.length ≤ 1000000
 g : r.log.length ≤ 1000000
 n : r.last.length ≤ 1000000
end Go.Proofs.Tryz

namespace Go.Proofs.Tryz
open Go Go.Ot
attribute [local simp] num bol txt w8 w16 w32 w64 lst cls xZ xR List.take_of_length_le
attribute [local irreducible] wpK wpS uE wH wV wN wZ xD Le sK
theorem yGL (Γ : Gl) (a : List UInt8) (l : List (List UInt8)) (hl : l.length < 1000000) : Go.Ot.Good Γ prog 87 [.t (lst txt (a :: l))] [] (.t (lst txt (a :: l))) [] [] := by
 refine yR F.mix func87 (by rfl) ntmps87 ?_
 refine yD (yA rfl ?_)
 refine yF ?_
 refine yE (yB (yC (yD (yD (yA rfl ?_)))))
 iterate 2 refine yF ?_
 refine yE (yB (yC (yJ (yL (yC (yD (yA rfl ?_)))))))
 iterate 4 refine yF ?_
 refine yE (yB (yC (yO ?_)))
 refine ⟨.inr rfl, yP [] (by rw [results87]) ?_ ?_ ?_⟩ <;> simp [-List.map_set, -List.map_replicate, -List.reduceReplicate, -List.map_map, -List.map_drop, -List.map_take, mbT]
theorem yGJ (Γ : Gl) (c : Nat) : Go.Ot.Good Γ prog 87 [.t (.v (.slice none 0 c))] [] (.t (lst txt [])) [] [] := by
 refine yR F.mix func87 (by rfl) ntmps87 ?_
 refine yD (yA rfl ?_)
 refine yF ?_
 refine yE (yB (yC (yD (yD (yA rfl ?_)))))
 iterate 2 refine yF ?_
 refine yE (yB (yC (xF (yD (yA rfl ?_)))))
 refine yF ?_
 refine yE (yB (yC (yO (yG ?_))))
 refine ⟨.inr rfl, yP [] (by rw [results87]) ?_ ?_ ?_⟩ <;> simp [mbT]
theorem yGK (Γ : Gl) (A : Addr) (c : Nat) : Go.Ot.Good Γ prog 87 [.t (.v (.slice (some A) 0 c))] [] (.t (lst txt [])) [] [] := by
 refine yR F.mix func87 (by rfl) ntmps87 ?_
 refine yD (yA rfl ?_)
 refine yF ?_
 refine yE (yB (yC (yD (yD (yA rfl ?_)))))
 iterate 2 refine yF ?_
 refine yE (yB (yC (yJ (yL (yC (yD (yA rfl ?_)))))))
 iterate 4 refine yF ?_
 refine yE (yB (yC (yO ?_)))
 refine ⟨.inr rfl, yP [] (by rw [results87]) ?_ ?_ ?_⟩ <;> simp [mbT]
theorem tX (Γ : Gl) (l : List (List UInt8)) (hl : l.length ≤ 1000000) : Go.Ot.Good Γ prog 87 [.t (lst txt l)] [] (.t (lst txt l)) [] [] := by
 cases l with
 | nil =>
  refine tL (pre := []) (post := []) (fun A c hc => ?_)
  cases A with
  | none => exact yGJ Γ c
  | some A => exact yGK Γ A c
 | cons a l => exact yGL Γ a l (by simp at hl; omega)
theorem yGR (Γ : Gl) (a : Int) (l : List Int) (hl : l.length < 1000000) : Go.Ot.Good Γ prog 88 [.t (lst num (a :: l))] [] (.t (lst num (a :: l))) [] [] := by
 refine yR F.mix func88 (by rfl) ntmps88 ?_
 refine yD (yA rfl ?_)
 refine yF ?_
 refine yE (yB (yC (yD (yD (yA rfl ?_)))))
 iterate 2 refine yF ?_
 refine yE (yB (yC (yJ (yL (yC (yD (yA rfl ?_)))))))
 iterate 4 refine yF ?_
 refine yE (yB (yC (yO ?_)))
 refine ⟨.inr rfl, yP [] (by rw [results88]) ?_ ?_ ?_⟩ <;> simp [-List.map_set, -List.map_replicate, -List.reduceReplicate, -List.map_map, -List.map_drop, -List.map_take, mbT]
theorem yGP (Γ : Gl) (c : Nat) : Go.Ot.Good Γ prog 88 [.t (.v (.slice none 0 c))] [] (.t (lst num [])) [] [] := by
 refine yR F.mix func88 (by rfl) ntmps88 ?_
 refine yD (yA rfl ?_)
 refine yF ?_
 refine yE (yB (yC (yD (yD (yA rfl ?_)))))
 iterate 2 refine yF ?_
 refine yE (yB (yC (xF (yD (yA rfl ?_)))))
 refine yF ?_
 refine yE (yB (yC (yO (yG ?_))))
 refine ⟨.inr rfl, yP [] (by rw [results88]) ?_ ?_ ?_⟩ <;> simp [mbT]
theorem yGQ (Γ : Gl) (A : Addr) (c : Nat) : Go.Ot.Good Γ prog 88 [.t (.v (.slice (some A) 0 c))] [] (.t (lst num [])) [] [] := by
 refine yR F.mix func88 (by rfl) ntmps88 ?_
 refine yD (yA rfl ?_)
 refine yF ?_
 refine yE (yB (yC (yD (yD (yA rfl ?_)))))
 iterate 2 refine yF ?_
 refine yE (yB (yC (yJ (yL (yC (yD (yA rfl ?_)))))))
 iterate 4 refine yF ?_
 refine yE (yB (yC (yO ?_)))
 refine ⟨.inr rfl, yP [] (by rw [results88]) ?_ ?_ ?_⟩ <;> simp [mbT]
theorem yAW (Γ : Gl) (l : List Int) (hl : l.length ≤ 1000000) : Go.Ot.Good Γ prog 88 [.t (lst num l)] [] (.t (lst num l)) [] [] := by
 cases l with
 | nil =>
  refine tL (pre := []) (post := []) (fun A c hc => ?_)
  cases A with
  | none => exact yGP Γ c
  | some A => exact yGQ Γ A c
 | cons a l => exact yGR Γ a l (by simp at hl; omega)
theorem yGO (Γ : Gl) (a : Mb) (l : List Mb) (hl : l.length < 1000000) : Go.Ot.Good Γ prog 86 [.t (.sl (a :: l).length ((a :: l).flatMap mbT))] [] (.msl (.n 0) 0 (a :: l).length 2) [] [wE (a :: l)] := by
 refine yR F.mix func86 (by rfl) ntmps86 ?_
 refine yD (yA rfl ?_)
 refine yF ?_
 refine yE (yB (yC (yD (yD (yA rfl ?_)))))
 iterate 2 refine yF ?_
 refine yE (yB (yC (yJ (yL (yC (yD (yA rfl ?_)))))))
 iterate 4 refine yF ?_
 refine yE (yB (yC (yO ?_)))
 refine ⟨.inr rfl, yP [(.n 0, .r 3 0 0)] (by rw [results86]) ?_ ?_ ?_⟩ <;> simp [mbT, wE]
theorem yGM (Γ : Gl) (c : Nat) : Go.Ot.Good Γ prog 86 [.t (.v (.slice none 0 c))] [] (.msl (.n 0) 0 0 2) [] [wE []] := by
 refine yR F.mix func86 (by rfl) ntmps86 ?_
 refine yD (yA rfl ?_)
 refine yF ?_
 refine yE (yB (yC (yD (yD (yA rfl ?_)))))
 iterate 2 refine yF ?_
 refine yE (yB (yC (xF (yD (yA rfl ?_)))))
 refine yF ?_
 refine yE (yB (yC (yO (yG ?_))))
 refine ⟨.inr rfl, yP [] (by rw [results86]) ?_ ?_ ?_⟩ <;> simp [mbT, wE]
theorem yGN (Γ : Gl) (A : Addr) (c : Nat) : Go.Ot.Good Γ prog 86 [.t (.v (.slice (some A) 0 c))] [] (.msl (.n 0) 0 0 2) [] [wE []] := by
 refine yR F.mix func86 (by rfl) ntmps86 ?_
 refine yD (yA rfl ?_)
 refine yF ?_
 refine yE (yB (yC (yD (yD (yA rfl ?_)))))
 iterate 2 refine yF ?_
 refine yE (yB (yC (yJ (yL (yC (yD (yA rfl ?_)))))))
 iterate 4 refine yF ?_
 refine yE (yB (yC (yO ?_)))
 refine ⟨.inr rfl, yP [(.n 0, .r 3 0 0)] (by rw [results86]) ?_ ?_ ?_⟩ <;> simp [mbT, wE]
theorem gH (Γ : Gl) (l : List Mb) (hl : l.length ≤ 1000000) : Go.Ot.Good Γ prog 86 [.t (.sl l.length (l.flatMap mbT))] [] (.msl (.n 0) 0 l.length 2) [] [wE l] := by
 cases l with
 | nil =>
  refine tL (pre := []) (post := []) (fun A c hc => ?_)
  cases A with
  | none => exact yGM Γ c
  | some A => exact yGN Γ A c
 | cons a l => exact yGO Γ a l (by simp at hl; omega)
theorem cC (Γ : Gl) (r : Rl) (hr : rlS r) : Go.Ot.Good Γ prog 35 [.agg [.t (.sl r.boxes.length (r.boxes.flatMap mbT)), .t (lst txt r.log), .t (txt r.snap), .t (num r.shares), .t (lst num r.last)]] [] (.agg [.t (.sl r.boxes.length (r.boxes.flatMap mbT)), .t (lst txt r.log), .t (txt r.snap), .t (num r.shares), .t (lst num r.last)]) [] [] := by
 obtain ⟨hb, hm, hg, hn⟩ := hr
 refine yR F.mix func35 (by rfl) ntmps35 ?_
 refine yD (yA rfl ?_)
 iterate 2 refine yF ?_
 refine yE (yB (yC (yD (yA rfl ?_))))
 iterate 2 refine yY ?_
 refine yZ [] true (gH Γ r.boxes (by omega)) ?_
 iterate 2 refine yY ?_
 refine yZ [] true (tX Γ r.log hg) ?_
 iterate 2 refine yY ?_
 refine yZ [] true (yAW Γ r.last hn) ?_
 iterate 6 refine yY ?_
 refine yE (xO (by kernel_rfl) (yC (yD (yD (yA rfl ?_)))))
 iterate 4 refine yF ?_
 refine yE (yB (yC (yH ?_)))
 refine xN (fun sl L (i : Nat) => ⟨setAll (setBad sl [0, 3, 4, 5, 6, 7, 8, 9, 10, 11, 12, 13, 14, 15, 16, 17, 20, 21, 22, 23, 24, 25, 26, 27, 28, 29, 30, 31, 32, 33, 34]) [(19, .t (num i))], Go.Ot.look (L)⟩) (fun i => i ≤ r.boxes.length) (fun i => r.boxes.length - i) (0) (wF ?_) ?_ ?_
 ·refine wL [(.r 0 0 0, .r 0 0 0), (.r 0 1 0, .r 0 1 0), (.r 1 2 0, .r 1 2 0)] ?_ ?_ ?_ <;> simp [mbT] <;> (try omega)
 ·(first | omega | simp)
 ·intro i hi
  refine vE ?_
  refine yD (yA rfl ?_)
  refine yF ?_
  refine yE (yB (yC (yD ?_)))
  refine vL (fun hc0 => ?_) (fun hc0 => ?_)
  ·(try simp only [zB] at hc0)
   refine yL (yC (yD (yH (yD (yA rfl ?_)))))
   iterate 2 refine yF ?_
   refine yE (yB (yC (yA rfl ?_)))
   iterate 9 refine yY ?_
   have hib : i < r.boxes.length := by omega
   obtain ⟨m, he⟩ : ∃ m, r.boxes.getD i default = m := ⟨_, rfl⟩
   simp only [he]
   have hset := yDX hib he
   refine yZ [] true (tX Γ m.l (by rw [← he]; exact hm i)) ?_
   iterate 3 refine yY ?_
   refine yE (xO (by kernel_rfl) (yS (yC (yA rfl ?_))))
   iterate 2 refine yF ?_
   refine yE (yB ?_)
   refine xE (i + 1) (wF ?_) ?_ ?_
   ·refine wL [(.r 0 0 0, .r 0 0 0), (.r 0 1 0, .r 0 1 0), (.r 1 2 0, .r 1 2 0)] ?_ ?_ ?_ <;> simp [mbT, hset] <;> (try omega)
   ·(first | omega | (simp_all <;> omega))
   ·(first | omega | (simp only []; omega))
  ·(try simp only [zB] at hc0)
   refine xQ (yM (yN (yK (yC (yD (yA rfl ?_))))))
   have hal := lY (l := r.boxes) rfl
   iterate 2 refine yF ?_
   refine yE (yB (yC (yO ?_)))
   refine ⟨.inr rfl, yP [] (by rw [results35]) ?_ ?_ ?_⟩ <;> simp [mbT, hal, qP, -List.length_flatMap]
theorem aF (Γ : Gl)  : Go.Ot.Good Γ prog 13 [.t (num 3)] [] (.agg [.t (.sl (nJ 3).boxes.length ((nJ 3).boxes.flatMap mbT)), .t (lst txt (nJ 3).log), .t (txt (nJ 3).snap), .t (num (nJ 3).shares), .t (lst num (nJ 3).last)]) [] [] := by
 refine yR F.mix func13 (by rfl) ntmps13 ?_
 refine yD (yA rfl ?_)
 refine yF ?_
 refine yE (yB (yC (yD (yA rfl ?_))))
 iterate 3 refine yF ?_
 simp only [show (max (1 : Int) (min 3 8)) = 3 from by decide]
 refine yF ?_
 refine yE (yB (yC (yD (yA rfl ?_))))
 iterate 7 refine yY ?_
 refine yE (xO (by kernel_rfl) (yC (yD (yD (yA rfl ?_)))))
 iterate 4 refine yF ?_
 refine yE (yB (yC (yH ?_)))
 refine xN (fun sl L (i : Nat) => ⟨setAll (setBad sl [0, 4, 5, 6, 7, 8, 9, 10, 11, 12, 13, 14, 17, 18, 19, 20, 21, 22, 23, 24]) [(16, .t (num i))], Go.Ot.look (vD (.n 9) (wE (sK 3 i)) (vD (.r 2 5 0) (xR 31 [.msl (.n 9) 0 3 2, .t (.v (.slice none 0 0)), .t (txt []), .t (num 0), .msl (.r 2 3 0) 0 3 1]) (lN (.r 2 1 0) L)))⟩) (fun i => i ≤ 3) (fun i => 3 - i) (0) (wF ?_) ?_ ?_
 ·refine wL [(.r 0 0 0, .r 0 0 0), (.r 2 5 0, .r 2 5 0), (.n 9, .r 2 1 0), (.r 2 3 0, .r 2 3 0)] ?_ ?_ ?_ <;> simp [mbT, nJ, wE, sK, mbT, List.replicate] <;> (try omega)
 ·(first | omega | simp)
 ·intro i hi
  refine vE ?_
  refine yD (yA rfl ?_)
  refine yF ?_
  refine yE (yB (yC (yD ?_)))
  refine vL (fun hc0 => ?_) (fun hc0 => ?_)
  ·(try simp only [zB] at hc0)
   refine yL (yC (yD (yH (yD (yA rfl ?_)))))
   iterate 2 refine yF ?_
   refine yE (yB (yC (yA rfl ?_)))
   have hnx := jV (k := 3) (i := i) (by omega)
   iterate 6 refine yF ?_
   refine yE (yB (yS (yC (yA rfl ?_))))
   iterate 2 refine yF ?_
   refine yE (yB ?_)
   refine xE (i + 1) (wF ?_) ?_ ?_
   ·refine wL [(.r 0 0 0, .r 0 0 0), (.r 2 5 0, .r 2 5 0), (.n 9, .n 9), (.r 2 3 0, .r 2 3 0)] ?_ ?_ ?_ <;> simp [mbT, nJ, wE, hnx] <;> (try omega)
   ·(first | omega | (simp_all <;> omega))
   ·(first | omega | (simp only []; omega))
  ·(try simp only [zB] at hc0)
   refine xQ (yM (yN (yK (yC (yD (yA rfl ?_))))))
   have hil : i = 3 := by omega
   subst hil
   have hal := lY (vH 3 3)
   have hbl := vH 3 3
   iterate 2 refine yF ?_
   refine yE (yB (yC (yO ?_)))
   refine ⟨.inr rfl, yP [] (by rw [results13]) ?_ ?_ ?_⟩ <;> simp [mbT, nJ, hal, hbl, qP, -List.length_flatMap, List.replicate]
theorem new4_good (Γ : Gl)  : Go.Ot.Good Γ prog 13 [.t (num 4)] [] (.agg [.t (.sl (nJ 4).boxes.length ((nJ 4).boxes.flatMap mbT)), .t (lst txt (nJ 4).log), .t (txt (nJ 4).snap), .t (num (nJ 4).shares), .t (lst num (nJ 4).last)]) [] [] := by
 refine yR F.mix func13 (by rfl) ntmps13 ?_
 refine yD (yA rfl ?_)
 refine yF ?_
 refine yE (yB (yC (yD (yA rfl ?_))))
 iterate 3 refine yF ?_
 simp only [show (max (1 : Int) (min 4 8)) = 4 from by decide]
 refine yF ?_
 refine yE (yB (yC (yD (yA rfl ?_))))
 iterate 7 refine yY ?_
 refine yE (xO (by kernel_rfl) (yC (yD (yD (yA rfl ?_)))))
 iterate 4 refine yF ?_
 refine yE (yB (yC (yH ?_)))
 refine xN (fun sl L (i : Nat) => ⟨setAll (setBad sl [0, 4, 5, 6, 7, 8, 9, 10, 11, 12, 13, 14, 17, 18, 19, 20, 21, 22, 23, 24]) [(16, .t (num i))], Go.Ot.look (vD (.n 9) (wE (sK 4 i)) (vD (.r 2 5 0) (xR 31 [.msl (.n 9) 0 4 2, .t (.v (.slice none 0 0)), .t (txt []), .t (num 0), .msl (.r 2 3 0) 0 4 1]) (lN (.r 2 1 0) L)))⟩) (fun i => i ≤ 4) (fun i => 4 - i) (0) (wF ?_) ?_ ?_
 ·refine wL [(.r 0 0 0, .r 0 0 0), (.r 2 5 0, .r 2 5 0), (.n 9, .r 2 1 0), (.r 2 3 0, .r 2 3 0)] ?_ ?_ ?_ <;> simp [mbT, nJ, wE, sK, mbT, List.replicate] <;> (try omega)
 ·(first | omega | simp)
 ·intro i hi
  refine vE ?_
  refine yD (yA rfl ?_)
  refine yF ?_
  refine yE (yB (yC (yD ?_)))
  refine vL (fun hc0 => ?_) (fun hc0 => ?_)
  ·(try simp only [zB] at hc0)
   refine yL (yC (yD (yH (yD (yA rfl ?_)))))
   iterate 2 refine yF ?_
   refine yE (yB (yC (yA rfl ?_)))
   have hnx := jV (k := 4) (i := i) (by omega)
   iterate 6 refine yF ?_
   refine yE (yB (yS (yC (yA rfl ?_))))
   iterate 2 refine yF ?_
   refine yE (yB ?_)
   refine xE (i + 1) (wF ?_) ?_ ?_
   ·refine wL [(.r 0 0 0, .r 0 0 0), (.r 2 5 0, .r 2 5 0), (.n 9, .n 9), (.r 2 3 0, .r 2 3 0)] ?_ ?_ ?_ <;> simp [mbT, nJ, wE, hnx] <;> (try omega)
   ·(first | omega | (simp_all <;> omega))
   ·(first | omega | (simp only []; omega))
  ·(try simp only [zB] at hc0)
   refine xQ (yM (yN (yK (yC (yD (yA rfl ?_))))))
   have hil : i = 4 := by omega
   subst hil
   have hal := lY (vH 4 4)
   have hbl := vH 4 4
   iterate 2 refine yF ?_
   refine yE (yB (yC (yO ?_)))
   refine ⟨.inr rfl, yP [] (by rw [results13]) ?_ ?_ ?_⟩ <;> simp [mbT, nJ, hal, hbl, qP, -List.length_flatMap, List.replicate]
theorem uK (Γ : Gl) (n : Int) (h0 : 0 ≤ n) (h1 : n ≤ 4503599627370496) : Go.Ot.Good Γ prog 59 [.t (num n)] [] (.t (bol true)) [] [] := by
 refine yR F.mix func59 (by rfl) ntmps59 ?_
 refine yD (yA rfl ?_)
 refine yF ?_
 refine yE (yB (yC (yD (yA rfl ?_))))
 iterate 3 refine yF ?_
 iterate 2 refine xB ?_
 iterate 2 refine yF ?_
 refine yE (yB (yC (yO ?_)))
 refine ⟨.inr rfl, yP [] (by rw [results59]) ?_ ?_ ?_⟩ <;> simp
end Go.Proofs.Tryz
