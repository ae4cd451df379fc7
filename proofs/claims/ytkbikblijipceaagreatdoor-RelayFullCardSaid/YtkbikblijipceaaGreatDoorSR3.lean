/- Contracts of this program's functions. -/
import Derived.Test.YtkbikblijipceaaGreatDoorSAs
import Derived.Test.YtkbikblijipceaaGreatDoorSWQ
set_option maxHeartbeats 4000000
set_option maxRecDepth 100000
set_option linter.unusedVariables false
set_option linter.unusedSimpArgs false
namespace Go.Proofs.Tryz
open Go Go.Ot
attribute [local simp] num bol txt w8 w16 w32 w64 lst cls xZ xR List.take_of_length_le
attribute [local irreducible] wpK wpS uE wH wV wN wZ xD Le
def chV (s : List UInt8) : List Int → T
 | [] => txt s
 | i :: p => .agg [num i, .ifc (wvT p) (chV s p)]
def chT (s : List UInt8) (p : List Int) : T := .ifc (wvT p) (chV s p)
def erT : Er → T
 | .ok => .v .nilIface
 | .bad p s => chT s p
@[push_cast] theorem erT_ok : erT .ok = .v .nilIface := rfl
@[push_cast] theorem erT_bad (p : List Int) (s : List UInt8) : erT (.bad p s) = chT s p := rfl
@[push_cast] theorem yHB (s : List UInt8) (p : List Int) : chT s p = .ifc (wvT p) (chV s p) := rfl
@[push_cast] theorem yEW (s : List UInt8) : chV s [] = txt s := rfl
@[push_cast] theorem chV_cons (s : List UInt8) (i : Int) (p : List Int) : chV s (i :: p) = .agg [num i, .ifc (wvT p) (chV s p)] := rfl
@[push_cast] theorem wvT_nil : wvT [] = 170 := rfl
@[push_cast] theorem wvT_cons (i : Int) (p : List Int) : wvT (i :: p) = 216 := rfl
theorem yAc (s : List UInt8) : ∀ p, (chV s p).plain = some (wvV (.string (S s)) p)
 | [] => rfl
 | i :: p => by
  have := yAc s p
  simp [chV, T.plain, T.plains, this, num, wvV]
theorem yAd (s : List UInt8) (p : List Int) : (chT s p).plain = some (wv (.string (S s)) p) := by simp [chT, T.plain, yAc, wv]
def rdD (x : Rd) : D := .tup [wA x.1, .t (erT x.2.1)]
theorem yDb (Γ : Gl) (r : List UInt8) (n : Nat) (h : n ≤ r.length) (hr : r.length ≤ 1000000) : Go.Ot.Good Γ prog 146 [.ptr (.p 0) 0, .t (num n)] [xR 167 [.t (txt (r))]] (.tup [.t (txt (r.take n)), .t (.v .nilIface)]) [some (xR 167 [.t (txt (r.drop n))])] [] := by
 refine yR F.mix func146 (by rfl) ntmps146 ?_
 refine yD (yA rfl ?_)
 iterate 2 refine yF ?_
 refine yE (yB (yC (yD (yD (yA rfl ?_)))))
 iterate 7 refine yF ?_
 refine yE (yB (yC (yJ (yL (yC (yD (yA rfl ?_)))))))
 iterate 7 refine yF ?_
 refine yE (yB (yC (yD (yA rfl ?_))))
 iterate 10 refine yF ?_
 refine yE (yB (yC (yD (yA rfl ?_))))
 iterate 3 refine yF ?_
 refine yE (yB (yC (yO ?_)))
 refine ⟨.inr rfl, yP [(.p 0, .p 0)] (by rw [results146]) ?_ ?_ ?_⟩ <;> simp
theorem yBg (Γ : Gl) (r : List UInt8) (n : Nat) (h : r.length < n) (hr : r.length ≤ 1000000) : Go.Ot.Good Γ prog 146 [.ptr (.p 0) 0, .t (num n)] [xR 167 [.t (txt (r))]] (.tup [.t (txt []), .t (chT CUT [])]) [some (xR 167 [.t (txt (r))])] [] := by
 refine yR F.mix func146 (by rfl) ntmps146 ?_
 refine yD (yA rfl ?_)
 iterate 2 refine yF ?_
 refine yE (yB (yC (yD (yD (yA rfl ?_)))))
 iterate 7 refine yF ?_
 refine yE (yB (yC (xF (yD (yA rfl ?_)))))
 iterate 3 refine yF ?_
 refine yE (yB (yC (yO (yG ?_))))
 refine ⟨.inr rfl, yP [(.p 0, .p 0)] (by rw [results146]) ?_ ?_ ?_⟩ <;> simp [yHB, yEW, wvT_nil, CUT]
theorem uX (Γ : Gl) (r : List UInt8) (n : Nat) (h : n ≤ r.length) (h8 : n ≤ 8) (hr : r.length ≤ 1000000) : Go.Ot.Good Γ prog 145 [.ptr (.p 0) 0, .t (num n)] [xR 167 [.t (txt (r))]] (.tup [.t (.v (.int .u64 (bn (r.take n)))), .t (.v .nilIface)]) [some (xR 167 [.t (txt (r.drop n))])] [] := by
 have ht : (r.take n).length = n := by simp; omega
 refine yR F.mix func145 (by rfl) ntmps145 ?_
 refine yD (yA rfl ?_)
 iterate 2 refine yF ?_
 refine yE (yB (yC (yD (yA rfl ?_))))
 iterate 2 refine yF ?_
 refine wG [.p 0] [] [] false (yDb Γ r n h hr) ?_
 iterate 5 refine yF ?_
 refine yE (yB (yC (yD (yA rfl ?_))))
 refine yF ?_
 refine yE (yB (yC (yD (yD (yA rfl ?_)))))
 iterate 3 refine yF ?_
 refine yE (yB (yC (yH ?_)))
 refine xN (fun sl L (i : Nat) => ⟨setAll (setBad sl [0, 1, 9, 10, 11, 12, 13, 14, 15, 16, 19, 20, 21, 22, 23, 24, 25, 26, 27, 28]) [(8, .t (w64 (yC3 (r.take n) i))), (18, .t (num i))], Go.Ot.look (L)⟩) (fun i => i ≤ n) (fun i => n - i) (0) (wF ?_) ?_ ?_
 ·refine yT ?_ ?_ ?_ <;> simp [yC3]
 ·(first | omega | simp)
 ·intro i hi
  refine vE ?_
  refine yD (yA rfl ?_)
  refine yF ?_
  refine yE (yB (yC (yD ?_)))
  refine vL (fun hc0 => ?_) (fun hc0 => ?_)
  ·(try simp only [zB] at hc0)
   refine yL (yC (yD (yH (yD (yA rfl ?_)))))
   iterate 2 refine yF ?_
   refine yE (yB (yC (yA rfl ?_)))
   iterate 8 refine yF ?_
   refine yE (yB (yS (yC (yA rfl ?_))))
   iterate 2 refine yF ?_
   refine yE (yB ?_)
   refine xE (i + 1) (wF ?_) ?_ ?_
   ·refine yT ?_ ?_ ?_ <;> simp [yC3]
   ·(first | omega | (simp_all <;> omega))
   ·(first | omega | (simp only []; omega))
  ·(try simp only [zB] at hc0)
   refine xQ (yM (yN (yK (yC (yD (yA rfl ?_))))))
   obtain rfl : i = n := by omega
   have hb := yAG (r.take i) i (by omega) h8
   rw [List.take_of_length_le (l := r.take i) (by omega)] at hb
   iterate 4 refine yF ?_
   refine yE (yB (yC (yO ?_)))
   refine ⟨.inr rfl, yP [(.p 0, .p 0)] (by rw [results145]) ?_ ?_ ?_⟩ <;> simp [hb]
theorem sP (Γ : Gl) (r : List UInt8) (n : Nat) (h : r.length < n) (hr : r.length ≤ 1000000) : Go.Ot.Good Γ prog 145 [.ptr (.p 0) 0, .t (num n)] [xR 167 [.t (txt (r))]] (.tup [.t (.v (.int .u64 0)), .t (chT CUT [])]) [some (xR 167 [.t (txt (r))])] [] := by
 refine yR F.mix func145 (by rfl) ntmps145 ?_
 refine yD (yA rfl ?_)
 iterate 2 refine yF ?_
 refine yE (yB (yC (yD (yA rfl ?_))))
 iterate 2 refine yF ?_
 refine wG [.p 0] [] [] false (yBg Γ r n h hr) ?_
 iterate 5 refine yF ?_
 refine yE (yB (yC (yD (yA rfl ?_))))
 refine yF ?_
 refine yE (yB (yC (yD (yD (yA rfl ?_)))))
 iterate 3 refine yF ?_
 refine yE (yB (yC (yH ?_)))
 refine xN (fun sl L (i : Unit) => ⟨setAll (setBad sl [0, 1, 9, 10, 11, 12, 13, 14, 15, 16, 19, 20, 21, 22, 23, 24, 25, 26, 27, 28]) [(8, .t (.v (.int .u64 0))), (18, .t (num 0))], Go.Ot.look (L)⟩) (fun _ => True) (fun _ => 0) (()) (wF ?_) ?_ ?_
 ·refine yT ?_ ?_ ?_ <;> simp
 ·trivial
 ·intro i _
  refine vE ?_
  refine yD (yA rfl ?_)
  refine yF ?_
  refine yE (yB (yC (yD (yJ (xQ (yM (yN (yK (yC (yD (yA rfl ?_)))))))))))
  iterate 4 refine yF ?_
  refine yE (yB (yC (yO ?_)))
  refine ⟨.inr rfl, yP [(.p 0, .p 0)] (by rw [results145]) ?_ ?_ ?_⟩ <;> simp [yHB, yEW, wvT_nil]
end Go.Proofs.Tryz

namespace Go.Proofs.Tryz
open Go Go.Ot
attribute [local simp] num bol txt w8 w16 w32 w64 lst cls xZ xR List.take_of_length_le
attribute [local irreducible] wpK wpS uE wH wV wN wZ xD Le rdS lpW rdW
theorem cP (Γ : Gl) (d : Nat) (hd6 : d ≤ 6) (deep : Bool) (hdeep : deep = true ↔ 0 < d) (sub : List UInt8 → Rd) (hsub : ∀ r, (sub r).2.2.length ≤ r.length) (IH : deep = true → ∀ r, r.length ≤ 1000000 → Go.Ot.Good Γ prog 114 [.ptr (.p 0) 0, .t (num ((d : Int) - 1))] [xR 167 [.t (txt (r))]] (rdD (sub r)) [some (xR 167 [.t (txt ((sub r).2.2))])] []) (r : List UInt8) (hr : r.length ≤ 1000000) : Go.Ot.Good Γ prog 114 [.ptr (.p 0) 0, .t (num d)] [xR 167 [.t (txt (r))]] ((rdD (rdS deep sub r))) [some (xR 167 [.t (txt ((rdS deep sub r).2.2))])] [] := by
 refine yR F.mix func114 (by rfl) ntmps114 ?_
 refine yD (yA rfl ?_)
 iterate 2 refine yF ?_
 refine yE (yB (yC (yD (yA rfl ?_))))
 have h5 : r = [] ∨ ∃ k q, r = k :: q ∧ (k = 1 ∨ k = 2 ∨ k = 3 ∨ (k.toNat ≠ 1 ∧ k.toNat ≠ 2 ∧ k.toNat ≠ 3)) := by
  rcases r with _ | ⟨k, q⟩
  ·exact .inl rfl
  ·refine .inr ⟨k, q, rfl, ?_⟩
   by_cases h1 : k = 1
   ·exact .inl h1
   ·by_cases h2 : k = 2
    ·exact .inr (.inl h2)
    ·by_cases h3 : k = 3
     ·exact .inr (.inr (.inl h3))
     ·exact .inr (.inr (.inr ⟨fun e => h1 (UInt8.toNat_inj.1 e), fun e => h2 (UInt8.toNat_inj.1 e), fun e => h3 (UInt8.toNat_inj.1 e)⟩))
 rcases h5 with rfl | ⟨k, q, rfl, rfl | rfl | rfl | hk⟩
 ·skip
  refine yF ?_
  refine wG [.p 0] [] [] false (sP Γ [] 1 (by simp) (by simp)) ?_
  iterate 5 refine yF ?_
  refine yE (yB (yC (yD (yD (yA rfl ?_)))))
  refine yF ?_
  refine tF true ?_
  refine yE (yB (yC (xF (yD (yA rfl ?_)))))
  iterate 4 refine yF ?_
  refine yE (yB (yC (yO (yG ?_))))
  refine ⟨.inr rfl, yP [(.p 0, .p 0)] (by rw [results114]) ?_ ?_ ?_⟩ <;> simp [rdD, rdS_Z, Wr.cellsL_len, wA, Wr.k, Wr.n, Wr.s, Wr.l, Wr.cellsL, erT, chT, chV, wvT, Wr.z, CUT, KS, LONGER, List.take_of_length_le]
 ·skip
  refine yF ?_
  refine wG [.p 0] [] [] false ((by have h := uX Γ (1 :: q) 1 (by simp) (by omega) hr; rw [yB0] at h; exact h)) ?_
  iterate 5 refine yF ?_
  refine yE (yB (yC (yD (yD (yA rfl ?_)))))
  refine yF ?_
  refine vP true ?_
  refine yE (yB (yC (yJ (yL (yC (yD (yA rfl ?_)))))))
  have hq : q.length ≤ 1000000 := by simp at hr; omega
  skip
  iterate 5 refine yF ?_
  refine yE (yB (yC (yD (yA rfl ?_))))
  refine yF ?_
  refine yE (yB (yC (yD (yD (yA rfl ?_)))))
  iterate 3 refine yF ?_
  refine yE (yB (yC (xF (yA rfl ?_))))
  refine yF ?_
  refine yE (yB (yC (yD (yA rfl ?_))))
  rcases Nat.lt_or_ge q.length 8 with hl | hl
  ·skip
   iterate 2 refine yF ?_
   refine wG [.p 0] [] [] false (sP Γ q 8 hl hq) ?_
   iterate 5 refine yF ?_
   refine yE (yB (yC (yD (yH (yD (yA rfl ?_))))))
   refine yF ?_
   refine tF true ?_
   refine yF ?_
   refine yE (yB (yC (xF (yL (yS (yC (yD (yA rfl ?_))))))))
   iterate 4 refine yF ?_
   refine yE (yB (yC (yO ?_)))
   refine ⟨.inr rfl, yP [(.p 0, .p 0)] (by rw [results114]) ?_ ?_ ?_⟩ <;> simp [rdD, rdS_1c hl, Wr.cellsL_len, wA, Wr.k, Wr.n, Wr.s, Wr.l, Wr.cellsL, erT, chT, chV, wvT, Wr.z, CUT, KS, LONGER, List.take_of_length_le]
  ·skip
   iterate 2 refine yF ?_
   refine wG [.p 0] [] [] false (uX Γ q 8 hl (by omega) hq) ?_
   iterate 5 refine yF ?_
   refine yE (yB (yC (yD (yH (yD (yA rfl ?_))))))
   refine yF ?_
   refine vP true ?_
   refine yF ?_
   refine yE (yB (yC (yJ (yD (yA rfl ?_)))))
   iterate 4 refine yF ?_
   refine yE (yB (yC (xF (yA rfl ?_))))
   refine yF ?_
   refine yF (hs := by (simp only [push_cast, wrap_i64 (bn_le q 8 (by omega))] <;> rfl)) ?_
   iterate 2 refine yF ?_
   refine yE (yB (yS (yC (yD (yA rfl ?_)))))
   iterate 4 refine yF ?_
   refine yE (yB (yC (yO ?_)))
   refine ⟨.inr rfl, yP [(.p 0, .p 0)] (by rw [results114]) ?_ ?_ ?_⟩ <;> simp [rdD, rdS_1 hl, Wr.cellsL_len, wA, Wr.k, Wr.n, Wr.s, Wr.l, Wr.cellsL, erT, chT, chV, wvT, Wr.z, CUT, KS, LONGER, List.take_of_length_le]
 ·skip
  refine yF ?_
  refine wG [.p 0] [] [] false ((by have h := uX Γ (2 :: q) 1 (by simp) (by omega) hr; rw [yB0] at h; exact h)) ?_
  iterate 5 refine yF ?_
  refine yE (yB (yC (yD (yD (yA rfl ?_)))))
  refine yF ?_
  refine vP true ?_
  refine yE (yB (yC (yJ (yL (yC (yD (yA rfl ?_)))))))
  have hq : q.length ≤ 1000000 := by simp at hr; omega
  skip
  iterate 5 refine yF ?_
  refine yE (yB (yC (yD (yA rfl ?_))))
  refine yF ?_
  refine yE (yB (yC (yD (yD (yA rfl ?_)))))
  iterate 3 refine yF ?_
  refine yE (yB (yC (yJ (yL (yC (yD (yA rfl ?_)))))))
  rcases Nat.lt_or_ge q.length 4 with hl | hl
  ·skip
   iterate 2 refine yF ?_
   refine wG [.p 0] [] [] false (sP Γ q 4 hl hq) ?_
   iterate 5 refine yF ?_
   refine yE (yB (yC (yD (yH (yD (yA rfl ?_))))))
   refine yF ?_
   refine tF true ?_
   refine yF ?_
   refine yE (yB (yC (xF (yL (yS (yC (yD (yA rfl ?_))))))))
   iterate 4 refine yF ?_
   refine yE (yB (yC (yO ?_)))
   refine ⟨.inr rfl, yP [(.p 0, .p 0)] (by rw [results114]) ?_ ?_ ?_⟩ <;> simp [rdD, yIq (k := 2) (by simp) hl, Wr.cellsL_len, wA, Wr.k, Wr.n, Wr.s, Wr.l, Wr.cellsL, erT, chT, chV, wvT, Wr.z, CUT, KS, LONGER, List.take_of_length_le]
  ·skip
   iterate 2 refine yF ?_
   refine wG [.p 0] [] [] false (uX Γ q 4 hl (by omega) hq) ?_
   iterate 5 refine yF ?_
   refine yE (yB (yC (yD (yH (yD (yA rfl ?_))))))
   refine yF ?_
   refine vP true ?_
   refine yF ?_
   refine yE (yB (yC (yJ (yD (yA rfl ?_)))))
   iterate 4 refine yF ?_
   refine yE (yB (yC (yJ (yD (yA rfl ?_)))))
   have hb4 := bn4 q
   rcases Nat.lt_or_ge 1048576 (bn (q.take 4)) with hb | hb
   ·skip
    iterate 4 refine yF ?_
    iterate 2 refine xB ?_
    iterate 2 refine yF ?_
    refine yE (yB (yC (yJ (yD (yA rfl ?_)))))
    skip
    iterate 4 refine yF ?_
    iterate 2 refine wJ ?_
    iterate 2 refine yF ?_
    iterate 2 refine wJ ?_
    iterate 2 refine yF ?_
    refine yE (yB (yC (yJ (yA rfl ?_))))
    iterate 2 refine yF ?_
    refine yE (yB (yS (yC (yD (yA rfl ?_)))))
    iterate 4 refine yF ?_
    refine yE (yB (yC (yO ?_)))
    refine ⟨.inr rfl, yP [(.p 0, .p 0)] (by rw [results114]) ?_ ?_ ?_⟩ <;> simp [rdD, rdS_2g hl hb, Wr.cellsL_len, wA, Wr.k, Wr.n, Wr.s, Wr.l, Wr.cellsL, erT, chT, chV, wvT, Wr.z, CUT, KS, LONGER, List.take_of_length_le]
   ·skip
    iterate 4 refine yF ?_
    iterate 2 refine xB ?_
    iterate 2 refine yF ?_
    refine yE (yB (yC (xF (yA rfl ?_))))
    rcases Nat.lt_or_ge (q.drop 4).length (bn (q.take 4)) with ht | ht
    ·skip
     iterate 3 refine yF ?_
     refine wG [.p 0] [] [] false (yBg Γ (q.drop 4) (bn (q.take 4)) ht (by simp; omega)) ?_
     iterate 6 refine yF ?_
     refine yE (yB (yS (yC (yD (yA rfl ?_)))))
     iterate 4 refine yF ?_
     refine yE (yB (yC (yO ?_)))
     refine ⟨.inr rfl, yP [(.p 0, .p 0)] (by rw [results114]) ?_ ?_ ?_⟩ <;> simp [rdD, rdS_2u hl hb ht, Wr.cellsL_len, wA, Wr.k, Wr.n, Wr.s, Wr.l, Wr.cellsL, erT, chT, chV, wvT, Wr.z, CUT, KS, LONGER, List.take_of_length_le]
    ·skip
     iterate 3 refine yF ?_
     refine wG [.p 0] [] [] false (yDb Γ (q.drop 4) (bn (q.take 4)) ht (by simp; omega)) ?_
     iterate 6 refine yF ?_
     refine yE (yB (yS (yC (yD (yA rfl ?_)))))
     iterate 4 refine yF ?_
     refine yE (yB (yC (yO ?_)))
     refine ⟨.inr rfl, yP [(.p 0, .p 0)] (by rw [results114]) ?_ ?_ ?_⟩ <;> simp [rdD, rdS_2t hl hb ht, Wr.cellsL_len, wA, Wr.k, Wr.n, Wr.s, Wr.l, Wr.cellsL, erT, chT, chV, wvT, Wr.z, CUT, KS, LONGER, List.take_of_length_le]
 ·skip
  refine yF ?_
  refine wG [.p 0] [] [] false ((by have h := uX Γ (3 :: q) 1 (by simp) (by omega) hr; rw [yB0] at h; exact h)) ?_
  iterate 5 refine yF ?_
  refine yE (yB (yC (yD (yD (yA rfl ?_)))))
  refine yF ?_
  refine vP true ?_
  refine yE (yB (yC (yJ (yL (yC (yD (yA rfl ?_)))))))
  have hq : q.length ≤ 1000000 := by simp at hr; omega
  skip
  iterate 5 refine yF ?_
  refine yE (yB (yC (yD (yA rfl ?_))))
  refine yF ?_
  refine yE (yB (yC (yD (yD (yA rfl ?_)))))
  iterate 3 refine yF ?_
  refine yE (yB (yC (yJ (yL (yC (yD (yA rfl ?_)))))))
  rcases Nat.lt_or_ge q.length 4 with hl | hl
  ·skip
   iterate 2 refine yF ?_
   refine wG [.p 0] [] [] false (sP Γ q 4 hl hq) ?_
   iterate 5 refine yF ?_
   refine yE (yB (yC (yD (yH (yD (yA rfl ?_))))))
   refine yF ?_
   refine tF true ?_
   refine yF ?_
   refine yE (yB (yC (xF (yL (yS (yC (yD (yA rfl ?_))))))))
   iterate 4 refine yF ?_
   refine yE (yB (yC (yO ?_)))
   refine ⟨.inr rfl, yP [(.p 0, .p 0)] (by rw [results114]) ?_ ?_ ?_⟩ <;> simp [rdD, yIq (k := 3) (by simp) hl, Wr.cellsL_len, wA, Wr.k, Wr.n, Wr.s, Wr.l, Wr.cellsL, erT, chT, chV, wvT, Wr.z, CUT, KS, LONGER, List.take_of_length_le]
  ·skip
   iterate 2 refine yF ?_
   refine wG [.p 0] [] [] false (uX Γ q 4 hl (by omega) hq) ?_
   iterate 5 refine yF ?_
   refine yE (yB (yC (yD (yH (yD (yA rfl ?_))))))
   refine yF ?_
   refine vP true ?_
   refine yF ?_
   refine yE (yB (yC (yJ (yD (yA rfl ?_)))))
   iterate 4 refine yF ?_
   refine yE (yB (yC (yJ (yD (yA rfl ?_)))))
   have hb4 := bn4 q
   iterate 4 refine yF ?_
   iterate 2 refine wJ ?_
   iterate 2 refine yF ?_
   refine yE (yB (yC (yJ (yD (yA rfl ?_)))))
   have h3 : (65536 < bn (q.take 4) ∧ ¬ (bn (q.take 4) ≤ 65536 ∧ deep = true)) ∨ ((bn (q.take 4) ≤ 65536 ∧ d = 0) ∧ ¬ (bn (q.take 4) ≤ 65536 ∧ deep = true)) ∨ ((bn (q.take 4) ≤ 65536 ∧ 0 < d) ∧ deep = true) := by
    rcases Nat.lt_or_ge 65536 (bn (q.take 4)) with h1 | h1
    ·exact .inl ⟨h1, fun h => by omega⟩
    ·rcases Nat.eq_zero_or_pos d with h2 | h2
     ·exact .inr (.inl ⟨⟨h1, h2⟩, fun h => by have := hdeep.1 h.2; omega⟩)
     ·exact .inr (.inr ⟨⟨h1, h2⟩, hdeep.2 h2⟩)
   rcases h3 with ⟨hb0, hb⟩ | ⟨⟨hb0, hd0⟩, hb⟩ | ⟨hb, hdp⟩
   ·skip
    iterate 4 refine yF ?_
    iterate 2 refine xB ?_
    iterate 2 refine yF ?_
    iterate 2 refine wJ ?_
    iterate 2 refine yF ?_
    refine yE (yB (yC (yJ (yA rfl ?_))))
    iterate 2 refine yF ?_
    refine yE (yB (yS (yC (yD (yA rfl ?_)))))
    iterate 4 refine yF ?_
    refine yE (yB (yC (yO ?_)))
    refine ⟨.inr rfl, yP [(.p 0, .p 0)] (by rw [results114]) ?_ ?_ ?_⟩ <;> simp [rdD, yHn hl hb, Wr.cellsL_len, wA, Wr.k, Wr.n, Wr.s, Wr.l, Wr.cellsL, erT, chT, chV, wvT, Wr.z, CUT, KS, LONGER, List.take_of_length_le]
   ·skip
    iterate 4 refine yF ?_
    iterate 2 refine xB ?_
    iterate 2 refine yF ?_
    iterate 2 refine xB ?_
    iterate 2 refine yF ?_
    refine yE (yB (yC (yJ (yA rfl ?_))))
    iterate 2 refine yF ?_
    refine yE (yB (yS (yC (yD (yA rfl ?_)))))
    iterate 4 refine yF ?_
    refine yE (yB (yC (yO ?_)))
    refine ⟨.inr rfl, yP [(.p 0, .p 0)] (by rw [results114]) ?_ ?_ ?_⟩ <;> simp [rdD, yHn hl hb, Wr.cellsL_len, wA, Wr.k, Wr.n, Wr.s, Wr.l, Wr.cellsL, erT, chT, chV, wvT, Wr.z, CUT, KS, LONGER, List.take_of_length_le]
   ·skip
    iterate 4 refine yF ?_
    iterate 2 refine xB ?_
    iterate 2 refine yF ?_
    iterate 2 refine xB ?_
    iterate 2 refine yF ?_
    refine yE (yB (yC (xF (yD (yA rfl ?_)))))
    refine yF ?_
    refine yE (yB (yC (yH ?_)))
    refine xN (fun sl L (i : Nat) => ⟨setAll (setBad sl [6, 9, 12, 13, 14, 15, 16, 17, 18, 19, 20, 21, 22, 23, 24, 25, 26, 27, 28, 29, 30, 31, 32, 33, 35, 36, 37, 38, 39, 40, 41, 42, 43, 44, 45, 46, 47, 48, 49, 50, 51, 52, 53, 54, 55, 56, 57, 58, 59, 60, 61, 62, 63, 64, 65, 66, 67, 68, 69, 70, 71, 72, 73, 74, 75, 76, 77, 78, 79, 80, 81, 82, 83, 84, 85, 86, 87, 88, 89, 90, 91, 92, 93, 94, 95, 96, 97, 98, 99, 100, 101]) [(7, .t (erT (lpW sub (q.drop 4) i).2.1)), (11, .t (num i))], Go.Ot.look (vD (.r 4 3 0) (xR 94 [.t (num 3), .t (num 0), .t (txt []), .msl (.n 9) 0 (lpW sub (q.drop 4) i).1.length 4]) (vD (.n 9) ⟨(Wr.cellsL (lpW sub (q.drop 4) i).1).map .t, 94, true, true⟩ (vD (.p 0) (xR 167 [.t (txt ((lpW sub (q.drop 4) i).2.2))]) L)))⟩) (fun i => i ≤ (bn (q.take 4))) (fun i => (bn (q.take 4)) - i) (0) (wF ?_) ?_ ?_
    ·refine wL [(.r 0 0 0, .r 0 0 0), (.r 4 3 0, .r 4 3 0), (.p 0, .p 0)] ?_ ?_ ?_ <;> simp [rdD, lpW, Wr.cellsL_len, wA, Wr.k, Wr.n, Wr.s, Wr.l, Wr.cellsL, erT, chT, chV, wvT, Wr.z, CUT, KS, LONGER]
    ·(first | omega | simp)
    ·intro i hi
     have h3 : (∃ l rr, lpW sub (q.drop 4) i = (l, .ok, rr) ∧ i < (bn (q.take 4))) ∨ i = (bn (q.take 4)) ∨ (∃ l p s rr, lpW sub (q.drop 4) i = (l, .bad p s, rr) ∧ i < (bn (q.take 4))) := by
      rcases Nat.lt_or_ge i (bn (q.take 4)) with h1 | h1
      ·rcases h : lpW sub (q.drop 4) i with ⟨l, _ | ⟨p, s⟩, rr⟩
       ·exact .inl ⟨l, rr, rfl, h1⟩
       ·exact .inr (.inr ⟨l, p, s, rr, rfl, h1⟩)
      ·exact .inr (.inl (by omega))
     rcases h3 with ⟨l, rr, he, hiN⟩ | hiN | ⟨l, p, s, rr, he, hiN⟩
     all_goals (have hll := yD4 sub (q.drop 4) i)
     all_goals (try (rw [he] at hll; dsimp only at hll; simp only [he]))
     ·refine vE ?_
      refine yD (yD (yA rfl ?_))
      iterate 5 refine yF ?_
      refine xB ?_
      refine yC0 false ?_
      refine yF ?_
      refine yE (yB (yC (xF (yL (yC (yD (yH (yD (yA rfl ?_)))))))))
      refine yF ?_
      refine yE (yB (yC (yD (yD (yA rfl ?_)))))
      rcases hx : sub rr with ⟨⟨xk, xn, xs, xl⟩, _ | ⟨p, s⟩, r2⟩
      ·skip
       iterate 3 refine yF ?_
       refine wG [.p 0] [] [] true ((by have h := IH hdp rr (by have := yBL hsub (q.drop 4) i; rw [he] at this; simp at this; omega); rw [hx] at h; exact h)) ?_
       iterate 5 refine yF ?_
       refine yE (yB (yC (yD (yA rfl ?_))))
       refine yF ?_
       refine vP true ?_
       refine yE (yB (yC (yJ (yL (yC (yA rfl ?_))))))
       iterate 7 refine yF ?_
       refine yE (yB (yS (yC (yA rfl ?_))))
       iterate 3 refine yF ?_
       refine yE (yB ?_)
       refine xE (i + 1) (wF ?_) ?_ ?_
       ·refine wL [(.r 0 0 0, .r 0 0 0), (.r 4 3 0, .r 4 3 0), (.p 0, .p 0), (.n 9, .n 9)] ?_ ?_ ?_ <;> simp [rdD, yBI he hx, Er.within, uZ, wC, Wr.cellsL_len, wA, Wr.k, Wr.n, Wr.s, Wr.l, Wr.cellsL, erT, chT, chV, wvT, Wr.z, CUT, KS, LONGER]
       ·(first | omega | (simp_all <;> omega))
       ·(first | omega | (simp only []; omega))
      ·skip
       iterate 3 refine yF ?_
       refine wG [.p 0] [] [] true ((by have h := IH hdp rr (by have := yBL hsub (q.drop 4) i; rw [he] at this; simp at this; omega); rw [hx] at h; exact h)) ?_
       iterate 5 refine yF ?_
       refine yE (yB (yC (yD (yA rfl ?_))))
       refine yF ?_
       refine tF true ?_
       refine yE (yB (yC (xF (yA rfl ?_))))
       iterate 5 refine yF ?_
       refine yE (yB (yC (yA rfl ?_)))
       iterate 7 refine yF ?_
       refine yE (yB (yS (yC (yA rfl ?_))))
       iterate 3 refine yF ?_
       refine yE (yB ?_)
       refine xE (i + 1) (wF ?_) ?_ ?_
       ·refine wL [(.r 0 0 0, .r 0 0 0), (.r 4 3 0, .r 4 3 0), (.p 0, .p 0), (.n 9, .n 9)] ?_ ?_ ?_ <;> simp [rdD, yBI he hx, Er.within, uZ, wC, Wr.cellsL_len, wA, Wr.k, Wr.n, Wr.s, Wr.l, Wr.cellsL, erT, chT, chV, wvT, Wr.z, CUT, KS, LONGER]
       ·(first | omega | (simp_all <;> omega))
       ·(first | omega | (simp only []; omega))
     ·refine vE ?_
      refine yD (yD (yA rfl ?_))
      iterate 5 refine yF ?_
      iterate 2 refine wJ ?_
      refine yF ?_
      refine yE (yB (yC (yJ (xQ (yM (yN (yK (yS (yC (yD (yA rfl ?_)))))))))))
      iterate 4 refine yF ?_
      refine yE (yB (yC (yO ?_)))
      refine ⟨.inr rfl, yP [(.p 0, .p 0)] (by rw [results114]) ?_ ?_ ?_⟩ <;> simp [rdD, yHo hl ⟨hb.1, hdp⟩, hiN.symm, Wr.cellsL_len, wA, Wr.k, Wr.n, Wr.s, Wr.l, Wr.cellsL, erT, chT, chV, wvT, Wr.z, CUT, KS, LONGER, List.take_of_length_le]
     ·refine vE ?_
      refine yD (yD (yA rfl ?_))
      iterate 5 refine yF ?_
      refine xB ?_
      refine gN false ?_
      refine yF ?_
      refine yE (yB (yC (yJ (xQ (yM (yN (yK (yS (yC (yD (yA rfl ?_)))))))))))
      iterate 4 refine yF ?_
      refine yE (yB (yC (yO ?_)))
      refine ⟨.inr rfl, yP [(.p 0, .p 0)] (by rw [results114]) ?_ ?_ ?_⟩ <;> simp [rdD, yHo hl ⟨hb.1, hdp⟩, yD3 he (Nat.le_of_lt hiN), Wr.cellsL_len, wA, Wr.k, Wr.n, Wr.s, Wr.l, Wr.cellsL, erT, chT, chV, wvT, Wr.z, CUT, KS, LONGER, List.take_of_length_le]
 ·skip
  refine yF ?_
  refine wG [.p 0] [] [] false ((by have h := uX Γ (k :: q) 1 (by simp) (by omega) hr; rw [yB0] at h; exact h)) ?_
  iterate 5 refine yF ?_
  refine yE (yB (yC (yD (yD (yA rfl ?_)))))
  refine yF ?_
  refine vP true ?_
  refine yE (yB (yC (yJ (yL (yC (yD (yA rfl ?_)))))))
  have hq : q.length ≤ 1000000 := by simp at hr; omega
  have hk8 := UInt8.toNat_lt k
  iterate 5 refine yF ?_
  refine yE (yB (yC (yD (yA rfl ?_))))
  refine yF ?_
  refine yE (yB (yC (yD (yD (yA rfl ?_)))))
  iterate 3 refine yF ?_
  refine yE (yB (yC (yJ (yL (yC (yD (yA rfl ?_)))))))
  rcases Nat.lt_or_ge q.length 4 with hl | hl
  ·skip
   iterate 2 refine yF ?_
   refine wG [.p 0] [] [] false (sP Γ q 4 hl hq) ?_
   iterate 5 refine yF ?_
   refine yE (yB (yC (yD (yH (yD (yA rfl ?_))))))
   refine yF ?_
   refine tF true ?_
   refine yF ?_
   refine yE (yB (yC (xF (yL (yS (yC (yD (yA rfl ?_))))))))
   iterate 4 refine yF ?_
   refine yE (yB (yC (yO ?_)))
   refine ⟨.inr rfl, yP [(.p 0, .p 0)] (by rw [results114]) ?_ ?_ ?_⟩ <;> simp [rdD, yIq (k := k) (by exact hk.1) hl, Wr.cellsL_len, wA, Wr.k, Wr.n, Wr.s, Wr.l, Wr.cellsL, erT, chT, chV, wvT, Wr.z, CUT, KS, LONGER, List.take_of_length_le]
  ·skip
   iterate 2 refine yF ?_
   refine wG [.p 0] [] [] false (uX Γ q 4 hl (by omega) hq) ?_
   iterate 5 refine yF ?_
   refine yE (yB (yC (yD (yH (yD (yA rfl ?_))))))
   refine yF ?_
   refine vP true ?_
   refine yF ?_
   refine yE (yB (yC (yJ (yD (yA rfl ?_)))))
   iterate 4 refine yF ?_
   refine yE (yB (yC (yJ (yD (yA rfl ?_)))))
   have hb4 := bn4 q
   iterate 4 refine yF ?_
   iterate 2 refine wJ ?_
   iterate 2 refine yF ?_
   refine yE (yB (yC (yJ (yD (yA rfl ?_)))))
   skip
   iterate 4 refine yF ?_
   iterate 2 refine wJ ?_
   iterate 2 refine yF ?_
   iterate 2 refine wJ ?_
   iterate 2 refine yF ?_
   refine yE (yB (yC (yJ (yA rfl ?_))))
   iterate 2 refine yF ?_
   refine yE (yB (yS (yC (yD (yA rfl ?_)))))
   iterate 4 refine yF ?_
   refine yE (yB (yC (yO ?_)))
   refine ⟨.inr rfl, yP [(.p 0, .p 0)] (by rw [results114]) ?_ ?_ ?_⟩ <;> simp [rdD, rdS_o hk hl, Wr.cellsL_len, wA, Wr.k, Wr.n, Wr.s, Wr.l, Wr.cellsL, erT, chT, chV, wvT, Wr.z, CUT, KS, LONGER, List.take_of_length_le]
end Go.Proofs.Tryz

namespace Go.Proofs.Tryz
open Go Go.Ot
theorem yEp {s : List UInt8} {W : Wr} (h : rdW 6 s = (W, .ok, [])) : got s = some W := by
 have := rdW_get 6 s
 rw [h] at this
 simp only [got, ← this, okR]
theorem yCE {s : List UInt8} {W : Wr} {a : UInt8} {r : List UInt8} (h : rdW 6 s = (W, .ok, a :: r)) : got s = none := by
 have := rdW_get 6 s
 rw [h] at this
 simp only [got, ← this, okR]
theorem yCF {s : List UInt8} {W : Wr} {p : List Int} {t r : List UInt8} (h : rdW 6 s = (W, .bad p t, r)) : got s = none := by
 have := rdW_get 6 s
 rw [h] at this
 simp only [got, ← this, okR]
def ixF (p : Wr → Bool) (l : List Wr) : Int := match l.findIdx? p with | some i => (i : Int) | none => -1
theorem yGj {p : Wr → Bool} {l : List Wr} {i : Nat} (hi : i < l.length) (h : (l.take i).any p = false) (hp : p (l.getD i default) = true) : ixF p l = i := by
 have e : l.findIdx? p = some i := by
  rw [List.findIdx?_eq_some_iff_getElem]
  refine ⟨hi, by simpa [List.getD_eq_getElem?_getD, List.getElem?_eq_getElem hi] using hp, fun j hj => ?_⟩
  rw [List.any_eq_false] at h
  have := h l[j] (by rw [List.mem_take_iff_getElem]; exact ⟨j, by omega, rfl⟩)
  simpa using this
 rw [ixF, e]
theorem yGk {p : Wr → Bool} {l : List Wr} (h : l.any p = false) : ixF p l = -1 := by
 have e : l.findIdx? p = none := by rw [List.findIdx?_eq_none_iff]; intro x hx; rw [List.any_eq_false] at h; simpa using h x hx
 rw [ixF, e]
theorem yIP (p : Wr → Bool) (l : List Wr) : decide (0 ≤ ixF p l) = l.any p := by
 rw [ixF]
 cases e : l.findIdx? p with
 | none =>
  rw [List.findIdx?_eq_none_iff] at e
  have : l.any p = false := by rw [List.any_eq_false]; intro x hx; simp [e x hx]
  rw [this]; rfl
 | some i =>
  have hs : (l.findIdx? p).isSome = true := by rw [e]; rfl
  rw [List.findIdx?_isSome] at hs
  rw [hs]; simp
theorem yG4 {p : Wr → Bool} {l : List Wr} {i : Nat} (hi : i < l.length) (h : (l.take i).any p = false) (hp : p (l.getD i default) = false) : (l.take (i + 1)).any p = false := by
 rw [List.take_add_one, List.getElem?_eq_getElem hi]
 have : l.getD i default = l[i] := by simp [List.getD_eq_getElem?_getD, List.getElem?_eq_getElem hi]
 rw [this] at hp
 rw [List.any_append, h]
 simp [hp]
theorem uR {l : List Wr} {i : Nat} (h : i < l.length) : l.getD i default ∈ l := by simp [List.getD_eq_getElem?_getD, List.getElem?_eq_getElem h]
theorem tA {s : List UInt8} (h : s ≠ []) : (s == []) = false := by cases s with | nil => exact absurd rfl h | cons a s => rfl
theorem yD0 {deep : Bool} {sub : Wr → Bool} {k n : Int} {s : List UInt8} {l : List Wr} (h : k ≠ 1 ∧ k ≠ 2 ∧ k ≠ 3) : tB deep sub (.mk k n s l) = false := by simp [tB, h]
theorem isE {α : Type} (l : List α) : l.isEmpty = decide (l.length = 0) := by cases l <;> rfl
theorem isB (s : List UInt8) : s.isEmpty = (s == []) := by cases s <;> rfl
theorem jX {deep : Bool} {sub : Wr → Bool} {n : Int} {s : List UInt8} {l : List Wr} : tB deep sub (.mk 1 n s l) = ((s == []) && decide (l.length = 0)) := by simp only [tB, if_true, isB s, isE l]
theorem sR {deep : Bool} {sub : Wr → Bool} {n : Int} {s : List UInt8} {l : List Wr} : tB deep sub (.mk 2 n s l) = (decide (n = 0) && decide (l.length = 0) && decide (s.length ≤ 1048576)) := by simp only [tB, show ((2 : Int) = 1) = False from by simp, if_false, if_true, isE l]
theorem uY {deep : Bool} {sub : Wr → Bool} {n : Int} {s : List UInt8} {l : List Wr} : tB deep sub (.mk 3 n s l) = (deep && decide (n = 0) && (s == []) && decide (l.length ≤ 65536) && l.all sub) := by simp only [tB, show ((3 : Int) = 1) = False from by simp, show ((3 : Int) = 2) = False from by simp, if_false, if_true, isB s]
theorem yJx (sub : Wr → Bool) (l : List Wr) : (!(l.any fun x => !sub x)) = l.all sub := by induction l with | nil => rfl | cons a l ih => simp only [List.any_cons, List.all_cons, Bool.not_or, Bool.not_not, ih]
theorem nU (Γ : Gl) : ∀ (d : Nat), d ≤ 6 → ∀ r, r.length ≤ 1000000 → Go.Ot.Good Γ prog 114 [.ptr (.p 0) 0, .t (num d)] [xR 167 [.t (txt r)]] (rdD (rdW d r)) [some (xR 167 [.t (txt (rdW d r).2.2)])] []
 | 0, h, r, hr => cP Γ 0 h false (by simp) _ (fun r => Nat.le_refl _) (fun h => by cases h) r hr
 | d + 1, h, r, hr => cP Γ (d + 1) h true (by simp) (rdW d) (rdW_le d) (fun _ r hr => by
   have := nU Γ d (by omega) r hr
   rwa [show ((d + 1 : Nat) : Int) - 1 = (d : Int) from by omega]) r hr
attribute [local simp] num bol txt w8 w16 w32 w64 lst cls xZ xR List.take_of_length_le
attribute [local irreducible] wpK wpS uE wH wV wN wZ xD Le rdS lpW rdW got
theorem Get_ok (Γ : Gl) (hE : EG Γ) (s : List UInt8) (hs : s.length ≤ 1000000) (W : Wr) (hx : rdW 6 s = (W, .ok, [])) : Go.Ot.Good Γ prog 61 [.t (txt s)] [] (.tup [wA W, .t (bol true)]) [] [] := by
 refine yR F.mix func61 (by rfl) ntmps61 ?_
 refine yD (yA rfl ?_)
 iterate 2 refine yF ?_
 refine yE (yB (yC (yD (yA rfl ?_))))
 iterate 4 refine yF ?_
 refine yE (yB (yC (yD (yA rfl ?_))))
 refine yF ?_
 refine wG [.r 1 2 0] [] [] true (by have h := nU Γ 6 (by omega) s hs; rw [hx] at h; exact h) ?_
 iterate 6 refine yF ?_
 refine yE (yB (yC (yD (yD (yA rfl ?_)))))
 refine yF ?_
 refine vP false ?_
 refine yF ?_
 iterate 5 refine xB ?_
 refine yF ?_
 refine yE (yB (yC (yJ (yL (yC (yD (yA rfl ?_)))))))
 refine yF ?_
 refine yE (yB (yC (yD (yD (yA rfl ?_)))))
 iterate 2 refine yF ?_
 refine wG [.r 5 0 0] [] [] false (Asnil_good Γ (.v (.string ⟨#[]⟩))) ?_
 refine yE (yB (yC (yJ (yL (yC (yD (yA rfl ?_)))))))
 iterate 3 refine yF ?_
 refine yE (yB (yC (yO ?_)))
 refine ⟨.inr rfl, yP [] (by rw [results61]) ?_ ?_ ?_⟩ <;> simp [Wr.cellsL_len, wA, Wr.k, Wr.n, Wr.s, Wr.l, Wr.cellsL, erT, chT, chV, wvT, Wr.z, CUT, KS, LONGER]
theorem yJJ (Γ : Gl) (hE : EG Γ) (s : List UInt8) (hs : s.length ≤ 1000000) (W : Wr) (a : UInt8) (r : List UInt8) (hx : rdW 6 s = (W, .ok, a :: r)) : Go.Ot.Good Γ prog 61 [.t (txt s)] [] (.tup [wA Wr.z, .t (bol false)]) [] [] := by
 have hne : ((a :: r) == ([] : List UInt8)) = false := rfl
 refine yR F.mix func61 (by rfl) ntmps61 ?_
 refine yD (yA rfl ?_)
 iterate 2 refine yF ?_
 refine yE (yB (yC (yD (yA rfl ?_))))
 iterate 4 refine yF ?_
 refine yE (yB (yC (yD (yA rfl ?_))))
 refine yF ?_
 refine wG [.r 1 2 0] [] [] true (by have h := nU Γ 6 (by omega) s hs; rw [hx] at h; exact h) ?_
 iterate 6 refine yF ?_
 refine yE (yB (yC (yD (yD (yA rfl ?_)))))
 refine yF ?_
 refine vP false ?_
 refine yF ?_
 iterate 4 refine xB ?_
 refine xB (hs := by (simp only [push_cast, hne] <;> rfl)) ?_
 refine yF ?_
 refine yE (yB (yC (xF (yA rfl ?_))))
 iterate 2 refine yF ?_
 refine yE (yB (yC (yD (yA rfl ?_))))
 refine yF ?_
 refine yE (yB (yC (yD (yD (yA rfl ?_)))))
 iterate 2 refine yF ?_
 refine wG [.r 5 0 0] [] [] false ((As_good Γ hE [] [108, 111, 110, 103, 101, 114] (.v (.string ⟨#[]⟩))).plain1 (yAd [108, 111, 110, 103, 101, 114] [])) ?_
 refine yE (yB (yC (xF (yD (yA rfl ?_)))))
 iterate 3 refine yF ?_
 refine yE (yB (yC (yO (yG ?_))))
 refine ⟨.inr rfl, yP [] (by rw [results61]) ?_ ?_ ?_⟩ <;> simp [Wr.cellsL_len, wA, Wr.k, Wr.n, Wr.s, Wr.l, Wr.cellsL, erT, chT, chV, wvT, Wr.z, CUT, KS, LONGER]
theorem yJK (Γ : Gl) (hE : EG Γ) (s : List UInt8) (hs : s.length ≤ 1000000) (W : Wr) (p : List Int) (t r : List UInt8) (hx : rdW 6 s = (W, .bad p t, r)) : Go.Ot.Good Γ prog 61 [.t (txt s)] [] (.tup [wA Wr.z, .t (bol false)]) [] [] := by
 refine yR F.mix func61 (by rfl) ntmps61 ?_
 refine yD (yA rfl ?_)
 iterate 2 refine yF ?_
 refine yE (yB (yC (yD (yA rfl ?_))))
 iterate 4 refine yF ?_
 refine yE (yB (yC (yD (yA rfl ?_))))
 refine yF ?_
 refine wG [.r 1 2 0] [] [] true (by have h := nU Γ 6 (by omega) s hs; rw [hx] at h; exact h) ?_
 iterate 6 refine yF ?_
 refine yE (yB (yC (yD (yD (yA rfl ?_)))))
 refine yF ?_
 refine tF false ?_
 refine yF ?_
 iterate 5 refine wJ ?_
 refine yF ?_
 refine yE (yB (yC (yJ (yL (yC (yD (yA rfl ?_)))))))
 refine yF ?_
 refine yE (yB (yC (yD (yD (yA rfl ?_)))))
 iterate 2 refine yF ?_
 refine wG [.r 5 0 0] [] [] false ((As_good Γ hE p t (.v (.string ⟨#[]⟩))).plain1 (yAd t p)) ?_
 refine yE (yB (yC (xF (yD (yA rfl ?_)))))
 iterate 3 refine yF ?_
 refine yE (yB (yC (yO (yG ?_))))
 refine ⟨.inr rfl, yP [] (by rw [results61]) ?_ ?_ ?_⟩ <;> simp [Wr.cellsL_len, wA, Wr.k, Wr.n, Wr.s, Wr.l, Wr.cellsL, erT, chT, chV, wvT, Wr.z, CUT, KS, LONGER]
theorem qX (Γ : Gl) (hE : EG Γ) (s : List UInt8) (hs : s.length ≤ 1000000) : Go.Ot.Good Γ prog 61 [.t (txt s)] [] (.tup [wA ((got s).getD Wr.z), .t (bol (got s).isSome)]) [] [] := by
 rcases hx : rdW 6 s with ⟨W, _ | ⟨p, t⟩, r⟩
 ·rcases r with _ | ⟨a, r⟩
  ·rw [yEp hx]; exact Get_ok Γ hE s hs W hx
  ·rw [yCE hx]; exact yJJ Γ hE s hs W a r hx
 ·rw [yCF hx]; exact yJK Γ hE s hs W p t r hx
end Go.Proofs.Tryz
