/- Contracts of this program's functions. -/
import Derived.Test.YtkbikblijipceaaGreatDoorSR3
set_option maxHeartbeats 4000000
set_option maxRecDepth 100000
set_option linter.unusedVariables false
set_option linter.unusedSimpArgs false
namespace Go.Proofs.Tryz
open Go Go.Ot
attribute [local simp] num bol txt w8 w16 w32 w64 lst cls wE xZ List.take_of_length_le
attribute [local irreducible] wpK wpS uI wH wW wM vC xB Le rdS lpW rdW got tB mayW ixF
theorem yCf (Γ : Gl) (l : List Wr) (hl : l.length ≤ 65536) (d : Int) (p : Wr → Bool) (hf : ∀ w ∈ l, Go.Ot.Good Γ prog 164 [wA w, .ptr (.p 0) 0] [xZ 3 [.t (num d)]] (.t (bol (p w))) [some (xZ 3 [.t (num d)])] []) : Go.Ot.Good Γ prog 171 [wS l, .fn 164 [.ptr (.p 0) 0]] [xZ 3 [.t (num d)]] (.t (num (ixF p l))) [some (xZ 3 [.t (num d)])] [] := by
 refine yR F.mix func171 (by rfl) ntmps171 ?_
 refine yD (yA rfl ?_)
 refine yF ?_
 refine yE (yB (yC (yD (yD (yA rfl ?_)))))
 iterate 3 refine yF ?_
 refine yE (yB (yC (yI ?_)))
 refine xJ (fun sl L (i : Nat) => ⟨setAll (setBad sl [4, 5, 6, 9, 10, 11, 12, 13, 14, 15, 16, 17, 18]) [(8, .t (num i))], Go.Ot.look (L)⟩) (fun i => i ≤ l.length ∧ (l.take i).any p = false) (fun i => l.length - i) (0) (wF ?_) ?_ ?_
 ·refine yT ?_ ?_ ?_ <;> simp [wS]
 ·exact ⟨by omega, by simp⟩
 ·intro i hi
  refine vL ?_
  refine yD (yA rfl ?_)
  refine yF ?_
  refine yE (yB (yC (yD ?_)))
  refine vM (fun hc0 => ?_) (fun hc0 => ?_)
  ·(try simp only [Bool.and_eq_true, Bool.or_eq_true, Bool.or_eq_false_iff, Bool.not_eq_true', Bool.not_eq_false', xH, xI, Bool.and_eq_false_imp, beq_iff_eq, beq_eq_false_iff_ne, ne_eq] at hc0)
   refine yK (yC (yD (yI (yD (yA rfl ?_)))))
   iterate 2 refine yF ?_
   refine yE (yB (yC (yD (yA rfl ?_))))
   iterate 4 refine yF ?_
   refine yF (hc := by (rw [List.length_drop, Wr.cellsL_len]; omega)) ?_
   refine wD [.p 0] [] [] false (hf (l.getD i default) (uQ (by omega))) ?_
   refine yE (yB (yC ?_))
   refine vM (fun hc1 => ?_) (fun hc1 => ?_)
   ·(try simp only [Bool.and_eq_true, Bool.or_eq_true, Bool.or_eq_false_iff, Bool.not_eq_true', Bool.not_eq_false', xH, xI, Bool.and_eq_false_imp, beq_iff_eq, beq_eq_false_iff_ne, ne_eq] at hc1)
    have hix := yFS (p := p) (l := l) (by omega) hi.2 hc1
    refine yD (yA rfl ?_)
    iterate 2 refine yF ?_
    refine yE (yB (yC (yP (yH (yG (wJ (yH (yG ?_))))))))
    refine ⟨.inr rfl, yQ [(.p 0, .p 0)] (by rw [results171]) ?_ ?_ ?_⟩ <;> simp [wS, hix]
   ·(try simp only [Bool.and_eq_true, Bool.or_eq_true, Bool.or_eq_false_iff, Bool.not_eq_true', Bool.not_eq_false', xH, xI, Bool.and_eq_false_imp, beq_iff_eq, beq_eq_false_iff_ne, ne_eq] at hc1)
    refine yK (yS (yC (yA rfl ?_)))
    iterate 2 refine yF ?_
    refine yE (yB ?_)
    refine xF (i + 1) (wF ?_) ?_ ?_
    ·refine yT ?_ ?_ ?_ <;> simp [wS]
    ·exact ⟨by omega, yGE (by omega) hi.2 hc1⟩
    ·(first | omega | (simp only []; omega))
  ·(try simp only [Bool.and_eq_true, Bool.or_eq_true, Bool.or_eq_false_iff, Bool.not_eq_true', Bool.not_eq_false', xH, xI, Bool.and_eq_false_imp, beq_iff_eq, beq_eq_false_iff_ne, ne_eq] at hc0)
   have hix := yFT (p := p) (l := l) (by have := hi.2; rwa [List.take_of_length_le (by omega)] at this)
   refine xQ (yM (yN (yL (yC (yD (yA rfl ?_))))))
   refine yF ?_
   refine yE (yB (yC (yP ?_)))
   refine ⟨.inr rfl, yQ [(.p 0, .p 0)] (by rw [results171]) ?_ ?_ ?_⟩ <;> simp [wS, hix]
theorem dN (Γ : Gl) (l : List Wr) (hl : l.length ≤ 65536) (d : Int) (p : Wr → Bool) (hf : ∀ w ∈ l, Go.Ot.Good Γ prog 164 [wA w, .ptr (.p 0) 0] [xZ 3 [.t (num d)]] (.t (bol (p w))) [some (xZ 3 [.t (num d)])] []) : Go.Ot.Good Γ prog 163 [wS l, .fn 164 [.ptr (.p 0) 0]] [xZ 3 [.t (num d)]] (.t (bol (l.any p))) [some (xZ 3 [.t (num d)])] [] := by
 refine yR F.mix func163 (by rfl) ntmps163 ?_
 refine yD (yA rfl ?_)
 refine yF ?_
 refine yE (yB (yC (yD (yA rfl ?_))))
 iterate 2 refine yF ?_
 refine wD [.p 0] [] [] false (yCf Γ l hl d p hf) ?_
 iterate 2 refine yF ?_
 refine yE (yB (yC (yP ?_)))
 refine ⟨.inr rfl, yQ [(.p 0, .p 0)] (by rw [results163]) ?_ ?_ ?_⟩ <;> simp [wS, yIq]
theorem yCc (Γ : Gl) (d : Int) (hd : 0 < d ∧ d ≤ 6) (w : Wr) (b : Bool) (h : Go.Ot.Good Γ prog 148 [wA w, .t (num (d - 1))] [] (.t (bol b)) [] []) : Go.Ot.Good Γ prog 164 [wA w, .ptr (.p 0) 0] [xZ 3 [.t (num d)]] (.t (bol (!b))) [some (xZ 3 [.t (num d)])] [] := by
 refine yR F.mix func164 (by rfl) ntmps164 ?_
 refine yD (yA rfl ?_)
 iterate 2 refine yF ?_
 refine yE (yB (yC (yD (yA rfl ?_))))
 iterate 3 refine yF ?_
 refine yU [] false (h) ?_
 iterate 2 refine yF ?_
 refine yE (yB (yC (yP ?_)))
 refine ⟨.inr rfl, yQ [(.p 0, .p 0)] (by rw [results164]) ?_ ?_ ?_⟩ <;> simp
theorem yBh (Γ : Gl) (d : Nat) (hd6 : d ≤ 6) (deep : Bool) (hdeep : deep = decide (0 < d)) (sub : Wr → Bool) (IH : 0 < d → ∀ w, Go.Ot.Good Γ prog 148 [wA w, .t (num ((d : Int) - 1))] [] (.t (bol (sub w))) [] []) (w : Wr) : Go.Ot.Good Γ prog 148 [wA w, .t (num d)] [] (.t (bol (tB deep sub w))) [] [] := by
 refine yR F.mix func148 (by rfl) ntmps148 ?_
 refine yD (yA rfl ?_)
 iterate 3 refine yF ?_
 refine yE (yB (yC (yD (yD (yA rfl ?_)))))
 have h4 : w.k = 1 ∨ w.k = 2 ∨ w.k = 3 ∨ (w.k ≠ 1 ∧ w.k ≠ 2 ∧ w.k ≠ 3) := by omega
 obtain ⟨k, n, s, l⟩ := w
 simp only [Wr.k_mk] at h4
 rcases h4 with rfl | rfl | rfl | h4
 ·skip
  iterate 2 refine yF ?_
  refine yE (yB (yC (yI (yD (yA rfl ?_)))))
  iterate 2 refine yF ?_
  refine yE (yB (yC (xD (yD (yA rfl ?_)))))
  rcases (show s ≠ [] ∨ s = [] from by by_cases h : s = []; exact .inr h; exact .inl h) with h1 | rfl
  ·try have hb := uY h1
   iterate 2 refine yF ?_
   refine yF (hs := by (simp only [push_cast, hb] <;> rfl)) ?_
   refine yF ?_
   iterate 4 refine wG ?_
   iterate 2 refine yF ?_
   refine yE (yB (yC (yP (yH (yG ?_)))))
   refine ⟨.inr rfl, yQ [] (by rw [results148]) ?_ ?_ ?_⟩ <;> simp [jQ, hb]
  ·try have hb := uY h1
   iterate 4 refine yF ?_
   iterate 4 refine yX ?_
   iterate 2 refine yF ?_
   refine yE (yB (yC (yP (yH (yG ?_)))))
   refine ⟨.inr rfl, yQ [] (by rw [results148]) ?_ ?_ ?_⟩ <;> simp [jQ]
 ·skip
  iterate 2 refine yF ?_
  refine yE (yB (yC (yI (yD (yA rfl ?_)))))
  iterate 2 refine yF ?_
  refine yE (yB (yC (yJ (yD (yA rfl ?_)))))
  iterate 2 refine yF ?_
  refine yE (yB (yC (xD (yD (yA rfl ?_)))))
  have h5 : n ≠ 0 ∨ (n = 0 ∧ l.length ≠ 0) ∨ (n = 0 ∧ l.length = 0) := by omega
  rcases h5 with h1 | ⟨rfl, h1⟩ | ⟨rfl, h1⟩
  ·skip
   iterate 4 refine yF ?_
   iterate 4 refine wG ?_
   iterate 2 refine yF ?_
   iterate 4 refine wG ?_
   iterate 2 refine yF ?_
   refine yE (yB (yC (yP (yH (yG ?_)))))
   refine ⟨.inr rfl, yQ [] (by rw [results148]) ?_ ?_ ?_⟩ <;> simp [sS, h1]
  ·skip
   iterate 4 refine yF ?_
   iterate 4 refine yX ?_
   iterate 2 refine yF ?_
   iterate 4 refine wG ?_
   iterate 2 refine yF ?_
   refine yE (yB (yC (yP (yH (yG ?_)))))
   refine ⟨.inr rfl, yQ [] (by rw [results148]) ?_ ?_ ?_⟩ <;> simp [sS, h1]
  ·skip
   iterate 4 refine yF ?_
   iterate 4 refine yX ?_
   iterate 2 refine yF ?_
   iterate 4 refine yX ?_
   iterate 2 refine yF ?_
   refine yE (yB (yC (yP (yH (yG ?_)))))
   refine ⟨.inr rfl, yQ [] (by rw [results148]) ?_ ?_ ?_⟩ <;> simp [sS, h1, show ((s.length : Int) ≤ 1048576) = (s.length ≤ 1048576) from propext (by omega)]
 ·skip
  iterate 2 refine yF ?_
  refine yE (yB (yC (yI (yD (yA rfl ?_)))))
  iterate 2 refine yF ?_
  refine yE (yB (yC (yJ (yD (yA rfl ?_)))))
  iterate 2 refine yF ?_
  refine yE (yB (yC (yJ (yD (yA rfl ?_)))))
  iterate 2 refine yF ?_
  refine yE (yB (yC (xD (yD (yA rfl ?_)))))
  have h5 : d = 0 ∨ (0 < d ∧ n ≠ 0) ∨ (0 < d ∧ n = 0 ∧ s ≠ []) ∨ (0 < d ∧ n = 0 ∧ s = [] ∧ 65536 < l.length) ∨ (0 < d ∧ n = 0 ∧ s = [] ∧ l.length ≤ 65536) := by
   rcases Nat.eq_zero_or_pos d with h | h
   ·exact .inl h
   ·by_cases h1 : n = 0
    ·by_cases hs : s = []
     ·rcases Nat.lt_or_ge 65536 l.length with h2 | h2
      ·exact .inr (.inr (.inr (.inl ⟨h, h1, hs, h2⟩)))
      ·exact .inr (.inr (.inr (.inr ⟨h, h1, hs, h2⟩)))
     ·exact .inr (.inr (.inl ⟨h, h1, hs⟩))
    ·exact .inr (.inl ⟨h, h1⟩)
  rcases h5 with h0 | ⟨h0, h1⟩ | ⟨h0, rfl, h1⟩ | ⟨h0, rfl, rfl, h1⟩ | ⟨h0, rfl, rfl, h1⟩
  ·try have hb := uY h1
   iterate 3 refine yF ?_
   iterate 3 refine wG ?_
   iterate 2 refine yF ?_
   iterate 3 refine wG ?_
   iterate 2 refine yF ?_
   iterate 4 refine wG ?_
   iterate 2 refine yF ?_
   iterate 5 refine wG ?_
   iterate 2 refine yF ?_
   refine yE (yB (yC (yP (yH (yG ?_)))))
   refine ⟨.inr rfl, yQ [] (by rw [results148]) ?_ ?_ ?_⟩ <;> simp [uW, hdeep, h0]
  ·try have hb := uY h1
   iterate 3 refine yF ?_
   iterate 3 refine yX ?_
   iterate 2 refine yF ?_
   iterate 3 refine wG ?_
   iterate 2 refine yF ?_
   iterate 4 refine wG ?_
   iterate 2 refine yF ?_
   iterate 5 refine wG ?_
   iterate 2 refine yF ?_
   refine yE (yB (yC (yP (yH (yG ?_)))))
   refine ⟨.inr rfl, yQ [] (by rw [results148]) ?_ ?_ ?_⟩ <;> simp [uW, h1]
  ·try have hb := uY h1
   iterate 3 refine yF ?_
   iterate 3 refine yX ?_
   iterate 2 refine yF ?_
   iterate 2 refine yX ?_
   refine yX (hs := by (simp only [push_cast, hb] <;> rfl)) ?_
   iterate 2 refine yF ?_
   iterate 4 refine wG ?_
   iterate 2 refine yF ?_
   iterate 5 refine wG ?_
   iterate 2 refine yF ?_
   refine yE (yB (yC (yP (yH (yG ?_)))))
   refine ⟨.inr rfl, yQ [] (by rw [results148]) ?_ ?_ ?_⟩ <;> simp [uW, hb]
  ·try have hb := uY h1
   iterate 3 refine yF ?_
   iterate 3 refine yX ?_
   iterate 2 refine yF ?_
   iterate 3 refine yX ?_
   iterate 2 refine yF ?_
   iterate 4 refine yX ?_
   iterate 2 refine yF ?_
   iterate 5 refine wG ?_
   iterate 2 refine yF ?_
   refine yE (yB (yC (yP (yH (yG ?_)))))
   refine ⟨.inr rfl, yQ [] (by rw [results148]) ?_ ?_ ?_⟩ <;> simp [uW, show ¬ l.length ≤ 65536 from by omega]
  ·try have hb := uY h1
   iterate 3 refine yF ?_
   iterate 3 refine yX ?_
   iterate 2 refine yF ?_
   iterate 3 refine yX ?_
   iterate 2 refine yF ?_
   iterate 4 refine yX ?_
   iterate 2 refine yF ?_
   iterate 3 refine yX ?_
   refine yED [.r 0 1 0] [] [] false (dN Γ l (by omega) d (fun x => !sub x) (fun w _ => yCc Γ d (by omega) w (sub w) (IH h0 w))) ?_
   refine yX ?_
   iterate 2 refine yF ?_
   refine yE (yB (yC (yP (yH (yG ?_)))))
   refine ⟨.inr rfl, yQ [] (by rw [results148]) ?_ ?_ ?_⟩ <;> simp [uW, hdeep, h0, h1, yI9]
 ·skip
  iterate 2 refine yF ?_
  refine yE (yB (yC (yI (yD (yA rfl ?_)))))
  iterate 2 refine yF ?_
  refine yE (yB (yC (yJ (yD (yA rfl ?_)))))
  iterate 2 refine yF ?_
  refine yE (yB (yC (yJ (yD (yA rfl ?_)))))
  iterate 2 refine yF ?_
  refine yE (yB (yC (yJ (yK (yS (yC (yD (yA rfl ?_))))))))
  refine yF ?_
  refine yE (yB (yC (yP ?_)))
  refine ⟨.inr rfl, yQ [] (by rw [results148]) ?_ ?_ ?_⟩ <;> simp [yDC h4]
end Go.Proofs.Tryz
