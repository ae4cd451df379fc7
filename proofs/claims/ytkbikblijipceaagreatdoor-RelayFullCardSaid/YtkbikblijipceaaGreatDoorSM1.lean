/- Contracts of this program's functions. -/
import Derived.Test.YtkbikblijipceaaGreatDoorSR3
set_option maxHeartbeats 4000000
set_option maxRecDepth 100000
set_option linter.unusedVariables false
set_option linter.unusedSimpArgs false
namespace Go.Proofs.Tryz
open Go Go.Ot
attribute [local simp] num bol txt w8 w16 w32 w64 lst cls xZ xR List.take_of_length_le
attribute [local irreducible] wpK wpS uE wH wV wN wZ xD Le rdS lpW rdW got tB mayW ixF
theorem yCB (Γ : Gl) (l : List Wr) (hl : l.length ≤ 65536) (d : Int) (p : Wr → Bool) (hf : ∀ w ∈ l, Go.Ot.Good Γ prog 164 [wA w, .ptr (.p 0) 0] [xR 3 [.t (num d)]] (.t (bol (p w))) [some (xR 3 [.t (num d)])] []) : Go.Ot.Good Γ prog 171 [wS l, .fn 164 [.ptr (.p 0) 0]] [xR 3 [.t (num d)]] (.t (num (ixF p l))) [some (xR 3 [.t (num d)])] [] := by
 refine yR F.mix func171 (by rfl) ntmps171 ?_
 refine yD (yA rfl ?_)
 refine yF ?_
 refine yE (yB (yC (yD (yD (yA rfl ?_)))))
 iterate 3 refine yF ?_
 refine yE (yB (yC (yH ?_)))
 refine xN (fun sl L (i : Nat) => ⟨setAll (setBad sl [4, 5, 6, 9, 10, 11, 12, 13, 14, 15, 16, 17, 18]) [(8, .t (num i))], Go.Ot.look (L)⟩) (fun i => i ≤ l.length ∧ (l.take i).any p = false) (fun i => l.length - i) (0) (wF ?_) ?_ ?_
 ·refine yT ?_ ?_ ?_ <;> simp [wS]
 ·exact ⟨by omega, by simp⟩
 ·intro i hi
  refine vE ?_
  refine yD (yA rfl ?_)
  refine yF ?_
  refine yE (yB (yC (yD ?_)))
  refine vL (fun hc0 => ?_) (fun hc0 => ?_)
  ·(try simp only [zB] at hc0)
   refine yL (yC (yD (yH (yD (yA rfl ?_)))))
   iterate 2 refine yF ?_
   refine yE (yB (yC (yD (yA rfl ?_))))
   iterate 4 refine yF ?_
   refine yF (hc := by (rw [List.length_drop, Wr.cellsL_len]; omega)) ?_
   refine wG [.p 0] [] [] false (hf (l.getD i default) (uR (by omega))) ?_
   refine yE (yB (yC ?_))
   refine vL (fun hc1 => ?_) (fun hc1 => ?_)
   ·(try simp only [zB] at hc1)
    have hix := yGj (p := p) (l := l) (by omega) hi.2 hc1
    refine yD (yA rfl ?_)
    iterate 2 refine yF ?_
    refine yE (yB (yC (yO (yI (yG (wI (yI (yG ?_))))))))
    refine ⟨.inr rfl, yP [(.p 0, .p 0)] (by rw [results171]) ?_ ?_ ?_⟩ <;> simp [wS, hix]
   ·(try simp only [zB] at hc1)
    refine yL (yS (yC (yA rfl ?_)))
    iterate 2 refine yF ?_
    refine yE (yB ?_)
    refine xE (i + 1) (wF ?_) ?_ ?_
    ·refine yT ?_ ?_ ?_ <;> simp [wS]
    ·exact ⟨by omega, yG4 (by omega) hi.2 hc1⟩
    ·(first | omega | (simp only []; omega))
  ·(try simp only [zB] at hc0)
   have hix := yGk (p := p) (l := l) (by have := hi.2; rwa [List.take_of_length_le (by omega)] at this)
   refine xQ (yM (yN (yK (yC (yD (yA rfl ?_))))))
   refine yF ?_
   refine yE (yB (yC (yO ?_)))
   refine ⟨.inr rfl, yP [(.p 0, .p 0)] (by rw [results171]) ?_ ?_ ?_⟩ <;> simp [wS, hix]
theorem cD (Γ : Gl) (l : List Wr) (hl : l.length ≤ 65536) (d : Int) (p : Wr → Bool) (hf : ∀ w ∈ l, Go.Ot.Good Γ prog 164 [wA w, .ptr (.p 0) 0] [xR 3 [.t (num d)]] (.t (bol (p w))) [some (xR 3 [.t (num d)])] []) : Go.Ot.Good Γ prog 163 [wS l, .fn 164 [.ptr (.p 0) 0]] [xR 3 [.t (num d)]] (.t (bol (l.any p))) [some (xR 3 [.t (num d)])] [] := by
 refine yR F.mix func163 (by rfl) ntmps163 ?_
 refine yD (yA rfl ?_)
 refine yF ?_
 refine yE (yB (yC (yD (yA rfl ?_))))
 iterate 2 refine yF ?_
 refine wG [.p 0] [] [] false (yCB Γ l hl d p hf) ?_
 iterate 2 refine yF ?_
 refine yE (yB (yC (yO ?_)))
 refine ⟨.inr rfl, yP [(.p 0, .p 0)] (by rw [results163]) ?_ ?_ ?_⟩ <;> simp [wS, yIP]
theorem yCy (Γ : Gl) (d : Int) (hd : 0 < d ∧ d ≤ 6) (w : Wr) (b : Bool) (h : Go.Ot.Good Γ prog 148 [wA w, .t (num (d - 1))] [] (.t (bol b)) [] []) : Go.Ot.Good Γ prog 164 [wA w, .ptr (.p 0) 0] [xR 3 [.t (num d)]] (.t (bol (!b))) [some (xR 3 [.t (num d)])] [] := by
 refine yR F.mix func164 (by rfl) ntmps164 ?_
 refine yD (yA rfl ?_)
 iterate 2 refine yF ?_
 refine yE (yB (yC (yD (yA rfl ?_))))
 iterate 3 refine yF ?_
 refine yU [] false (h) ?_
 iterate 2 refine yF ?_
 refine yE (yB (yC (yO ?_)))
 refine ⟨.inr rfl, yP [(.p 0, .p 0)] (by rw [results164]) ?_ ?_ ?_⟩ <;> simp
theorem yBF (Γ : Gl) (d : Nat) (hd6 : d ≤ 6) (deep : Bool) (hdeep : deep = decide (0 < d)) (sub : Wr → Bool) (IH : 0 < d → ∀ w, Go.Ot.Good Γ prog 148 [wA w, .t (num ((d : Int) - 1))] [] (.t (bol (sub w))) [] []) (w : Wr) : Go.Ot.Good Γ prog 148 [wA w, .t (num d)] [] (.t (bol (tB deep sub w))) [] [] := by
 refine yR F.mix func148 (by rfl) ntmps148 ?_
 refine yD (yA rfl ?_)
 iterate 3 refine yF ?_
 refine yE (yB (yC (yD (yD (yA rfl ?_)))))
 have h4 : w.k = 1 ∨ w.k = 2 ∨ w.k = 3 ∨ (w.k ≠ 1 ∧ w.k ≠ 2 ∧ w.k ≠ 3) := by omega
 obtain ⟨k, n, s, l⟩ := w
 simp only [Wr.k_mk] at h4
 rcases h4 with rfl | rfl | rfl | h4
 ·skip
  iterate 2 refine yF ?_
  refine yE (yB (yC (yH (yD (yA rfl ?_)))))
  iterate 2 refine yF ?_
  refine yE (yB (yC (xF (yD (yA rfl ?_)))))
  rcases (show s ≠ [] ∨ s = [] from by by_cases h : s = []; exact .inr h; exact .inl h) with h1 | rfl
  ·try have hb := tA h1
   iterate 2 refine yF ?_
   refine yF (hs := by (simp only [push_cast, hb] <;> rfl)) ?_
   refine yF ?_
   iterate 4 refine wJ ?_
   iterate 2 refine yF ?_
   refine yE (yB (yC (yO (yI (yG ?_)))))
   refine ⟨.inr rfl, yP [] (by rw [results148]) ?_ ?_ ?_⟩ <;> simp [jX, hb]
  ·try have hb := tA h1
   iterate 4 refine yF ?_
   iterate 4 refine xB ?_
   iterate 2 refine yF ?_
   refine yE (yB (yC (yO (yI (yG ?_)))))
   refine ⟨.inr rfl, yP [] (by rw [results148]) ?_ ?_ ?_⟩ <;> simp [jX]
 ·skip
  iterate 2 refine yF ?_
  refine yE (yB (yC (yH (yD (yA rfl ?_)))))
  iterate 2 refine yF ?_
  refine yE (yB (yC (yJ (yD (yA rfl ?_)))))
  iterate 2 refine yF ?_
  refine yE (yB (yC (xF (yD (yA rfl ?_)))))
  have h5 : n ≠ 0 ∨ (n = 0 ∧ l.length ≠ 0) ∨ (n = 0 ∧ l.length = 0) := by omega
  rcases h5 with h1 | ⟨rfl, h1⟩ | ⟨rfl, h1⟩
  ·skip
   iterate 4 refine yF ?_
   iterate 4 refine wJ ?_
   iterate 2 refine yF ?_
   iterate 4 refine wJ ?_
   iterate 2 refine yF ?_
   refine yE (yB (yC (yO (yI (yG ?_)))))
   refine ⟨.inr rfl, yP [] (by rw [results148]) ?_ ?_ ?_⟩ <;> simp [sR, h1]
  ·skip
   iterate 4 refine yF ?_
   iterate 4 refine xB ?_
   iterate 2 refine yF ?_
   iterate 4 refine wJ ?_
   iterate 2 refine yF ?_
   refine yE (yB (yC (yO (yI (yG ?_)))))
   refine ⟨.inr rfl, yP [] (by rw [results148]) ?_ ?_ ?_⟩ <;> simp [sR, h1]
  ·skip
   iterate 4 refine yF ?_
   iterate 4 refine xB ?_
   iterate 2 refine yF ?_
   iterate 4 refine xB ?_
   iterate 2 refine yF ?_
   refine yE (yB (yC (yO (yI (yG ?_)))))
   refine ⟨.inr rfl, yP [] (by rw [results148]) ?_ ?_ ?_⟩ <;> simp [sR, h1, show ((s.length : Int) ≤ 1048576) = (s.length ≤ 1048576) from propext (by omega)]
 ·skip
  iterate 2 refine yF ?_
  refine yE (yB (yC (yH (yD (yA rfl ?_)))))
  iterate 2 refine yF ?_
  refine yE (yB (yC (yJ (yD (yA rfl ?_)))))
  iterate 2 refine yF ?_
  refine yE (yB (yC (yJ (yD (yA rfl ?_)))))
  iterate 2 refine yF ?_
  refine yE (yB (yC (xF (yD (yA rfl ?_)))))
  have h5 : d = 0 ∨ (0 < d ∧ n ≠ 0) ∨ (0 < d ∧ n = 0 ∧ s ≠ []) ∨ (0 < d ∧ n = 0 ∧ s = [] ∧ 65536 < l.length) ∨ (0 < d ∧ n = 0 ∧ s = [] ∧ l.length ≤ 65536) := by
   rcases Nat.eq_zero_or_pos d with h | h
   ·exact .inl h
   ·by_cases h1 : n = 0
    ·by_cases hs : s = []
     ·rcases Nat.lt_or_ge 65536 l.length with h2 | h2
      ·exact .inr (.inr (.inr (.inl ⟨h, h1, hs, h2⟩)))
      ·exact .inr (.inr (.inr (.inr ⟨h, h1, hs, h2⟩)))
     ·exact .inr (.inr (.inl ⟨h, h1, hs⟩))
    ·exact .inr (.inl ⟨h, h1⟩)
  rcases h5 with h0 | ⟨h0, h1⟩ | ⟨h0, rfl, h1⟩ | ⟨h0, rfl, rfl, h1⟩ | ⟨h0, rfl, rfl, h1⟩
  ·try have hb := tA h1
   iterate 3 refine yF ?_
   iterate 3 refine wJ ?_
   iterate 2 refine yF ?_
   iterate 3 refine wJ ?_
   iterate 2 refine yF ?_
   iterate 4 refine wJ ?_
   iterate 2 refine yF ?_
   iterate 5 refine wJ ?_
   iterate 2 refine yF ?_
   refine yE (yB (yC (yO (yI (yG ?_)))))
   refine ⟨.inr rfl, yP [] (by rw [results148]) ?_ ?_ ?_⟩ <;> simp [uY, hdeep, h0]
  ·try have hb := tA h1
   iterate 3 refine yF ?_
   iterate 3 refine xB ?_
   iterate 2 refine yF ?_
   iterate 3 refine wJ ?_
   iterate 2 refine yF ?_
   iterate 4 refine wJ ?_
   iterate 2 refine yF ?_
   iterate 5 refine wJ ?_
   iterate 2 refine yF ?_
   refine yE (yB (yC (yO (yI (yG ?_)))))
   refine ⟨.inr rfl, yP [] (by rw [results148]) ?_ ?_ ?_⟩ <;> simp [uY, h1]
  ·try have hb := tA h1
   iterate 3 refine yF ?_
   iterate 3 refine xB ?_
   iterate 2 refine yF ?_
   iterate 2 refine xB ?_
   refine xB (hs := by (simp only [push_cast, hb] <;> rfl)) ?_
   iterate 2 refine yF ?_
   iterate 4 refine wJ ?_
   iterate 2 refine yF ?_
   iterate 5 refine wJ ?_
   iterate 2 refine yF ?_
   refine yE (yB (yC (yO (yI (yG ?_)))))
   refine ⟨.inr rfl, yP [] (by rw [results148]) ?_ ?_ ?_⟩ <;> simp [uY, hb]
  ·try have hb := tA h1
   iterate 3 refine yF ?_
   iterate 3 refine xB ?_
   iterate 2 refine yF ?_
   iterate 3 refine xB ?_
   iterate 2 refine yF ?_
   iterate 4 refine xB ?_
   iterate 2 refine yF ?_
   iterate 5 refine wJ ?_
   iterate 2 refine yF ?_
   refine yE (yB (yC (yO (yI (yG ?_)))))
   refine ⟨.inr rfl, yP [] (by rw [results148]) ?_ ?_ ?_⟩ <;> simp [uY, show ¬ l.length ≤ 65536 from by omega]
  ·try have hb := tA h1
   iterate 3 refine yF ?_
   iterate 3 refine xB ?_
   iterate 2 refine yF ?_
   iterate 3 refine xB ?_
   iterate 2 refine yF ?_
   iterate 4 refine xB ?_
   iterate 2 refine yF ?_
   iterate 3 refine xB ?_
   refine yE6 [.r 0 1 0] [] [] false (cD Γ l (by omega) d (fun x => !sub x) (fun w _ => yCy Γ d (by omega) w (sub w) (IH h0 w))) ?_
   refine xB ?_
   iterate 2 refine yF ?_
   refine yE (yB (yC (yO (yI (yG ?_)))))
   refine ⟨.inr rfl, yP [] (by rw [results148]) ?_ ?_ ?_⟩ <;> simp [uY, hdeep, h0, h1, yJx]
 ·skip
  iterate 2 refine yF ?_
  refine yE (yB (yC (yH (yD (yA rfl ?_)))))
  iterate 2 refine yF ?_
  refine yE (yB (yC (yJ (yD (yA rfl ?_)))))
  iterate 2 refine yF ?_
  refine yE (yB (yC (yJ (yD (yA rfl ?_)))))
  iterate 2 refine yF ?_
  refine yE (yB (yC (yJ (yL (yS (yC (yD (yA rfl ?_))))))))
  refine yF ?_
  refine yE (yB (yC (yO ?_)))
  refine ⟨.inr rfl, yP [] (by rw [results148]) ?_ ?_ ?_⟩ <;> simp [yD0 h4]
end Go.Proofs.Tryz
