/- Contracts of this program's functions. -/
import Derived.Test.YtkbikblijipceaaGreatDoorSU1
set_option maxHeartbeats 4000000
set_option maxRecDepth 100000
set_option linter.unusedVariables false
set_option linter.unusedSimpArgs false
namespace Go.Proofs.Tryz
open Go Go.Ot
attribute [local simp] num bol txt w8 w16 w32 w64 lst cls xZ xR List.take_of_length_le
attribute [local irreducible] wpK wpS uE wH wV wN wZ xD Le rdS lpW rdW got tB mayW ixF uW putW nb nbS u64 fmT bn yC3 pJ getW uD
theorem mS (Γ : Gl) (s : List UInt8) (a n : Nat) (h : a + n ≤ s.length) (h8 : n ≤ 8) (hs : s.length ≤ 1000000) : Go.Ot.Good Γ prog 137 [.t (txt s), .t (num a), .t (num n)] [] (.t (num (i64 (bn ((s.drop a).take n))))) [] [] := by
 refine yR F.mix func137 (by rfl) ntmps137 ?_
 refine yD (yA rfl ?_)
 refine yF ?_
 refine yE (yB (yC (yD (yA rfl ?_))))
 refine yF ?_
 refine yE (yB (yC (yD (yD (yA rfl ?_)))))
 refine yF ?_
 refine yE (yB (yC (yH ?_)))
 refine xN (fun sl L (i : Nat) => ⟨setAll (setBad sl [9, 10, 11, 12, 13, 14, 15, 16, 17, 18, 19, 20, 21, 22]) [(7, .t (w64 (yC3 (s.drop a) i))), (8, .t (num i))], Go.Ot.look (L)⟩) (fun i => i ≤ n) (fun i => n - i) (0) (wF ?_) ?_ ?_
 ·refine yT ?_ ?_ ?_ <;> simp [yIo]
 ·(first | omega | simp)
 ·intro i hi
  have hai : ((a : Int) + (i : Int)).toNat = a + i := by omega
  refine vE ?_
  refine yD (yD (yA rfl ?_))
  iterate 3 refine yF ?_
  refine yE (yB (yC ?_))
  refine vL (fun hc0 => ?_) (fun hc0 => ?_)
  ·(try simp only [zB] at hc0)
   refine yL (yC (yD (yH (yA rfl ?_))))
   iterate 10 refine yF ?_
   refine yE (yB (yS (yC (yA rfl ?_))))
   iterate 3 refine yF ?_
   refine yE (yB ?_)
   refine xE (i + 1) (wF ?_) ?_ ?_
   ·refine yT ?_ ?_ ?_ <;> simp [yIp, getD_drop, hai]
   ·(first | omega | (simp_all <;> omega))
   ·(first | omega | (simp only []; omega))
  ·(try simp only [zB] at hc0)
   refine xQ (yM (yN (yK (yC (yD (yA rfl ?_))))))
   obtain rfl : i = n := by omega
   have hb := yAG (s.drop a) i (by rw [List.length_drop]; omega) h8
   refine yF ?_
   refine yF (hs := by (simp only [push_cast, hb, wrap_i64 (yJm ((s.drop a).take i) (by rw [List.length_take]; omega))] <;> rfl)) ?_
   refine yF ?_
   refine yE (yB (yC (yO ?_)))
   refine ⟨.inr rfl, yP [] (by rw [results137]) ?_ ?_ ?_⟩ <;> simp
theorem bX (Γ : Gl) (d : Nat) (hd6 : d ≤ 6) (deep : Bool) (hdeep : deep = true ↔ 0 < d) (sub : List UInt8 → Option (Wr × List UInt8)) (hsub : ∀ r w r', sub r = some (w, r') → ∃ p, r = p ++ r') (s : List UInt8) (hs : s.length ≤ 1000000) (IH : deep = true → ∀ a : Nat, a ≤ s.length → Go.Ot.Good Γ prog 102 [.t (txt s), .t (num a), .t (num ((d : Int) - 1))] [] (yAk s (sub (s.drop a))) [] []) (a : Nat) (ha : a ≤ s.length) : Go.Ot.Good Γ prog 102 [.t (txt s), .t (num a), .t (num d)] [] ((yAk s (pJ deep sub (s.drop a)))) [] [] := by
 refine yR F.mix func102 (by rfl) ntmps102 ?_
 refine yD (yA rfl ?_)
 refine yF ?_
 refine yE (yB (yC (yD (yD (yA rfl ?_)))))
 iterate 5 refine yF ?_
 refine yE (yB (yC ?_))
 refine vL (fun hc0 => ?_) (fun hc0 => ?_)
 ·(try simp only [zB] at hc0)
  have he : yAk s (pJ deep sub (s.drop a)) = mN Wr.z (-1) := by rw [yGr (by rw [List.length_drop]; omega)]; rfl
  refine yD (yA rfl ?_)
  iterate 2 refine yF ?_
  refine yE (yB (yC (yO (yG ?_))))
  refine ⟨.inr rfl, yP [] (by rw [results102]) ?_ ?_ ?_⟩ <;> simp [Wr.cellsL_len, wA, Wr.k_mk, Wr.n_mk, Wr.s_mk, Wr.l_mk, Wr.cellsL, Wr.z_eq, mN, he]
 ·(try simp only [zB] at hc0)
  have t1 : ((a : Int) + 5).toNat = a + 5 := by omega
  have hda : s.drop a = s.getD a 0 :: s.drop (a + 1) := by
   have h1 : a < s.length := by omega
   rw [List.drop_eq_getElem_cons h1]; simp [List.getD_eq_getElem?_getD, List.getElem?_eq_getElem h1]
  have hdr : (s.drop (a + 1)).length = s.length - (a + 1) := List.length_drop
  have hdd : (s.drop (a + 1)).drop 4 = s.drop (a + 5) := by rw [List.drop_drop]
  refine yL (yC (yD (yA rfl ?_)))
  obtain ⟨k, hk0⟩ : ∃ k, s.getD a 0 = k := ⟨_, rfl⟩
  rw [hk0] at hda
  have hk8 := UInt8.toNat_lt k
  have h4 : k = 1 ∨ k = 2 ∨ k = 3 ∨ (k ≠ 1 ∧ k ≠ 2 ∧ k ≠ 3) := by
   by_cases h1 : k = 1
   ·exact .inl h1
   ·by_cases h2 : k = 2
    ·exact .inr (.inl h2)
    ·by_cases h3 : k = 3
     ·exact .inr (.inr (.inl h3))
     ·exact .inr (.inr (.inr ⟨h1, h2, h3⟩))
  rcases h4 with rfl | rfl | rfl | hko
  all_goals (try have hk : ((s.getD a 0).toNat : Int) = 1 := by rw [hk0]; rfl)
  all_goals (try have hk : ((s.getD a 0).toNat : Int) = 2 := by rw [hk0]; rfl)
  all_goals (try have hk : ((s.getD a 0).toNat : Int) = 3 := by rw [hk0]; rfl)
  ·try (have hk : ((s.getD a 0).toNat : Int) = (k.toNat : Int) := by rw [hk0]); have hkn : k.toNat ≠ 1 ∧ k.toNat ≠ 2 ∧ k.toNat ≠ 3 := ⟨fun e => hko.1 (UInt8.toNat_inj.1 e), fun e => hko.2.1 (UInt8.toNat_inj.1 e), fun e => hko.2.2 (UInt8.toNat_inj.1 e)⟩
   iterate 2 refine yF ?_
   refine yF (hs := by (simp only [push_cast, hk] <;> rfl)) ?_
   iterate 4 refine yF ?_
   refine yE (yB (yC (yD (yD (yA rfl ?_)))))
   iterate 3 refine yF ?_
   refine yE (yB (yC (xF (yD (yD (yA rfl ?_))))))
   iterate 5 refine yF ?_
   refine yE (yB (yC ?_))
   refine vL (fun hc2 => ?_) (fun hc2 => ?_)
   ·(try simp only [zB] at hc2)
    have he : yAk s (pJ deep sub (s.drop a)) = mN Wr.z (-1) := by rw [hda, gS_1c (by omega)]; rfl
    refine yD (yA rfl ?_)
    iterate 2 refine yF ?_
    refine yE (yB (yC (yO (yG (yG ?_)))))
    refine ⟨.inr rfl, yP [] (by rw [results102]) ?_ ?_ ?_⟩ <;> simp [Wr.cellsL_len, wA, Wr.k_mk, Wr.n_mk, Wr.s_mk, Wr.l_mk, Wr.cellsL, Wr.z_eq, mN, he]
   ·(try simp only [zB] at hc2)
    have he : yAk s (pJ deep sub (s.drop a)) = mN (.mk 1 (i64 (bn ((s.drop (a + 1)).take 8))) [] []) ((a : Int) + 9) := by
     rw [hda, gS_1 (by omega), pH]; congr 1; rw [List.length_drop, hdr]; omega
    refine yL (yC (yD (yA rfl ?_)))
    iterate 3 refine yF ?_
    refine yU [] false ((by have h := mS Γ s (a + 1) 8 (by omega) (by omega) hs; rwa [show ((a + 1 : Nat) : Int) = (a : Int) + 1 from by omega] at h)) ?_
    iterate 2 refine yF ?_
    refine yE (yB (yC (yD (yA rfl ?_))))
    iterate 5 refine yF ?_
    refine yE (yB (yC (yO (yG ?_))))
    refine ⟨.inr rfl, yP [] (by rw [results102]) ?_ ?_ ?_⟩ <;> simp [Wr.cellsL_len, wA, Wr.k_mk, Wr.n_mk, Wr.s_mk, Wr.l_mk, Wr.cellsL, Wr.z_eq, mN, he]
  ·try (have hk : ((s.getD a 0).toNat : Int) = (k.toNat : Int) := by rw [hk0]); have hkn : k.toNat ≠ 1 ∧ k.toNat ≠ 2 ∧ k.toNat ≠ 3 := ⟨fun e => hko.1 (UInt8.toNat_inj.1 e), fun e => hko.2.1 (UInt8.toNat_inj.1 e), fun e => hko.2.2 (UInt8.toNat_inj.1 e)⟩
   iterate 2 refine yF ?_
   refine yF (hs := by (simp only [push_cast, hk] <;> rfl)) ?_
   iterate 4 refine yF ?_
   refine yE (yB (yC (yD (yD (yA rfl ?_)))))
   iterate 3 refine yF ?_
   refine yE (yB (yC (yJ (yL (yC (yD (yA rfl ?_)))))))
   obtain ⟨N, hN⟩ : ∃ N, bn ((s.drop (a + 1)).take 4) = N := ⟨_, rfl⟩
   have hN4 : N < 4294967296 := by rw [← hN]; exact lP _ (by rw [List.length_take]; omega)
   have t2 : ((a : Int) + 5 + N).toNat = a + 5 + N := by omega
   iterate 3 refine yF ?_
   refine yU [] false ((by have h := mS Γ s (a + 1) 4 (by omega) (by omega) hs; rw [hJ (lP _ (by rw [List.length_take]; omega)), hN] at h; rwa [show ((a + 1 : Nat) : Int) = (a : Int) + 1 from by omega] at h)) ?_
   refine yF ?_
   refine yE (yB (yC (yD (yH (yD (yA rfl ?_))))))
   have h3 : 1048576 < N ∨ (N ≤ 1048576 ∧ N + a + 5 ≤ s.length) ∨ (N ≤ 1048576 ∧ s.length < N + a + 5) := by omega
   rcases h3 with h1 | ⟨h1, h2⟩ | ⟨h1, h2⟩
   ·skip
    iterate 4 refine yF ?_
    iterate 2 refine xB ?_
    iterate 2 refine yF ?_
    iterate 7 refine wJ ?_
    iterate 2 refine yF ?_
    refine yE (yB (yC (yJ (yD (yA rfl ?_)))))
    skip
    iterate 4 refine yF ?_
    iterate 2 refine wJ ?_
    iterate 2 refine yF ?_
    iterate 2 refine wJ ?_
    iterate 2 refine yF ?_
    refine yE (yB (yC (xF (yD (yA rfl ?_)))))
    have he : yAk s (pJ deep sub (s.drop a)) = mN Wr.z (-1) := by rw [hda, gS_2 (by omega), hN, hdd, if_neg (by rw [List.length_drop]; omega)]; rfl
    iterate 2 refine yF ?_
    refine yE (yB (yC (yO (yI (yG ?_)))))
    refine ⟨.inr rfl, yP [] (by rw [results102]) ?_ ?_ ?_⟩ <;> simp [Wr.cellsL_len, wA, Wr.k_mk, Wr.n_mk, Wr.s_mk, Wr.l_mk, Wr.cellsL, Wr.z_eq, mN, he, t1, t2]
   ·skip
    iterate 4 refine yF ?_
    iterate 2 refine xB ?_
    iterate 2 refine yF ?_
    iterate 7 refine xB ?_
    iterate 2 refine yF ?_
    refine yE (yB (yC (xF (yD (yA rfl ?_)))))
    have he : yAk s (pJ deep sub (s.drop a)) = mN (.mk 2 0 ((s.take (a + 5 + N)).drop (a + 5)) []) ((a : Int) + 5 + N) := by
     rw [hda, gS_2 (by omega), hN, hdd, if_pos ⟨h1, by rw [List.length_drop]; omega⟩, pH, List.drop_take, show a + 5 + N - (a + 5) = N from by omega]
     congr 1
     rw [List.length_drop, List.length_drop]; omega
    iterate 10 refine yF ?_
    refine yE (yB (yC (yD (yA rfl ?_))))
    iterate 7 refine yF ?_
    refine yE (yB (yC (yO (yI (yG ?_)))))
    refine ⟨.inr rfl, yP [] (by rw [results102]) ?_ ?_ ?_⟩ <;> simp [Wr.cellsL_len, wA, Wr.k_mk, Wr.n_mk, Wr.s_mk, Wr.l_mk, Wr.cellsL, Wr.z_eq, mN, he, t1, t2]
   ·skip
    iterate 4 refine yF ?_
    iterate 2 refine xB ?_
    iterate 2 refine yF ?_
    iterate 7 refine xB ?_
    iterate 2 refine yF ?_
    refine yE (yB (yC (yJ (yD (yA rfl ?_)))))
    skip
    iterate 4 refine yF ?_
    iterate 2 refine wJ ?_
    iterate 2 refine yF ?_
    iterate 2 refine wJ ?_
    iterate 2 refine yF ?_
    refine yE (yB (yC (xF (yD (yA rfl ?_)))))
    have he : yAk s (pJ deep sub (s.drop a)) = mN Wr.z (-1) := by rw [hda, gS_2 (by omega), hN, hdd, if_neg (by rw [List.length_drop]; omega)]; rfl
    iterate 2 refine yF ?_
    refine yE (yB (yC (yO (yI (yG ?_)))))
    refine ⟨.inr rfl, yP [] (by rw [results102]) ?_ ?_ ?_⟩ <;> simp [Wr.cellsL_len, wA, Wr.k_mk, Wr.n_mk, Wr.s_mk, Wr.l_mk, Wr.cellsL, Wr.z_eq, mN, he, t1, t2]
  ·try (have hk : ((s.getD a 0).toNat : Int) = (k.toNat : Int) := by rw [hk0]); have hkn : k.toNat ≠ 1 ∧ k.toNat ≠ 2 ∧ k.toNat ≠ 3 := ⟨fun e => hko.1 (UInt8.toNat_inj.1 e), fun e => hko.2.1 (UInt8.toNat_inj.1 e), fun e => hko.2.2 (UInt8.toNat_inj.1 e)⟩
   iterate 2 refine yF ?_
   refine yF (hs := by (simp only [push_cast, hk] <;> rfl)) ?_
   iterate 4 refine yF ?_
   refine yE (yB (yC (yD (yD (yA rfl ?_)))))
   iterate 3 refine yF ?_
   refine yE (yB (yC (yJ (yL (yC (yD (yA rfl ?_)))))))
   obtain ⟨N, hN⟩ : ∃ N, bn ((s.drop (a + 1)).take 4) = N := ⟨_, rfl⟩
   have hN4 : N < 4294967296 := by rw [← hN]; exact lP _ (by rw [List.length_take]; omega)
   have t2 : ((a : Int) + 5 + N).toNat = a + 5 + N := by omega
   iterate 3 refine yF ?_
   refine yU [] false ((by have h := mS Γ s (a + 1) 4 (by omega) (by omega) hs; rw [hJ (lP _ (by rw [List.length_take]; omega)), hN] at h; rwa [show ((a + 1 : Nat) : Int) = (a : Int) + 1 from by omega] at h)) ?_
   refine yF ?_
   refine yE (yB (yC (yD (yH (yD (yA rfl ?_))))))
   skip
   iterate 4 refine yF ?_
   iterate 2 refine wJ ?_
   iterate 2 refine yF ?_
   iterate 7 refine wJ ?_
   iterate 2 refine yF ?_
   refine yE (yB (yC (yJ (yD (yA rfl ?_)))))
   have h3 : 65536 < N ∨ (N ≤ 65536 ∧ d = 0) ∨ (N ≤ 65536 ∧ 0 < d) := by omega
   rcases h3 with h1 | ⟨h1, h2⟩ | ⟨h1, h2⟩
   ·skip
    iterate 4 refine yF ?_
    iterate 2 refine xB ?_
    iterate 2 refine yF ?_
    iterate 2 refine wJ ?_
    iterate 2 refine yF ?_
    refine yE (yB (yC (xF (yD (yA rfl ?_)))))
    have he : yAk s (pJ deep sub (s.drop a)) = mN Wr.z (-1) := by rw [hda, gS_3 (by omega), hN, if_neg (by omega)]; rfl
    iterate 2 refine yF ?_
    refine yE (yB (yC (yO (yI (yG ?_)))))
    refine ⟨.inr rfl, yP [] (by rw [results102]) ?_ ?_ ?_⟩ <;> simp [Wr.cellsL_len, wA, Wr.k_mk, Wr.n_mk, Wr.s_mk, Wr.l_mk, Wr.cellsL, Wr.z_eq, mN, he, t1, t2]
   ·skip
    iterate 4 refine yF ?_
    iterate 2 refine xB ?_
    iterate 2 refine yF ?_
    iterate 2 refine xB ?_
    iterate 2 refine yF ?_
    refine yE (yB (yC (xF (yD (yA rfl ?_)))))
    have he : yAk s (pJ deep sub (s.drop a)) = mN Wr.z (-1) := by rw [hda, gS_3 (by omega), hN, if_neg (by intro h; have := hdeep.1 h.2; omega)]; rfl
    iterate 2 refine yF ?_
    refine yE (yB (yC (yO (yI (yG ?_)))))
    refine ⟨.inr rfl, yP [] (by rw [results102]) ?_ ?_ ?_⟩ <;> simp [Wr.cellsL_len, wA, Wr.k_mk, Wr.n_mk, Wr.s_mk, Wr.l_mk, Wr.cellsL, Wr.z_eq, mN, he, t1, t2]
   ·skip
    iterate 4 refine yF ?_
    iterate 2 refine xB ?_
    iterate 2 refine yF ?_
    iterate 2 refine xB ?_
    iterate 2 refine yF ?_
    refine yE (yB (yC (yJ (yL (yS (yC (yD (yA rfl ?_))))))))
    have hdp := hdeep.2 h2
    iterate 3 refine yF ?_
    refine yE (yB (yC (yD (yD (yA rfl ?_)))))
    refine yF ?_
    refine yE (yB (yC (yH ?_)))
    have h00 : (uD sub 0 (s.drop (a + 5))).getD ([], []) = ([], s.drop (a + 5)) := by rw [yD1]; rfl
    have h01 : (s.length : Int) - (s.drop (a + 5)).length = (a : Int) + 5 := by rw [List.length_drop]; omega
    have h02 : (s.length : Int) - ((s.length - (a + 5) : Nat) : Int) = (a : Int) + 5 := by omega
    refine xN (fun sl L (i : Nat) => ⟨setAll (setBad sl [1, 11, 12, 13, 14, 15, 16, 17, 18, 19, 20, 21, 22, 23, 24, 25, 26, 27, 28, 29, 30, 31, 32, 33, 34, 35, 36, 37, 38, 39, 40, 41, 42, 43, 44, 45, 46, 47, 48, 49, 50, 51, 52, 53, 54, 55, 56, 57, 58, 59, 60, 61, 62, 63, 64, 65, 66, 67, 68, 69, 70, 71, 72, 73, 74, 75, 76, 77, 78, 79, 80, 81, 82, 83, 84, 85, 86, 87, 88, 89, 90, 91, 92, 93, 94, 95, 96, 97, 98, 99, 100, 101, 102, 103, 104, 105, 106, 107, 108, 109, 110, 111, 112, 113, 114]) [(9, .t (num ((s.length : Int) - ((uD sub i (s.drop (a + 5))).getD ([], [])).2.length))), (10, .t (num i))], Go.Ot.look (vD (.r 3 5 0) (xR 94 [.t (num 3), .t (num 0), .t (txt []), .msl (.n 9) 0 i 4]) (vD (.n 9) (lH ((uD sub i (s.drop (a + 5))).getD ([], [])).1) L))⟩) (fun i => i ≤ N ∧ ∃ p, uD sub i (s.drop (a + 5)) = some p) (fun i => N - i) (0) (wF ?_) ?_ ?_
    ·refine wL [(.r 0 0 0, .r 0 0 0), (.r 3 5 0, .r 3 5 0)] ?_ ?_ ?_ <;> simp [Wr.cellsL_len, wA, Wr.k_mk, Wr.n_mk, Wr.s_mk, Wr.l_mk, Wr.cellsL, Wr.z_eq, mN, h00, h01, h02, lH]
    ·exact ⟨by omega, _, yD1 _ _⟩
    ·intro i hi
     obtain ⟨⟨l, r'⟩, hm⟩ := hi.2
     simp only [hm, Option.getD_some]
     have hsd := yFy (s := s) (r := r') (a := a + 5) (by omega) (yBH hsub hm)
     have hll := aP hm
     refine vE ?_
     refine yD (yD (yA rfl ?_))
     iterate 3 refine yF ?_
     refine yE (yB (yC ?_))
     refine vL (fun hc5 => ?_) (fun hc5 => ?_)
     ·(try simp only [zB] at hc5)
      refine yL (yC (yD (yH (yD (yA rfl ?_)))))
      rcases hx : sub r' with _ | ⟨w, r2⟩
      ·skip
       iterate 4 refine yF ?_
       refine yU [] true ((by have h := IH hdp (s.length - r'.length) (by omega); rw [hsd.2, hx, aE, show ((s.length - r'.length : Nat) : Int) = (s.length : Int) - r'.length from by omega] at h; exact h)) ?_
       iterate 2 refine yF ?_
       refine yE (yB (yC (yD (yD (yA rfl ?_)))))
       skip
       iterate 3 refine yF ?_
       refine yE (yB (yC (xF (yD (yA rfl ?_)))))
       have he : yAk s (pJ deep sub (s.drop a)) = mN Wr.z (-1) := by rw [hda, gS_3 (by omega), hN, if_pos ⟨h1, hdp⟩, hdd, yD2 hm hx N (by omega)]; rfl
       iterate 2 refine yF ?_
       refine yE (yB (yC (yO (yG (yI (yG (wI (yI (yG ?_)))))))))
       refine ⟨.inr rfl, yP [] (by rw [results102]) ?_ ?_ ?_⟩ <;> simp [Wr.cellsL_len, wA, Wr.k_mk, Wr.n_mk, Wr.s_mk, Wr.l_mk, Wr.cellsL, Wr.z_eq, mN, he, t1, t2, hll]
      ·skip
       iterate 4 refine yF ?_
       refine yU [] true ((by have h := IH hdp (s.length - r'.length) (by omega); rw [hsd.2, hx, pH, show ((s.length - r'.length : Nat) : Int) = (s.length : Int) - r'.length from by omega] at h; exact h)) ?_
       iterate 2 refine yF ?_
       refine yE (yB (yC (yD (yD (yA rfl ?_)))))
       obtain ⟨q2, hq2⟩ := hsub _ _ _ hx
       have hr2 : r2.length ≤ r'.length := by rw [hq2]; simp
       iterate 3 refine yF ?_
       refine yE (yB (yC (yJ (yL (yC (yD (yA rfl ?_)))))))
       iterate 8 refine yF ?_
       refine yE (yB (yC (yA rfl ?_)))
       iterate 3 refine yF ?_
       refine yE (yB (yS (yC (yA rfl ?_))))
       iterate 3 refine yF ?_
       refine yE (yB ?_)
       refine xE (i + 1) (wF ?_) ?_ ?_
       ·refine wL [(.r 0 0 0, .r 0 0 0), (.r 3 5 0, .r 3 5 0), (.n 9, .n 9)] ?_ ?_ ?_ <;> simp [mN, lH, eD hm hx, uZ, wC]
       ·exact ⟨by omega, _, eD hm hx⟩
       ·(first | omega | (simp only []; omega))
     ·(try simp only [zB] at hc5)
      refine xQ (yM (yN (yK (yC (yD (yA rfl ?_))))))
      obtain rfl : i = N := by omega
      have he : yAk s (pJ deep sub (s.drop a)) = mN (.mk 3 0 [] l) ((s.length : Int) - r'.length) := by rw [hda, gS_3 (by omega), hN, if_pos ⟨h1, hdp⟩, hdd, hm]; rfl
      iterate 4 refine yF ?_
      refine yE (yB (yC (yO ?_)))
      refine ⟨.inr rfl, yP [] (by rw [results102]) ?_ ?_ ?_⟩ <;> simp [Wr.cellsL_len, wA, Wr.k_mk, Wr.n_mk, Wr.s_mk, Wr.l_mk, Wr.cellsL, Wr.z_eq, mN, he, t1, t2, hll]
  ·try (have hk : ((s.getD a 0).toNat : Int) = (k.toNat : Int) := by rw [hk0]); have hkn : k.toNat ≠ 1 ∧ k.toNat ≠ 2 ∧ k.toNat ≠ 3 := ⟨fun e => hko.1 (UInt8.toNat_inj.1 e), fun e => hko.2.1 (UInt8.toNat_inj.1 e), fun e => hko.2.2 (UInt8.toNat_inj.1 e)⟩
   iterate 2 refine yF ?_
   refine yF (hs := by (simp only [push_cast, hk] <;> rfl)) ?_
   iterate 4 refine yF ?_
   refine yE (yB (yC (yD (yD (yA rfl ?_)))))
   iterate 3 refine yF ?_
   refine yE (yB (yC (yJ (yL (yC (yD (yA rfl ?_)))))))
   obtain ⟨N, hN⟩ : ∃ N, bn ((s.drop (a + 1)).take 4) = N := ⟨_, rfl⟩
   have hN4 : N < 4294967296 := by rw [← hN]; exact lP _ (by rw [List.length_take]; omega)
   have t2 : ((a : Int) + 5 + N).toNat = a + 5 + N := by omega
   iterate 3 refine yF ?_
   refine yU [] false ((by have h := mS Γ s (a + 1) 4 (by omega) (by omega) hs; rw [hJ (lP _ (by rw [List.length_take]; omega)), hN] at h; rwa [show ((a + 1 : Nat) : Int) = (a : Int) + 1 from by omega] at h)) ?_
   refine yF ?_
   refine yE (yB (yC (yD (yH (yD (yA rfl ?_))))))
   skip
   iterate 4 refine yF ?_
   iterate 2 refine wJ ?_
   iterate 2 refine yF ?_
   iterate 7 refine wJ ?_
   iterate 2 refine yF ?_
   refine yE (yB (yC (yJ (yD (yA rfl ?_)))))
   skip
   iterate 4 refine yF ?_
   iterate 2 refine wJ ?_
   iterate 2 refine yF ?_
   iterate 2 refine wJ ?_
   iterate 2 refine yF ?_
   refine yE (yB (yC (xF (yD (yA rfl ?_)))))
   have he : yAk s (pJ deep sub (s.drop a)) = mN Wr.z (-1) := by rw [hda, gS_o hko]; rfl
   iterate 2 refine yF ?_
   refine yE (yB (yC (yO (yI (yG ?_)))))
   refine ⟨.inr rfl, yP [] (by rw [results102]) ?_ ?_ ?_⟩ <;> simp [Wr.cellsL_len, wA, Wr.k_mk, Wr.n_mk, Wr.s_mk, Wr.l_mk, Wr.cellsL, Wr.z_eq, mN, he, t1, t2]
theorem mM (Γ : Gl) (s : List UInt8) (hs : s.length ≤ 1000000) : ∀ (d : Nat), d ≤ 6 → ∀ a : Nat, a ≤ s.length → Go.Ot.Good Γ prog 102 [.t (txt s), .t (num a), .t (num d)] [] (yAk s (getW d (s.drop a))) [] []
 | 0, h, a, ha => by rw [getW_z]; exact bX Γ 0 h false (by simp) _ (fun _ _ _ h => by cases h) s hs (fun h => by cases h) a ha
 | d + 1, h, a, ha => by
  rw [getW_s]
  exact bX Γ (d + 1) h true (by simp) (getW d) (getW_suf d) s hs (fun _ a ha => by
   have := mM Γ s hs d (by omega) a ha
   rwa [show ((d + 1 : Nat) : Int) - 1 = (d : Int) from by omega]) a ha
def gotD : Option Wr → D
 | some w => .agg [.t (num w.k), .t (num w.n), .t (txt w.s), .t (.sl w.l.length (Wr.cellsL w.l)), .t (bol true)]
 | none => .agg [.t (num Wr.z.k), .t (num Wr.z.n), .t (txt Wr.z.s), .t (.sl Wr.z.l.length (Wr.cellsL Wr.z.l)), .t (bol false)]
theorem yEr (w : Wr) : gotD (some w) = .agg [.t (num w.k), .t (num w.n), .t (txt w.s), .t (.sl w.l.length (Wr.cellsL w.l)), .t (bol true)] := rfl
theorem gotD_none : gotD none = .agg [.t (num Wr.z.k), .t (num Wr.z.n), .t (txt Wr.z.s), .t (.sl Wr.z.l.length (Wr.cellsL Wr.z.l)), .t (bol false)] := rfl
theorem GetR_1 (Γ : Gl) (s : List UInt8) (hs : s.length ≤ 1000000) (w : Wr) (hx : getW 6 s = some (w, [])) : Go.Ot.Good Γ prog 45 [.t (txt s)] [] ((gotD (got s))) [] [] := by
 refine yR F.mix func45 (by rfl) ntmps45 ?_
 refine yD (yA rfl ?_)
 refine yF ?_
 refine yE (yB (yC (yD (yA rfl ?_))))
 refine yF ?_
 refine yU [] true ((by have h := mM Γ s hs 6 (by omega) 0 (by omega); rw [List.drop_zero, hx, pH, List.length_nil, Int.natCast_zero, Int.sub_zero] at h; exact h)) ?_
 iterate 2 refine yF ?_
 refine yE (yB (yC (yD (yD (yA rfl ?_)))))
 iterate 5 refine yF ?_
 refine yE (yB (yC (yJ (yL (yC (yD (yA rfl ?_)))))))
 iterate 4 refine yF ?_
 refine yE (yB (yC (yO ?_)))
 refine ⟨.inr rfl, yP [] (by rw [results45]) ?_ ?_ ?_⟩ <;> simp [got_1 hx, yEr]
theorem GetR_2 (Γ : Gl) (s : List UInt8) (hs : s.length ≤ 1000000) (w : Wr) (a : UInt8) (r : List UInt8) (hx : getW 6 s = some (w, a :: r)) : Go.Ot.Good Γ prog 45 [.t (txt s)] [] ((gotD (got s))) [] [] := by
 have hne : ¬ ((s.length : Int) - (a :: r).length = s.length) := by simp only [List.length_cons]; omega
 refine yR F.mix func45 (by rfl) ntmps45 ?_
 refine yD (yA rfl ?_)
 refine yF ?_
 refine yE (yB (yC (yD (yA rfl ?_))))
 refine yF ?_
 refine yU [] true ((by have h := mM Γ s hs 6 (by omega) 0 (by omega); rw [List.drop_zero, hx, pH] at h; exact h)) ?_
 iterate 2 refine yF ?_
 refine yE (yB (yC (yD (yD (yA rfl ?_)))))
 iterate 4 refine yF ?_
 refine yF (hs := by (simp only [push_cast, List.length_cons] at hne ⊢; simp only [hne] <;> rfl)) ?_
 refine yE (yB (yC (xF (yD (yA rfl ?_)))))
 iterate 2 refine yF ?_
 refine yE (yB (yC (yO (yG ?_))))
 refine ⟨.inr rfl, yP [] (by rw [results45]) ?_ ?_ ?_⟩ <;> simp [Wr.cellsL_len, wA, Wr.k_mk, Wr.n_mk, Wr.s_mk, Wr.l_mk, Wr.cellsL, Wr.z_eq, got_2 hx, gotD_none]
theorem GetR_3 (Γ : Gl) (s : List UInt8) (hs : s.length ≤ 1000000) (hx : getW 6 s = none) : Go.Ot.Good Γ prog 45 [.t (txt s)] [] ((gotD (got s))) [] [] := by
 refine yR F.mix func45 (by rfl) ntmps45 ?_
 refine yD (yA rfl ?_)
 refine yF ?_
 refine yE (yB (yC (yD (yA rfl ?_))))
 refine yF ?_
 refine yU [] true ((by have h := mM Γ s hs 6 (by omega) 0 (by omega); rw [List.drop_zero, hx, aE] at h; exact h)) ?_
 iterate 2 refine yF ?_
 refine yE (yB (yC (yD (yD (yA rfl ?_)))))
 iterate 5 refine yF ?_
 refine yE (yB (yC (xF (yD (yA rfl ?_)))))
 iterate 2 refine yF ?_
 refine yE (yB (yC (yO (yG ?_))))
 refine ⟨.inr rfl, yP [] (by rw [results45]) ?_ ?_ ?_⟩ <;> simp [Wr.cellsL_len, wA, Wr.k_mk, Wr.n_mk, Wr.s_mk, Wr.l_mk, Wr.cellsL, Wr.z_eq, got_3 hx, gotD_none]
theorem yFf (Γ : Gl) (s : List UInt8) (hs : s.length ≤ 1000000) : Go.Ot.Good Γ prog 45 [.t (txt s)] [] (gotD (got s)) [] [] := by
 rcases hx : getW 6 s with _ | ⟨w, _ | ⟨a, r⟩⟩
 ·exact GetR_3 Γ s hs hx
 ·exact GetR_1 Γ s hs w hx
 ·exact GetR_2 Γ s hs w a r hx
end Go.Proofs.Tryz
