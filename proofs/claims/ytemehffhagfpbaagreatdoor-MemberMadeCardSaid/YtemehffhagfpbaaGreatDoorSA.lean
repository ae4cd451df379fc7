/- Contracts of this program's functions. -/
import Derived.Test.YtemehffhagfpbaaGreatDoorSF
set_option maxHeartbeats 4000000
set_option maxRecDepth 100000
set_option linter.unusedVariables false
set_option linter.unusedSimpArgs false
namespace Go.Proofs.Tryz
open Go Go.Ot
attribute [local irreducible] wpK wpS seqK blockK loopF regK meetK OpSpec Le

/-! ### sha, plainly -/
def rotr (x : UInt32) (n : Nat) : UInt32 := sl32 x (32 - n) ||| sr32 x n
def rots (x : UInt32) (ns : List Nat) : Nat → UInt32
 | 0 => 0
 | i + 1 => rots x ns i ^^^ rotr x (ns.getD i 0)
def rots3 (x : UInt32) (a b c : Nat) : UInt32 := rotr x a ^^^ rotr x b ^^^ rotr x c
def wordTo (s : List UInt8) (i : Nat) : Nat → UInt32
 | 0 => 0
 | k + 1 => sl32 (wordTo s i k) 8 ||| (s.getD (4 * i + k) 0).toUInt32
def sig0 (a : UInt32) : UInt32 := rotr a 7 ^^^ rotr a 18 ^^^ sr32 a 3
def sig1 (b : UInt32) : UInt32 := rotr b 17 ^^^ rotr b 19 ^^^ sr32 b 10
def nextW (w : List UInt32) (i : Nat) : UInt32 := w.getD (i - 16) 0 + w.getD (i - 7) 0 + sig0 (w.getD (i - 15) 0) + sig1 (w.getD (i - 2) 0)
def sched (s : List UInt8) : Nat → List UInt32
 | 0 => List.replicate 64 0
 | i + 1 => (sched s i).set i (if i < 16 then wordTo s i 4 else nextW (sched s i) i)
theorem sched_len (s : List UInt8) : ∀ i, (sched s i).length = 64
 | 0 => by simp [sched]
 | i + 1 => by simp [sched, sched_len s i]
theorem sched_zero (s : List UInt8) : ∀ i j, i ≤ j → (sched s i).getD j 0 = 0
 | 0, j, _ => by
  simp only [sched, List.getD_eq_getElem?_getD, List.getElem?_replicate]
  split <;> rfl
 | i + 1, j, h => by
  have := sched_zero s i j (by omega)
  simp only [sched, List.getD_eq_getElem?_getD] at this ⊢
  rw [List.getElem?_set_ne (by omega)]
  exact this
theorem set_getD {α : Type} [Inhabited α] : ∀ (l : List α) (i : Nat), l.set i (l.getD i default) = l
 | [], i => by simp
 | a :: l, 0 => by simp
 | a :: l, i + 1 => by simpa using set_getD l i
theorem sched_set0 (s : List UInt8) (i : Nat) : (sched s i).set i 0 = sched s i := by
 have h := set_getD (sched s i) i
 have e : (sched s i).getD i default = 0 := sched_zero s i i (Nat.le_refl _)
 rwa [e] at h
def K64 : List UInt32 := [0x428a2f98, 0x71374491, 0xb5c0fbcf, 0xe9b5dba5, 0x3956c25b, 0x59f111f1, 0x923f82a4, 0xab1c5ed5, 0xd807aa98, 0x12835b01, 0x243185be, 0x550c7dc3, 0x72be5d74, 0x80deb1fe, 0x9bdc06a7, 0xc19bf174, 0xe49b69c1, 0xefbe4786, 0x0fc19dc6, 0x240ca1cc, 0x2de92c6f, 0x4a7484aa, 0x5cb0a9dc, 0x76f988da, 0x983e5152, 0xa831c66d, 0xb00327c8, 0xbf597fc7, 0xc6e00bf3, 0xd5a79147, 0x06ca6351, 0x14292967, 0x27b70a85, 0x2e1b2138, 0x4d2c6dfc, 0x53380d13, 0x650a7354, 0x766a0abb, 0x81c2c92e, 0x92722c85, 0xa2bfe8a1, 0xa81a664b, 0xc24b8b70, 0xc76c51a3, 0xd192e819, 0xd6990624, 0xf40e3585, 0x106aa070, 0x19a4c116, 0x1e376c08, 0x2748774c, 0x34b0bcb5, 0x391c0cb3, 0x4ed8aa4a, 0x5b9cca4f, 0x682e6ff3, 0x748f82ee, 0x78a5636f, 0x84c87814, 0x8cc70208, 0x90befffa, 0xa4506ceb, 0xbef9a3f7, 0xc67178f2]
def H0 : List UInt32 := [0x6a09e667, 0xbb67ae85, 0x3c6ef372, 0xa54ff53a, 0x510e527f, 0x9b05688c, 0x1f83d9ab, 0x5be0cd19]
def tt (x : List UInt32) (k w : UInt32) : UInt32 := x.getD 7 0 + rots3 (x.getD 4 0) 6 11 25 + (x.getD 4 0 &&& x.getD 5 0 ^^^ ~~~ x.getD 4 0 &&& x.getD 6 0) + k + w
def uu (x : List UInt32) : UInt32 := rots3 (x.getD 0 0) 2 13 22 + (x.getD 0 0 &&& x.getD 1 0 ^^^ x.getD 0 0 &&& x.getD 2 0 ^^^ x.getD 1 0 &&& x.getD 2 0)
def rnd (x : List UInt32) (k w : UInt32) : List UInt32 := [tt x k w + uu x, x.getD 0 0, x.getD 1 0, x.getD 2 0, x.getD 3 0 + tt x k w, x.getD 4 0, x.getD 5 0, x.getD 6 0]
def rnds (h w : List UInt32) : Nat → List UInt32
 | 0 => h
 | i + 1 => rnd (rnds h w i) (K64.getD i 0) (w.getD i 0)
def addTo (h x : List UInt32) : Nat → List UInt32
 | 0 => x
 | i + 1 => (addTo h x i).set i ((addTo h x i).getD i 0 + h.getD i 0)
def takeB (h : List UInt32) (s : List UInt8) : List UInt32 := addTo h (rnds h (sched s 64) 64) 8
theorem rnds_len (h w : List UInt32) (hh : h.length = 8) : ∀ i, (rnds h w i).length = 8
 | 0 => hh
 | i + 1 => rfl
theorem addTo_len (h x : List UInt32) : ∀ i, (addTo h x i).length = x.length
 | 0 => rfl
 | i + 1 => by simp [addTo, addTo_len h x i]
theorem takeB_len (h : List UInt32) (s : List UInt8) (hh : h.length = 8) : (takeB h s).length = 8 := by rw [takeB, addTo_len, rnds_len _ _ hh]
def be64 (n : UInt64) : Nat → List UInt8
 | 0 => []
 | j + 1 => be64 n j ++ [(sr64 n ((8 : Int) * (7 - (j : Int))).toNat).toUInt8]
theorem be64_len (n : UInt64) : ∀ j, (be64 n j).length = j
 | 0 => rfl
 | j + 1 => by simp [be64, be64_len n j]
/-- A text, made as long as whole chunks. -/
def padB (s : List UInt8) : List UInt8 := s ++ [128] ++ List.replicate ((120 - (s.length + 1) % 64) % 64) 0 ++ be64 (UInt64.ofInt s.length * 8) 8
theorem padB_len (s : List UInt8) : (padB s).length % 64 = 0 := by
 simp only [padB, List.length_append, List.length_replicate, be64_len, List.length_cons, List.length_nil]
 omega
def chunks (p : List UInt8) : Nat → List UInt32
 | 0 => H0
 | i + 1 => takeB (chunks p i) ((p.drop (64 * i)).take 64)
theorem chunks_len (p : List UInt8) : ∀ i, (chunks p i).length = 8
 | 0 => rfl
 | i + 1 => takeB_len _ _ (chunks_len p i)
def outB (h : List UInt32) : Nat → List UInt8
 | 0 => []
 | i + 1 => outB h i ++ [(sr32 (h.getD i 0) 24).toUInt8, (sr32 (h.getD i 0) 16).toUInt8, (sr32 (h.getD i 0) 8).toUInt8, (h.getD i 0).toUInt8]
theorem outB_len (h : List UInt32) : ∀ i, (outB h i).length = 4 * i
 | 0 => rfl
 | i + 1 => by simp [outB, outB_len h i]; omega
def sha (s : List UInt8) : List UInt8 := outB (chunks (padB s) ((padB s).length / 64)) 8
theorem sha_len (s : List UInt8) : (sha s).length = 32 := outB_len _ _
theorem drop_more {p : List UInt8} {i : Nat} (hp : p.length % 64 = 0) (h : p.drop (64 * i) ≠ []) : 64 * i + 64 ≤ p.length := by
 have : ¬ p.length ≤ 64 * i := fun e => h (List.drop_eq_nil_of_le e)
 omega
theorem drop_done {p : List UInt8} {i : Nat} (hp : p.length % 64 = 0) (hi : 64 * i ≤ p.length) (h : p.drop (64 * i) = []) : p.length / 64 = i := by
 have : p.length ≤ 64 * i := by
  have := congrArg List.length h
  simp at this
  omega
 omega
theorem rot_and : ∀ n : Nat, n < 32 → 0 < n → bits .and .u64 (IntKind.u64.wrap (-(n : Int))) 31 = ((32 - n : Nat) : Int) := by decide
theorem set8 {l : List UInt32} (hl : l.length = 8) (a b c d e f g h : UInt32) : (((((((l.set 0 a).set 1 b).set 2 c).set 3 d).set 4 e).set 5 f).set 6 g).set 7 h = [a, b, c, d, e, f, g, h] := by
 match l, hl with
 | [_, _, _, _, _, _, _, _], _ => rfl
theorem K64_len : K64.length = 64 := by decide
theorem H0_len : H0.length = 8 := by decide
def lft (x : UInt32) (n : Nat) : UInt32 := sl32 x n ||| sr32 x (32 - n)
theorem lft_rotr (x : UInt32) (n : Nat) (h : n ≤ 32) : lft x (32 - n) = rotr x n := by simp only [lft, rotr]; rw [show 32 - (32 - n) = n from by omega]
attribute [push_cast] sched_len rnds_len K64_len H0_len addTo_len be64_len outB_len
theorem rots3_eq (x : UInt32) (a b c : Nat) : rots x [a, b, c] 3 = rots3 x a b c := by simp [rots, rots3, UInt32.zero_xor]
theorem rotl_good (Γ : Gl) (x : UInt32) (n : Nat) (h0 : 0 < n) (h1 : n < 32) : Go.Ot.Good Γ prog 88 [.t (w32 x), .t (num (-(n : Int)))] [] (.t (w32 (rotr x n))) [] [] := by
 refine a_body F.mix func88 (by rfl) ntmps88 ?_
 refine k_seq ?_
 refine k_region rfl ?_
 refine a_op ?_
 refine s_nil (r_false ?_)
 refine q_next ?_
 refine k_seq ?_
 refine k_region rfl ?_
 refine a_op ?_
 refine a_op ?_
 refine a_op (hs := by (simp only [push_cast, rot_and n h1 h0] <;> rfl)) ?_
 refine a_op ?_
 refine s_nil (r_false ?_)
 refine q_next ?_
 refine k_seq ?_
 refine k_region rfl ?_
 iterate 9 refine a_op ?_
 refine s_nil (r_false ?_)
 refine q_next ?_
 refine k_ret ?_
 refine ⟨.inr rfl, a_ret [] (by rw [results88]) ?_ ?_ ?_⟩ <;> simp [-List.map_set, -List.map_replicate, -List.reduceReplicate, -List.map_map, -List.map_drop, -List.map_take, num, bol, txt, w8, w16, w32, w64, lst, cls, rowO, boxO, List.take_of_length_le, rotr, w32, show ((32 : Int) - (32 - (n : Int))).toNat = n from by omega]

theorem turned_good (Γ : Gl) (x : UInt32) (ns : List Nat) (hn : ns.length ≤ 100) (hr : ∀ i, i < ns.length → 0 < ns.getD i 0 ∧ ns.getD i 0 < 32) : Go.Ot.Good Γ prog 75 [.t (w32 x), .t (lst (fun n : Nat => num n) ns)] [] (.t (w32 (rots x ns ns.length))) [] [] := by
 refine a_body F.mix func75 (by rfl) ntmps75 ?_
 refine k_seq ?_
 refine k_region rfl ?_
 refine a_op ?_
 refine s_nil (r_false ?_)
 refine q_next ?_
 refine k_seq ?_
 refine k_region rfl ?_
 refine a_op ?_
 refine s_nil (r_false ?_)
 refine q_next ?_
 refine k_seq ?_
 refine k_seq ?_
 refine k_region rfl ?_
 iterate 3 refine a_op ?_
 refine s_nil (r_false ?_)
 refine q_next ?_
 refine k_block ?_
 refine k_loopF (fun sl L (i : Nat) => ⟨setAll (setBad sl [1, 7, 11, 12, 13, 14, 15, 16, 17, 18, 19, 20]) [(5, .t (w32 (rots x ns i))), (10, .t (num i))], Go.Ot.look (L)⟩) (fun i => i ≤ ns.length) (fun i => ns.length - i) (0) (a_le ?_) ?_ ?_
 ·refine le_same ?_ ?_ ?_ <;> simp [-List.map_set, -List.map_replicate, -List.reduceReplicate, -List.map_map, -List.map_drop, -List.map_take, num, bol, txt, w8, w16, w32, w64, lst, cls, rowO, boxO, List.take_of_length_le, rots]
 ·(first | omega | simp)
 ·intro i hi
  refine a_st ?_
  refine k_seq ?_
  refine k_region rfl ?_
  refine a_op ?_
  refine s_nil (r_false ?_)
  refine q_next ?_
  refine k_seq ?_
  refine a_if (fun hc0 => ?_) (fun hc0 => ?_)
  ·(try simp only [Bool.and_eq_true, Bool.or_eq_true, Bool.or_eq_false_iff, Bool.not_eq_true', Bool.not_eq_false', dec_t, dec_f, Bool.and_eq_false_imp, beq_iff_eq, beq_eq_false_iff_ne, ne_eq] at hc0)
   refine k_skip ?_
   refine q_next ?_
   refine k_seq ?_
   refine k_block ?_
   refine k_seq ?_
   refine k_region rfl ?_
   iterate 3 refine a_op ?_
   refine s_nil (r_false ?_)
   refine q_next ?_
   refine k_region rfl ?_
   obtain ⟨hr1, hr2⟩ := hr i (by omega)
   iterate 4 refine a_op ?_
   refine a_call [] false (rotl_good Γ x (ns.getD i 0) (hr i (by omega)).1 (hr i (by omega)).2) ?_
   refine a_op ?_
   refine a_op ?_
   refine s_nil (r_false ?_)
   refine q_block (q_next ?_)
   refine k_region rfl ?_
   refine a_op ?_
   refine a_op ?_
   refine s_nil (r_false ?_)
   refine q_loopF (i + 1) (a_le ?_) ?_ ?_
   ·refine le_same ?_ ?_ ?_ <;> simp [-List.map_set, -List.map_replicate, -List.reduceReplicate, -List.map_map, -List.map_drop, -List.map_take, num, bol, txt, w8, w16, w32, w64, lst, cls, rowO, boxO, List.take_of_length_le, rots, w32, num]
   ·(first | omega | (simp_all <;> omega))
   ·(first | omega | (simp only []; omega))
  ·(try simp only [Bool.and_eq_true, Bool.or_eq_true, Bool.or_eq_false_iff, Bool.not_eq_true', Bool.not_eq_false', dec_t, dec_f, Bool.and_eq_false_imp, beq_iff_eq, beq_eq_false_iff_ne, ne_eq] at hc0)
   refine k_exit ?_
   refine q_seq_exit (q_loopF_exit (q_block_exit (q_next ?_)))
   refine k_seq ?_
   refine k_region rfl ?_
   refine a_op ?_
   refine a_op ?_
   refine s_nil (r_false ?_)
   refine q_next ?_
   refine k_ret ?_
   refine ⟨.inr rfl, a_ret [] (by rw [results75]) ?_ ?_ ?_⟩ <;> simp [-List.map_set, -List.map_replicate, -List.reduceReplicate, -List.map_map, -List.map_drop, -List.map_take, num, bol, txt, w8, w16, w32, w64, lst, cls, rowO, boxO, List.take_of_length_le, w32, show i = ns.length from by omega]

end Go.Proofs.Tryz
