import Derived.Test.YtihkemlgdfjmjaaDoorSK0
import Derived.Test.YtihkemlgdfjmjaaDoorSI
set_option maxHeartbeats 4000000
set_option maxRecDepth 100000
set_option linter.unusedVariables false
set_option linter.unusedSimpArgs false
namespace Go.Proofs.Tryd
open Go Go.Ot

def nonB (n : Int) (i : Nat) : UInt8 := UInt8.ofInt (n / 2 ^ min ((8 : Int) * (i : Int)).toNat 64)
def nonTo (n : Int) : Nat → List UInt8
  | 0 => List.replicate 12 0
  | i + 1 => (nonTo n i).set ((11 : Int) - (i : Int)).toNat (nonB n i)
theorem nonTo_len (n : Int) : ∀ i, (nonTo n i).length = 12
  | 0 => rfl
  | i + 1 => by simp [nonTo, nonTo_len n i]
theorem ofI8k (x : Int) : ((UInt8.ofInt x).toNat : Int) = x % 256 := by
  rw [UInt8.ofInt, UInt8.toNat_ofNat']
  omega
theorem ofI64k (x : Int) : ((UInt64.ofInt x).toNat : Int) = x % 18446744073709551616 := by
  rw [UInt64.ofInt, UInt64.toNat_ofNat']
  omega
theorem sr_byte (x : UInt64) (k : Nat) (p : Nat) (h : k < 64) (hp : 2 ^ k = p) : (((sr64 x k).toUInt8).toNat : Int) = ((x.toNat : Int) / (p : Int)) % 256 := by
  have hx := x.toNat_lt
  have : x.toNat / p ≤ x.toNat := Nat.div_le_self _ _
  rw [UInt64.toNat_toUInt8, sr64, UInt64.toNat_ofNat', Nat.shiftRight_eq_div_pow, hp]
  omega
theorem nonB_eq (n : Int) (i : Nat) (h : i ≤ 7) : nonB n i = (sr64 (UInt64.ofInt n) ((8 : Int) * (i : Int)).toNat).toUInt8 := by
  apply UInt8.toNat_inj.1
  apply Int.ofNat.inj
  show ((nonB n i).toNat : Int) = _
  rw [nonB, ofI8k]
  have hx := ofI64k n
  rcases i with _ | _ | _ | _ | _ | _ | _ | _ | i
  · exact ((sr_byte (UInt64.ofInt n) 0 1 (by decide) (by decide)).trans (by rw [hx]; show _ = n / 1 % 256; omega)).symm
  · exact ((sr_byte (UInt64.ofInt n) 8 256 (by decide) (by decide)).trans (by rw [hx]; show _ = n / 256 % 256; omega)).symm
  · exact ((sr_byte (UInt64.ofInt n) 16 65536 (by decide) (by decide)).trans (by rw [hx]; show _ = n / 65536 % 256; omega)).symm
  · exact ((sr_byte (UInt64.ofInt n) 24 16777216 (by decide) (by decide)).trans (by rw [hx]; show _ = n / 16777216 % 256; omega)).symm
  · exact ((sr_byte (UInt64.ofInt n) 32 4294967296 (by decide) (by decide)).trans (by rw [hx]; show _ = n / 4294967296 % 256; omega)).symm
  · exact ((sr_byte (UInt64.ofInt n) 40 1099511627776 (by decide) (by decide)).trans (by rw [hx]; show _ = n / 1099511627776 % 256; omega)).symm
  · exact ((sr_byte (UInt64.ofInt n) 48 281474976710656 (by decide) (by decide)).trans (by rw [hx]; show _ = n / 281474976710656 % 256; omega)).symm
  · exact ((sr_byte (UInt64.ofInt n) 56 72057594037927936 (by decide) (by decide)).trans (by rw [hx]; show _ = n / 72057594037927936 % 256; omega)).symm
  · omega
theorem eight_nonB (n : Int) : eight n = [nonB n 7, nonB n 6, nonB n 5, nonB n 4, nonB n 3, nonB n 2, nonB n 1, nonB n 0] := by
  rw [nonB_eq n 7 (by omega), nonB_eq n 6 (by omega), nonB_eq n 5 (by omega), nonB_eq n 4 (by omega), nonB_eq n 3 (by omega), nonB_eq n 2 (by omega), nonB_eq n 1 (by omega), nonB_eq n 0 (by omega)]
  rfl
theorem nonTo_eight (n : Int) : nonTo n 8 = 0 :: 0 :: 0 :: 0 :: eight n := by rw [eight_nonB]; rfl
theorem eight_inj {a b : Int} (ha : -9223372036854775808 ≤ a) (ha' : a ≤ 9223372036854775807) (hb : -9223372036854775808 ≤ b) (hb' : b ≤ 9223372036854775807) (h : eight a = eight b) : a = b := by
  rw [eight_nonB, eight_nonB] at h
  simp only [List.cons.injEq, and_true] at h
  obtain ⟨h7, h6, h5, h4, h3, h2, h1, h0⟩ := h
  have k (i : Nat) (p : Int) (hp : 2 ^ min ((8 : Int) * (i : Int)).toNat 64 = p) (hh : nonB a i = nonB b i) : a / p % 256 = b / p % 256 := by
    have := congrArg (fun x : UInt8 => (x.toNat : Int)) hh
    simp only [nonB, ofI8k, hp] at this
    exact this
  have k0 := k 0 1 (by decide) h0
  have k1 := k 1 256 (by decide) h1
  have k2 := k 2 65536 (by decide) h2
  have k3 := k 3 16777216 (by decide) h3
  have k4 := k 4 4294967296 (by decide) h4
  have k5 := k 5 1099511627776 (by decide) h5
  have k6 := k 6 281474976710656 (by decide) h6
  have k7 := k 7 72057594037927936 (by decide) h7
  omega
theorem nn_eq {a b : Int} (ha : -9223372036854775808 ≤ a) (ha' : a ≤ 9223372036854775807) (hb : -9223372036854775808 ≤ b) (hb' : b ≤ 9223372036854775807) : (((0 : UInt8) :: 0 :: 0 :: 0 :: eight a == 0 :: 0 :: 0 :: 0 :: eight b) == decide (a = b)) = true := by
  by_cases h : a = b
  · subst h; simp
  · have h2 : ¬ eight a = eight b := fun e => h (eight_inj ha ha' hb hb' e)
    simp [h, h2]
theorem eight_dec {a b : Int} (ha : -9223372036854775808 ≤ a) (ha' : a ≤ 9223372036854775807) (hb : -9223372036854775808 ≤ b) (hb' : b ≤ 9223372036854775807) : (eight a = eight b) = (a = b) := by
  apply propext
  exact ⟨eight_inj ha ha' hb hb', fun h => by rw [h]⟩
attribute [local irreducible] wpK wpS seqK blockK loopF regK meetK OpSpec Le eight be64
theorem nonce_good (Γ : Gl) (n : Int) : Go.Ot.Good Γ prog 6 [.t (num n)] [] (.t (txt (0 :: 0 :: 0 :: 0 :: eight n))) [] [] := by
  refine a_body F.mix func6 (by rfl) ntmps6 ?_
  refine k_seq ?_
  refine k_region rfl ?_
  refine a_op ?_
  refine s_nil (r_false ?_)
  refine q_next ?_
  refine k_seq ?_
  refine k_region rfl ?_
  refine a_op ?_
  rw [show ([.t (.v (.int .u8 0)), .t (.v (.int .u8 0)), .t (.v (.int .u8 0)), .t (.v (.int .u8 0)), .t (.v (.int .u8 0)), .t (.v (.int .u8 0)), .t (.v (.int .u8 0)), .t (.v (.int .u8 0)), .t (.v (.int .u8 0)), .t (.v (.int .u8 0)), .t (.v (.int .u8 0)), .t (.v (.int .u8 0))] : List D) = ((List.replicate 12 (0 : UInt8)).map w8).map D.t from rfl]
  refine a_op ?_
  refine s_nil (r_false ?_)
  refine q_next ?_
  refine k_seq ?_
  refine k_seq ?_
  refine k_region rfl ?_
  refine a_op ?_
  refine s_nil (r_false ?_)
  refine q_next ?_
  refine k_block ?_
  refine k_loopF (fun sl L (i : Nat) => ⟨setAll (setBad sl [4, 5, 7, 8, 9, 10, 11, 12, 13, 14, 15, 16, 17, 18]) [(6, .t (num i))], Go.Ot.look (putL (.r 1 0 0) (rowO 5 w8 (nonTo n i)) L)⟩) (fun i => i ≤ 8) (fun i => 8 - i) (0) (a_le ?_) ?_ ?_
  · refine le_same ?_ ?_ ?_ <;> simp [-List.map_set, -List.map_replicate, -List.reduceReplicate, -List.map_map, -List.map_drop, -List.map_take, num, bol, txt, w8, w16, w32, w64, lst, cls, rowO, boxO, List.take_of_length_le, nonTo]
  · (first | omega | simp)
  · intro i hi
    have hl := nonTo_len n i
    refine a_st ?_
    refine k_seq ?_
    refine k_region rfl ?_
    refine a_op ?_
    refine s_nil (r_false ?_)
    refine q_next ?_
    refine k_seq ?_
    refine a_if (fun hc0 => ?_) (fun hc0 => ?_)
    · (try simp only [Bool.and_eq_true, Bool.or_eq_true, Bool.or_eq_false_iff, Bool.not_eq_true', Bool.not_eq_false', dec_t, dec_f, Bool.and_eq_false_imp, beq_iff_eq, beq_eq_false_iff_ne, ne_eq] at hc0)
      refine k_skip ?_
      refine q_next ?_
      refine k_seq ?_
      refine k_block ?_
      refine k_seq ?_
      refine k_region rfl ?_
      refine a_op ?_
      refine a_op ?_
      refine s_nil (r_false ?_)
      refine q_next ?_
      refine k_region rfl ?_
      iterate 7 refine a_op ?_
      refine a_cv8 ?_
      refine a_op ?_
      refine a_op ?_
      refine s_nil (r_false ?_)
      refine q_block (q_next ?_)
      refine k_region rfl ?_
      refine a_op ?_
      refine a_op ?_
      refine s_nil (r_false ?_)
      refine q_loopF (i + 1) (a_le ?_) ?_ ?_
      · refine le_same ?_ ?_ ?_ <;> simp [-List.map_set, -List.map_replicate, -List.reduceReplicate, -List.map_map, -List.map_drop, -List.map_take, num, bol, txt, w8, w16, w32, w64, lst, cls, rowO, boxO, List.take_of_length_le, nonTo, nonB]
      · (first | omega | (simp_all <;> omega))
      · (first | omega | (simp only []; omega))
    · (try simp only [Bool.and_eq_true, Bool.or_eq_true, Bool.or_eq_false_iff, Bool.not_eq_true', Bool.not_eq_false', dec_t, dec_f, Bool.and_eq_false_imp, beq_iff_eq, beq_eq_false_iff_ne, ne_eq] at hc0)
      refine k_exit ?_
      refine q_seq_exit (q_loopF_exit (q_block_exit (q_next ?_)))
      refine k_seq ?_
      refine k_region rfl ?_
      obtain rfl : i = 8 := by omega
      refine a_op ?_
      first | refine a_text ?_ | refine a_texts ?_
      refine a_op ?_
      refine s_nil (r_false ?_)
      refine q_next ?_
      refine k_ret ?_
      refine ⟨.inr rfl, a_ret [] (by rw [results6]) ?_ ?_ ?_⟩ <;> simp [-List.map_set, -List.map_replicate, -List.reduceReplicate, -List.map_map, -List.map_drop, -List.map_take, num, bol, txt, w8, w16, w32, w64, lst, cls, rowO, boxO, List.take_of_length_le, nonTo_eight]

theorem refnonce_good (Γ : Gl) (n : Int) : Go.Ot.Good Γ prog 16 [.t (num n)] [] (.t (txt (0 :: 0 :: 0 :: 0 :: eight n))) [] [] := by
  refine a_body F.mix func16 (by rfl) ntmps16 ?_
  refine k_seq ?_
  refine k_region rfl ?_
  refine a_op ?_
  refine s_nil (r_false ?_)
  refine q_next ?_
  refine k_seq ?_
  refine k_region rfl ?_
  refine a_op ?_
  refine a_call [] false (eight_good Γ n) ?_
  refine a_op ?_
  refine a_op ?_
  refine s_nil (r_false ?_)
  refine q_next ?_
  refine k_ret ?_
  refine ⟨.inr rfl, a_ret [] (by rw [results16]) ?_ ?_ ?_⟩ <;> simp [-List.map_set, -List.map_replicate, -List.reduceReplicate, -List.map_map, -List.map_drop, -List.map_take, num, bol, txt, w8, w16, w32, w64, lst, cls, rowO, boxO, List.take_of_length_le]

end Go.Proofs.Tryd
