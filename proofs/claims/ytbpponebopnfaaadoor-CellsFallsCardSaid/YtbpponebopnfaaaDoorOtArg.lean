/- Arguments as they come in: by their kinds. -/
import Derived.Test.YtbpponebopnfaaaDoorOtLaw
import Derived.Test.YtbpponebopnfaaaDoorOtData
set_option linter.unusedVariables false
set_option linter.unusedSimpArgs false
namespace Go.Ot
open Go.ChangeShapes Go.WideShapes Go.ChangeAt Go.RowKit
section
variable {H : Type} {enc : TypeId × Value → H} {P : Program} {W : World} {r : Reach} {base : Nat} {spare : Nat → Bool} {held : Bool} {t e : TypeId} {v : Value} {d : DataW H} {p : List MemPlace} {m : Nat}
theorem lit_u8 {n : Int} (h : (Lit.int .u8 n).wf = true) : ((UInt8.ofNat n.toNat).toNat : Int) = n := by
  have hb : 0 ≤ n ∧ n ≤ 255 := by simpa [Lit.wf, IntKind.min, IntKind.max, IntKind.signed, IntKind.bits] using h
  rw [UInt8.toNat_ofNat']; omega
theorem lit_u16 {n : Int} (h : (Lit.int .u16 n).wf = true) : ((UInt16.ofNat n.toNat).toNat : Int) = n := by
  have hb : 0 ≤ n ∧ n ≤ 65535 := by simpa [Lit.wf, IntKind.min, IntKind.max, IntKind.signed, IntKind.bits] using h
  rw [UInt16.toNat_ofNat']; omega
theorem a_u8 (ht : P.underlying t = some (.int .u8)) (hv : Value.okWide P W r base t v) (h : DataW.Trod enc P W 0 spare held t v d p) : ∃ x : UInt8, RepT W no (w8 x) v := by
  obtain ⟨n, rfl, hn⟩ := arg_int ht hv h
  exact ⟨UInt8.ofNat n.toNat, congrArg (Value.int .u8) (lit_u8 hn).symm⟩
theorem a_u16 (ht : P.underlying t = some (.int .u16)) (hv : Value.okWide P W r base t v) (h : DataW.Trod enc P W 0 spare held t v d p) : ∃ x : UInt16, RepT W no (w16 x) v := by
  obtain ⟨n, rfl, hn⟩ := arg_int ht hv h
  exact ⟨UInt16.ofNat n.toNat, congrArg (Value.int .u16) (lit_u16 hn).symm⟩
theorem a_int (ht : P.underlying t = some (.int .i64)) (hv : Value.okWide P W r base t v) (h : DataW.Trod enc P W 0 spare held t v d p) : ∃ n : Int, RepT W no (num n) v ∧ -9223372036854775808 ≤ n ∧ n ≤ 9223372036854775807 := by
  obtain ⟨n, rfl, hn⟩ := arg_int ht hv h
  exact ⟨n, rfl, wf_i64 hn⟩
theorem a_bool (ht : P.underlying t = some .bool) (hv : Value.okWide P W r base t v) (h : DataW.Trod enc P W 0 spare held t v d p) : ∃ b : Bool, RepT W no (bol b) v := by
  obtain ⟨b, rfl⟩ := arg_bool ht hv
  exact ⟨b, rfl⟩
theorem a_txt (ht : P.underlying t = some .string) (hv : Value.okWide P W r base t v) (h : DataW.Trod enc P W 0 spare held t v d p) : ∃ l : List UInt8, RepT W no (txt l) v ∧ l.length ≤ maxLen := by
  obtain ⟨l, rfl, hl⟩ := arg_string ht hv h
  exact ⟨l, rfl, hl⟩
theorem fit_bool {ts : List T} (ht : P.underlying t = some .bool) (h : Fit P (m + 1) t ts) : ∃ b, ts = [bol b] := by
  simp only [Fit, ht] at h
  exact h
theorem a_list {α : Type} {f : α → T} (ht : P.underlying t = some (.slice e)) (hc : P.cellsOf e = 1) (hok : okT P (m + 1) t = true) (hel : ∀ c, Fit P m e [c] → ∃ a, c = f a) (hv : Value.okWide P W r base t v) (h : DataW.Trod enc P W 0 spare held t v d p) :
    ∃ l : List α, RepT W no (lst f l) v ∧ l.length ≤ maxLen := by
  obtain ⟨x, rx, fx⟩ := arg_slice ht hv h hok
  obtain ⟨l, el, hl⟩ := fit_list ht hc hel fx
  cases el
  exact ⟨l, rx, hl⟩
theorem el_u8 (he : P.underlying e = some (.int .u8)) (c : T) (h : Fit P (m + 1) e [c]) : ∃ a, c = w8 a := by
  obtain ⟨n, hn, hw⟩ := fit_int he h
  cases hn
  exact ⟨UInt8.ofNat n.toNat, congrArg (fun z => T.v (.int .u8 z)) (lit_u8 hw).symm⟩
theorem el_u16 (he : P.underlying e = some (.int .u16)) (c : T) (h : Fit P (m + 1) e [c]) : ∃ a, c = w16 a := by
  obtain ⟨n, hn, hw⟩ := fit_int he h
  cases hn
  exact ⟨UInt16.ofNat n.toNat, congrArg (fun z => T.v (.int .u16 z)) (lit_u16 hw).symm⟩
theorem el_bool (he : P.underlying e = some .bool) (c : T) (h : Fit P (m + 1) e [c]) : ∃ a, c = bol a := by
  obtain ⟨b, hb⟩ := fit_bool he h
  cases hb
  exact ⟨b, rfl⟩
theorem el_txt (he : P.underlying e = some .string) (c : T) (h : Fit P (m + 1) e [c]) : ∃ a, c = txt a := fit_string he h
end
end Go.Ot
