/- Contracts of this program's functions. -/
import Derived.Test.YtkbikblijipceaaGreatDoorSF
import Derived.Test.YtkbikblijipceaaGreatDoorOtE
import Derived.Test.YtkbikblijipceaaGreatDoorOtD
import Derived.Test.YtkbikblijipceaaGreatDoorSV0
set_option maxHeartbeats 4000000
set_option maxRecDepth 100000
set_option linter.unusedVariables false
set_option linter.unusedSimpArgs false
namespace Go.Proofs.Tryz
open Go Go.Ot
attribute [local simp] num bol txt w8 w16 w32 w64 lst cls xZ xR List.take_of_length_le
attribute [local irreducible] wpK wpS uE wH wV wN wZ xD Le
theorem gY (Γ : Gl) (p : List UInt8) (v : Value) (h1 : v.oneCell' = true) : Go.Ot.Good Γ prog 219 [.agg [.t (.v (.string (S p))), .t (.v v)]] [] (.t (.v v)) [] [] := by
 refine yR F.mix func219 (by rfl) ntmps219 ?_
 refine yD (yA rfl ?_)
 refine yF (hs := by (simp only [push_cast, h1] <;> rfl)) ?_
 refine yF ?_
 refine yE (yB (yC (yD (yA rfl ?_))))
 iterate 3 refine yF ?_
 refine yE (yB (yC (yO ?_)))
 refine ⟨.inr rfl, yP [] (by rw [results219]) ?_ ?_ ?_⟩ <;> simp [h1]
theorem bH (v : Value) (xT : TypeId) (w : World) : (Instr.typeAssert (.iface 181 v) xT 237 true).run prog w = .ok (.tuple #[.nilIface, .bool false]) w := run_typeAssert_lacksB underlying237 (by kernel_rfl) (by kernel_rfl) v xT w
theorem bI (v : Value) (xT : TypeId) (w : World) : (Instr.typeAssert (.iface 179 v) xT 237 true).run prog w = .ok (.tuple #[.nilIface, .bool false]) w := run_typeAssert_lacksB underlying237 (by kernel_rfl) (by kernel_rfl) v xT w
theorem bK (v : Value) (xT : TypeId) (w : World) : (Instr.typeAssert (.iface 179 v) xT 196 true).run prog w = .ok (.tuple #[.nilIface, .bool false]) w := run_typeAssert_lacksB underlying196 (by kernel_rfl) (by kernel_rfl) v xT w
theorem bJ (v : Value) (xT : TypeId) (w : World) : (Instr.typeAssert (.iface 179 v) xT 198 true).run prog w = .ok (.tuple #[.nilIface, .bool false]) w := run_typeAssert_lacksB underlying198 (by kernel_rfl) (by kernel_rfl) v xT w
theorem bM (v : Value) (xT : TypeId) (w : World) : (Instr.typeAssert (.iface 181 v) xT 196 true).run prog w = .ok (.tuple #[.iface 181 v, .bool true]) w := run_typeAssert_hasB underlying196 (by kernel_rfl) v xT w
theorem bL (Γ : Gl) (p : List UInt8) (s s' : List UInt8) (b : Bool) (hb : ∀ w, (binOp .eql 81 (.iface 179 (.string (S s))) (.iface 179 (.string (S s')))).run prog w = .ok (.bool b) w) : Go.Ot.Good Γ prog 155 [.t (.ifc 181 (.agg [txt p, .ifc 179 (txt s)])), .t (.ifc 179 (txt s')), .t (bol true)] [] (.t (bol b)) [] [] := by
 refine yR F.mix func155 (by rfl) ntmps155 ?_
 refine yD (yA rfl ?_)
 refine yF ?_
 refine yE (yB (yC (yH ?_)))
 refine xN (fun sl L (q : Bool) => ⟨setAll (setBad sl [6, 7, 8, 9, 10, 12, 13, 14, 15, 16, 17, 18, 19, 20, 21, 22, 23, 24, 25, 26, 27, 28, 29, 30, 31, 32, 33, 34, 35, 36, 37, 38, 39, 40, 41, 42, 43, 44, 45, 46, 47, 48, 49, 50, 51, 52, 53]) [(0, if q = true then .t (.v (.iface 179 (.string (S s)))) else .t (.ifc 181 (.agg [txt p, .ifc 179 (txt s)])))], Go.Ot.look (L)⟩) (fun q => True) (fun q => if q = true then 0 else 1) (false) (wF ?_) ?_ ?_
 ·refine yT ?_ ?_ ?_ <;> simp
 ·trivial
 ·intro q _
  cases q
  ·refine vE ?_
   refine yH (yD (yD (yA rfl ?_)))
   iterate 2 refine yF ?_
   first | refine xB ?_ | refine wJ ?_ | refine uP ?_
   first | refine xB ?_ | refine wJ ?_ | refine uP ?_
   refine yAg (.bool false) ?_
   refine yF ?_
   refine yE (yB (yC (yJ (yL (yC (yD (yD (yA rfl ?_))))))))
   refine yF ?_
   refine vW (.iface 181 (.agg #[.string (S p), .iface 179 (.string (S s))])) (.tuple #[.nilIface, .bool false]) ?_ (bH _ _)
   refine yF ?_
   refine wQ (.nilIface) ?_
   refine wQ (.bool false) ?_
   iterate 2 refine yF ?_
   refine yE (yB (yC (yD (yA rfl ?_))))
   iterate 2 refine yF ?_
   first | refine xB ?_ | refine wJ ?_ | refine uP ?_
   first | refine xB ?_ | refine wJ ?_ | refine uP ?_
   first | refine xB ?_ | refine wJ ?_ | refine uP ?_
   refine yF ?_
   refine yE (yB (yC (yJ (yL (yC (yD (yA rfl ?_)))))))
   refine yF ?_
   refine yE (yB (yC (yH (yD (yA rfl ?_)))))
   refine vW (.iface 181 (.agg #[.string (S p), .iface 179 (.string (S s))])) (.tuple #[.iface 181 (.agg #[.string (S p), .iface 179 (.string (S s))]), .bool true]) ?_ (bM _ _)
   refine wQ (.bool true) ?_
   refine wQ (.iface 181 (.agg #[.string (S p), .iface 179 (.string (S s))])) ?_
   refine yE (yB (yC (xF (yD (yA rfl ?_)))))
   refine yF ?_
   refine yE (yB (yC (yD (yA rfl ?_))))
   refine yF ?_
   refine kZ [] false (gY Γ p (.iface 179 (.string (S s))) rfl) ?_ (ty := 181) (v := .agg #[.string (S p), .iface 179 (.string (S s))]) (v' := .agg #[.string (S p), .iface 179 (.string (S s))]) (f := 219) rfl (by intro w; kernel_rfl)
   refine yF ?_
   refine yE (yB (yC (yD (yA rfl ?_))))
   refine yF ?_
   refine wQ (.bool false) ?_
   refine yE (yB (yC (yJ (yL ?_))))
   refine yS (yS (xE (true) (wF ?_) ?_ ?_))
   ·refine yT ?_ ?_ ?_ <;> simp
   ·trivial
   ·simp
  ·refine vE ?_
   refine yH (yD (yD (yA rfl ?_)))
   iterate 2 refine yF ?_
   first | refine xB ?_ | refine wJ ?_ | refine uP ?_
   first | refine xB ?_ | refine wJ ?_ | refine uP ?_
   refine yE5 (.bool b) ?_ hb
   refine yF ?_
   refine yE (yB (yC ?_))
   refine vL (fun hc0 => ?_) (fun hc0 => ?_)
   ·(try simp only [zB] at hc0)
    subst hc0
    refine yD (yA rfl ?_)
    refine yF ?_
    refine yE (yB (yC (yO (yG (yI (wI (yI ?_)))))))
    refine ⟨.inr rfl, yP [] (by rw [results155]) ?_ ?_ ?_⟩ <;> simp
   ·(try simp only [zB] at hc0)
    subst hc0
    refine yL (yC (yD (yD (yA rfl ?_))))
    refine yF ?_
    refine vW (.iface 179 (.string (S s))) (.tuple #[.nilIface, .bool false]) ?_ (bI _ _)
    refine yF ?_
    refine wQ (.nilIface) ?_
    refine wQ (.bool false) ?_
    iterate 2 refine yF ?_
    refine yE (yB (yC (yD (yA rfl ?_))))
    iterate 2 refine yF ?_
    first | refine xB ?_ | refine wJ ?_ | refine uP ?_
    first | refine xB ?_ | refine wJ ?_ | refine uP ?_
    first | refine xB ?_ | refine wJ ?_ | refine uP ?_
    refine yF ?_
    refine yE (yB (yC (yJ (yL (yC (yD (yA rfl ?_)))))))
    refine yF ?_
    refine yE (yB (yC (yH (yD (yA rfl ?_)))))
    refine vW (.iface 179 (.string (S s))) (.tuple #[.nilIface, .bool false]) ?_ (bK _ _)
    refine wQ (.bool false) ?_
    refine wQ (.nilIface) ?_
    refine yE (yB (yC (yJ (yD (yA rfl ?_)))))
    refine vW (.iface 179 (.string (S s))) (.tuple #[.nilIface, .bool false]) ?_ (bJ _ _)
    refine wQ (.bool false) ?_
    refine wQ (.nilIface) ?_
    refine yE (yB (yC (yJ (yD (yA rfl ?_)))))
    refine yF ?_
    refine yE (yB (yC (yD (yA rfl ?_))))
    refine yF ?_
    refine yE (yB (yC (yO (yI (yI (wI (yI ?_)))))))
    refine ⟨.inr rfl, yP [] (by rw [results155]) ?_ ?_ ?_⟩ <;> simp
theorem yDs (v : Value) (w : World) : (callFunc 131 #[.iface 179 v]).run prog w = .ok (.value (.iface 188 (.agg #[.pointer (some ⟨2, 179, none⟩)]))) w := by
 rw [run_callFunc_extern func131 (by kernel_rfl) (by kernel_rfl) (by kernel_rfl) (e := Extern.ReflectliteType.typeOf) (by kernel_rfl)]
 kernel_rfl
theorem yDr (w : World) : (callFunc 222 #[.agg #[.pointer (some ⟨2, 179, none⟩)]]).run prog w = .ok (.value (.bool true)) w := by
 rw [run_callFunc_extern func222 (by kernel_rfl) (by kernel_rfl) (by kernel_rfl) (e := Extern.ReflectliteType.method (fun t => do Extern.Rtype.noPackHeld "Comparable" t; pure (.bool (← typeInfo t).comparable))) (by kernel_rfl)]
 kernel_rfl
theorem lF (Γ : Gl) (p : List UInt8) (s s' : List UInt8) (b : Bool) (hb : ∀ w, (binOp .eql 81 (.iface 179 (.string (S s))) (.iface 179 (.string (S s')))).run prog w = .ok (.bool b) w) : Go.Ot.Good Γ prog 125 [.t (.ifc 181 (.agg [txt p, .ifc 179 (txt s)])), .t (.ifc 179 (txt s'))] [] (.t (bol b)) [] [] := by
 refine yR F.mix func125 (by rfl) ntmps125 ?_
 refine yD (yA rfl ?_)
 refine yF ?_
 refine yE (yB (yC (yD (yD (yA rfl ?_)))))
 refine yF ?_
 refine tF false ?_
 refine yF ?_
 first | refine xB ?_ | refine wJ ?_ | refine uP ?_
 refine gN false ?_
 refine yF ?_
 refine yE (yB (yC (yJ (yL (yC (yD (yA rfl ?_)))))))
 refine yF ?_
 refine yC1 #[.iface 179 (.string (S s'))] (.iface 188 (.agg #[.pointer (some ⟨2, 179, none⟩)])) ?_ (yDs _)
 refine kH (.bool true) (ty := 188) (v := .agg #[.pointer (some ⟨2, 179, none⟩)]) (v' := .agg #[.pointer (some ⟨2, 179, none⟩)]) (f := 222) ?_ (by intro w; kernel_rfl) yDr
 refine yF ?_
 refine yE (yB (yC (yD (yA rfl ?_))))
 iterate 3 refine yF ?_
 refine yU [] false (bL Γ p s s' b hb) ?_
 refine yF ?_
 refine yE (yB (yC (yO ?_)))
 refine ⟨.inr rfl, yP [] (by rw [results125]) ?_ ?_ ?_⟩ <;> simp
theorem mF (Γ : Gl) (s' : List UInt8) : Go.Ot.Good Γ prog 125 [.t (.v .nilIface), .t (.ifc 179 (txt s'))] [] (.t (bol false)) [] [] := by
 refine yR F.mix func125 (by rfl) ntmps125 ?_
 refine yD (yA rfl ?_)
 refine yF ?_
 refine yE (yB (yC (yD (yD (yA rfl ?_)))))
 refine yF ?_
 refine vP false ?_
 refine yF ?_
 iterate 2 refine wJ ?_
 refine yF ?_
 refine yE (yB (yC (xF (yD (yA rfl ?_)))))
 iterate 2 refine yF ?_
 refine wQ (.bool false) ?_
 refine yF ?_
 refine yE (yB (yC (yO (yG ?_))))
 refine ⟨.inr rfl, yP [] (by rw [results125]) ?_ ?_ ?_⟩ <;> simp
theorem yFM (w : World) : (binOp .eql 81 (.iface 179 (.string (S [99, 117, 116, 32, 115, 104, 111, 114, 116]))) (.iface 179 (.string (S [99, 117, 116, 32, 115, 104, 111, 114, 116])))).run prog w = .ok (.bool true) w := by kernel_rfl
theorem yFL (w : World) : (binOp .eql 81 (.iface 179 (.string (S [115, 111, 109, 101, 116, 104, 105, 110, 103, 32, 101, 108, 115, 101]))) (.iface 179 (.string (S [99, 117, 116, 32, 115, 104, 111, 114, 116])))).run prog w = .ok (.bool false) w := by kernel_rfl
theorem yFK (w : World) : (binOp .eql 81 (.iface 179 (.string (S [115, 111, 109, 101, 116, 104, 105, 110, 103, 32, 101, 108, 115, 101]))) (.iface 179 (.string (S [115, 111, 109, 101, 116, 104, 105, 110, 103, 32, 101, 108, 115, 101])))).run prog w = .ok (.bool true) w := by kernel_rfl
end Go.Proofs.Tryz

namespace Go.Proofs.Tryz
open Go Go.Ot
abbrev rqW (k d n : Int) (b : List UInt8) : Wr := .mk 3 0 [] [.mk 1 k [] [], .mk 1 d [] [], .mk 1 n [] [], .mk 2 0 b []]
abbrev rpW (k d n : Int) (l : List (List UInt8)) : Wr := .mk 3 0 [] [.mk 1 k [] [], .mk 1 d [] [], .mk 1 n [] [], .mk 3 0 [] (tC l)]
def yCC (n : Int) : Prop := -9223372036854775808 ≤ n ∧ n ≤ 9223372036854775807
theorem yAv (k d n : Int) (b : List UInt8) : mayW 6 (rqW k d n b) = decide (b.length ≤ 1048576) := by
 rw [rqW, tV]; simp [mR, kO]
theorem yAw (k d n : Int) (b : List UInt8) : (putW 6 (rqW k d n b)).length = 37 + b.length := by
 rw [rqW, tU]; simp only [List.flatMap_cons, List.flatMap_nil, List.length_append, List.length_nil, mQ, kN]; omega
theorem yDt {k d n : Int} {b : List UInt8} (hk : yCC k) (hd : yCC d) (hn : yCC n) : rangeW 6 (rqW k d n b) := by
 rw [rqW, mO]
 refine ⟨by omega, fun x hx => ?_⟩
 simp only [List.mem_cons, List.not_mem_nil, or_false] at hx
 rcases hx with rfl | rfl | rfl | rfl
 ·exact ⟨hk, fun x hx => by cases hx⟩
 ·exact ⟨hd, fun x hx => by cases hx⟩
 ·exact ⟨hn, fun x hx => by cases hx⟩
 ·exact ⟨by omega, fun x hx => by cases hx⟩
theorem yAx (k d n : Int) (l : List (List UInt8)) : mayW 6 (rpW k d n l) = (decide (l.length ≤ 65536) && l.all fun s => decide (s.length ≤ 1048576)) := by
 rw [rpW, tV]; simp [mR, tV, yFv, tR]
theorem dE (k d n : Int) (l : List (List UInt8)) : (putW 6 (rpW k d n l)).length = 37 + tsz l := by
 rw [rpW, tU]; simp only [List.flatMap_cons, List.flatMap_nil, List.length_append, List.length_nil, mQ, tU, yFu]; omega
theorem yIc {k d n : Int} {l : List (List UInt8)} (hk : yCC k) (hd : yCC d) (hn : yCC n) : rangeW 6 (rpW k d n l) := by
 rw [rpW, mO]
 refine ⟨by omega, fun x hx => ?_⟩
 simp only [List.mem_cons, List.not_mem_nil, or_false] at hx
 rcases hx with rfl | rfl | rfl | rfl
 ·exact ⟨hk, fun x hx => by cases hx⟩
 ·exact ⟨hd, fun x hx => by cases hx⟩
 ·exact ⟨hn, fun x hx => by cases hx⟩
 ·refine ⟨by omega, fun x hx => ?_⟩
  obtain ⟨s, _, rfl⟩ := List.mem_map.1 hx
  exact ⟨by omega, fun x hx => by cases hx⟩
theorem rqW_sz (k d n : Int) (b : List UInt8) : (rqW k d n b).sz = 5 := by simp [rqW, Wr.sz, Wr.szL]
theorem rpW_sz (k d n : Int) (l : List (List UInt8)) : (rpW k d n l).sz = 5 + l.length := by simp [rpW, Wr.sz, Wr.szL, szL_txts]; omega
def part (W : Wr) (i : Nat) : Wr := W.l.getD i Wr.z
structure Rq where
 k : Int
 d : Int
 n : Int
 b : List UInt8
 deriving DecidableEq
structure Rp where
 k : Int
 d : Int
 n : Int
 l : List (List UInt8)
 deriving DecidableEq
def Rq.w (q : Rq) : Wr := rqW q.k q.d q.n q.b
def Rp.w (q : Rp) : Wr := rpW q.k q.d q.n q.l
def Rq.p (q : Rq) : List UInt8 := qB q.w
def Rp.p (q : Rp) : List UInt8 := qB q.w
def Rq.ok (q : Rq) : Prop := yCC q.k ∧ yCC q.d ∧ yCC q.n
def Rp.ok (q : Rp) : Prop := yCC q.k ∧ yCC q.d ∧ yCC q.n
def Rq.z : Rq := ⟨0, 0, 0, []⟩
def Rp.z : Rp := ⟨0, 0, 0, []⟩
def qOf (W : Wr) : Rq := ⟨(part W 0).n, (part W 1).n, (part W 2).n, (part W 3).s⟩
def pOf (W : Wr) : Rp := ⟨(part W 0).n, (part W 1).n, (part W 2).n, wTs (part W 3).l⟩
theorem qOf_w (q : Rq) : qOf q.w = q := rfl
theorem pOf_w (q : Rp) : pOf q.w = q := by
 show (⟨q.k, q.d, q.n, wTs (tC q.l)⟩ : Rp) = q
 rw [yFp]
theorem dK {W : Wr} (h : rangeW 6 W) (i : Nat) : yCC (part W i).n := by
 rw [part, List.getD_eq_getElem?_getD]
 cases e : W.l[i]? with
 | none => simp only [Option.getD_none, Wr.z_eq, Wr.n_mk]; exact ⟨by omega, by omega⟩
 | some x =>
  cases W with
  | mk k n s l => exact yCt 5 x (h.2 x (List.mem_of_getElem? e))
theorem rng_z : rangeW 6 Wr.z := by rw [Wr.z_eq, mO]; exact ⟨by omega, fun x hx => by cases hx⟩
theorem yAS (s : List UInt8) : rangeW 6 ((got s).getD Wr.z) := by
 cases h : got s with
 | none => exact rng_z
 | some W => exact (yEq h).2.1
theorem qOf_ok (s : List UInt8) : (qOf ((got s).getD Wr.z)).ok := ⟨dK (yAS s) 0, dK (yAS s) 1, dK (yAS s) 2⟩
def GQ (s : List UInt8) : Option Rq := if s = [] ∨ (qOf ((got s).getD Wr.z)).p ≠ s then none else some (qOf ((got s).getD Wr.z))
def GP (s : List UInt8) : Option Rp := if s = [] ∨ (pOf ((got s).getD Wr.z)).p ≠ s then none else some (pOf ((got s).getD Wr.z))
theorem yGp {w : Wr} (hr : rangeW 6 w) (h : qB w ≠ []) : mayW 6 w = true ∧ got (qB w) = some w := by
 cases e : mayW 6 w with
 | false => exact absurd (yFa e) h
 | true => exact ⟨rfl, kV e hr⟩
theorem yFg {s : List UInt8} {q : Rq} (h : GQ s = some q) : s ≠ [] ∧ q.p = s ∧ q.ok ∧ mayW 6 q.w = true ∧ got s = some q.w := by
 rw [GQ] at h
 split at h
 ·cases h
 ·rename_i hn
  simp only [not_or, ne_eq, Decidable.not_not] at hn
  cases h
  have hok := qOf_ok s
  obtain ⟨h1, h2⟩ := yGp (w := (qOf ((got s).getD Wr.z)).w) (yDt hok.1 hok.2.1 hok.2.2) (by show Rq.p _ ≠ []; rw [hn.2]; exact hn.1)
  have h2 : got (qOf ((got s).getD Wr.z)).p = some (qOf ((got s).getD Wr.z)).w := h2
  rw [hn.2] at h2
  exact ⟨hn.1, hn.2, hok, h1, h2⟩
theorem GQ_p {q : Rq} (h : mayW 6 q.w = true) (hok : q.ok) : GQ q.p = some q := by
 have hg : got q.p = some q.w := kV h (yDt hok.1 hok.2.1 hok.2.2)
 have hne : q.p ≠ [] := yA3 h
 rw [GQ, hg, Option.getD_some, qOf_w, if_neg (by simp [hne])]
theorem GP_p {q : Rp} (h : mayW 6 q.w = true) (hok : q.ok) : GP q.p = some q := by
 have hg : got q.p = some q.w := kV h (yIc hok.1 hok.2.1 hok.2.2)
 have hne : q.p ≠ [] := yA3 h
 rw [GP, hg, Option.getD_some, pOf_w, if_neg (by simp [hne])]
theorem GQ_no {s : List UInt8} (h : got s = none) : GQ s = none := by
 cases e : GQ s with
 | none => rfl
 | some q => have := (yFg e).2.2.2.2; rw [h] at this; cases this
theorem GQ_no4 {s : List UInt8} {W : Wr} (h : got s = some W) (h4 : W.l.length ≠ 4) : GQ s = none := by
 cases e : GQ s with
 | none => rfl
 | some q => have := (yFg e).2.2.2.2; rw [h] at this; cases this; exact absurd rfl h4
theorem s_ne {s : List UInt8} {W : Wr} (h : got s = some W) : s ≠ [] := fun e => by rw [e, got_nil] at h; cases h
theorem GQ_y {s : List UInt8} {W : Wr} (h : got s = some W) (h2 : (qOf W).p = s) : GQ s = some (qOf W) := by rw [GQ, h, Option.getD_some, if_neg (by simp [h2, s_ne h])]
theorem GQ_n {s : List UInt8} {W : Wr} (h : got s = some W) (h2 : (qOf W).p ≠ s) : GQ s = none := by rw [GQ, h, Option.getD_some, if_pos (.inr h2)]
theorem may_tx : ∀ (d : Nat) (x : Wr), mayW d x = true → 5 + x.s.length ≤ (putW d x).length := by
 have key : ∀ (deep : Bool) (sub : Wr → Bool) (put : Wr → List UInt8) (x : Wr), tB deep sub x = true → 5 + x.s.length ≤ (uW put x).length := by
  intro deep sub put x hm
  cases x with
  | mk k n s l =>
   rw [Wr.s_mk]
   rcases jW hm with rfl | ⟨rfl, hs⟩ | ⟨rfl, hl, hml⟩
   ·rw [jX] at hm
    simp only [Bool.and_eq_true, beq_iff_eq] at hm
    rw [hm.1, uF, List.length_cons, nb_len]; simp
   ·rw [vZ, List.length_cons, List.length_append, nb_len]; omega
   ·rw [uY] at hm
    simp only [Bool.and_eq_true, beq_iff_eq] at hm
    rw [hm.1.1.2, bZ, List.length_cons, List.length_append, nb_len]; simp
 intro d x h
 cases d with
 | zero => rw [putW_z]; rw [mayW_z] at h; exact key _ _ _ x h
 | succ d => rw [lW]; rw [lZ] at h; exact key _ _ _ x h
theorem yHf (d : Nat) : ∀ l : List Wr, (∀ x ∈ l, mayW d x = true) → tsz (wTs l) ≤ (l.flatMap (putW d)).length
 | [], _ => by simp [tsz, wTs]
 | x :: l, h => by
  have h1 := may_tx d x (h x (by simp))
  have h2 := yHf d l (fun y hy => h y (by simp [hy]))
  simp only [tsz, wTs, List.map_cons, List.sum_cons, List.flatMap_cons, List.length_append] at h2 ⊢
  omega
theorem yEb {d : Nat} {k n : Int} {s : List UInt8} {l : List Wr} (h : mayW (d + 1) (.mk k n s l) = true) : (∀ x ∈ l, mayW d x = true) ∧ (l.flatMap (putW d)).length ≤ (putW (d + 1) (.mk k n s l)).length := by
 rw [lZ] at h
 rcases jW h with rfl | ⟨rfl, hs⟩ | ⟨rfl, hl, hml⟩
 ·rw [jX] at h
  simp only [Bool.and_eq_true, decide_eq_true_eq] at h
  have : l = [] := List.eq_nil_of_length_eq_zero h.2
  subst this
  exact ⟨(fun x hx => by cases hx), by simp⟩
 ·rw [sR] at h
  simp only [Bool.and_eq_true, decide_eq_true_eq] at h
  have : l = [] := List.eq_nil_of_length_eq_zero h.1.2
  subst this
  exact ⟨(fun x hx => by cases hx), by simp⟩
 ·exact ⟨hml, by rw [lW, bZ, List.length_cons, List.length_append, nb_len]; omega⟩
theorem yGb {f : Wr → List UInt8} {l : List Wr} {x : Wr} (h : x ∈ l) : (f x).length ≤ (l.flatMap f).length := by
 induction l with
 | nil => cases h
 | cons a l ih =>
  simp only [List.flatMap_cons, List.length_append]
  rcases List.mem_cons.1 h with rfl | h
  ·omega
  ·have := ih h; omega
theorem eA {s : List UInt8} {W : Wr} (h : got s = some W) (i : Nat) : tsz (wTs (part W i).l) ≤ s.length := by
 obtain ⟨h1, _, h2⟩ := yEq h
 rw [part, List.getD_eq_getElem?_getD]
 cases e : W.l[i]? with
 | none => simp [Wr.z_eq, Wr.l_mk, tsz, wTs]
 | some x =>
  rw [Option.getD_some]
  have hx := List.mem_of_getElem? e
  cases W with
  | mk k n s' l =>
   obtain ⟨h3, h4⟩ := yEb (d := 5) h1
   have hx : x ∈ l := hx
   have h5 := yGb (f := putW 5) hx
   cases x with
   | mk k' n' s'' l' =>
    obtain ⟨h6, h7⟩ := yEb (d := 4) (h3 _ hx)
    have h8 := yHf 4 l' h6
    have h4 : (l.flatMap (putW 5)).length ≤ (putW 6 (.mk k n s' l)).length := h4
    have h7 : (l'.flatMap (putW 4)).length ≤ (putW 5 (.mk k' n' s'' l')).length := h7
    rw [Wr.l_mk, h2]
    omega
theorem yFq (l : List Wr) : (wTs l).take l.length = wTs l := by rw [← qG l]; exact List.take_length
theorem tsz_len : ∀ l : List (List UInt8), 5 * l.length ≤ tsz l
 | [] => by simp [tsz]
 | a :: l => by have := tsz_len l; simp only [tsz, List.map_cons, List.sum_cons, List.length_cons] at this ⊢; omega
theorem yHj {q : Rp} : mayW 6 q.w = true → (putW 6 q.w).length ≤ 37 + tsz q.l := fun _ => Nat.le_of_eq (dE q.k q.d q.n q.l)
theorem yHi {q : Rq} (h : mayW 6 q.w = true) : (putW 6 q.w).length ≤ 1048613 := by
 have h1 := yAw q.k q.d q.n q.b
 have h2 := yAv q.k q.d q.n q.b
 have h : mayW 6 (rqW q.k q.d q.n q.b) = true := h
 rw [h2] at h
 have h := of_decide_eq_true h
 show (putW 6 (rqW q.k q.d q.n q.b)).length ≤ _
 omega
def qA (q : Rq) : D := .agg [.t (num q.k), .t (num q.d), .t (num q.n), .t (txt q.b)]
def pA (q : Rp) : D := .agg [.t (num q.k), .t (num q.d), .t (num q.n), .t (lst txt q.l)]
@[push_cast] theorem qA_eq (q : Rq) : qA q = .agg [.t (num q.k), .t (num q.d), .t (num q.n), .t (txt q.b)] := rfl
@[push_cast] theorem pA_eq (q : Rp) : pA q = .agg [.t (num q.k), .t (num q.d), .t (num q.n), .t (.sl q.l.length (q.l.map txt))] := rfl
theorem yDO {W : Wr} {a b c d : Wr} (h : W.l = [a, b, c, d]) : qOf W = ⟨a.n, b.n, c.n, d.s⟩ ∧ pOf W = ⟨a.n, b.n, c.n, wTs d.l⟩ := by
 cases W with
 | mk k n s l => rw [Wr.l_mk] at h; subst h; exact ⟨rfl, rfl⟩
theorem yI9 {W : Wr} (h : W.l.length = 4) : ∃ a b c d, W.l = [a, b, c, d] := by
 match e : W.l with
 | [a, b, c, d] => exact ⟨a, b, c, d, rfl⟩
 | [] | [_] | [_, _] | [_, _, _] | _ :: _ :: _ :: _ :: _ :: _ => rw [e] at h; simp at h
end Go.Proofs.Tryz

namespace Go.Proofs.Tryz
open Go Go.Ot
attribute [local simp] num bol txt w8 w16 w32 w64 lst cls xZ xR List.take_of_length_le
attribute [local irreducible] wpK wpS uE wH wV wN wZ xD Le rdS lpW rdW got tB mayW ixF uW putW nb nbS u64 fmT qB Rq.p Rp.p GQ GP tsz wTs
theorem yJn (Γ : Gl)  : Go.Ot.Good Γ prog 90 [.t (.v .nilIface)] [] (.t (bol false)) [] [] := by
 refine yR F.mix func90 (by rfl) ntmps90 ?_
 refine yD (yA rfl ?_)
 refine yF ?_
 refine yE (yB (yC (yD (yA rfl ?_))))
 iterate 2 refine yF ?_
 refine yU [] false (mF Γ [99, 117, 116, 32, 115, 104, 111, 114, 116]) ?_
 refine yF ?_
 iterate 2 refine xB ?_
 refine wT [] false (mF Γ [115, 111, 109, 101, 116, 104, 105, 110, 103, 32, 101, 108, 115, 101]) ?_
 iterate 2 refine yF ?_
 refine yE (yB (yC (yO ?_)))
 refine ⟨.inr rfl, yP [] (by rw [results90]) ?_ ?_ ?_⟩ <;> simp
theorem yJo (Γ : Gl) (p : List UInt8) : Go.Ot.Good Γ prog 90 [.t (.ifc 181 (.agg [txt p, .ifc 179 (txt [99, 117, 116, 32, 115, 104, 111, 114, 116])]))] [] (.t (bol true)) [] [] := by
 refine yR F.mix func90 (by rfl) ntmps90 ?_
 refine yD (yA rfl ?_)
 refine yF ?_
 refine yE (yB (yC (yD (yA rfl ?_))))
 iterate 2 refine yF ?_
 refine yU [] false (lF Γ p [99, 117, 116, 32, 115, 104, 111, 114, 116] [99, 117, 116, 32, 115, 104, 111, 114, 116] true yFM) ?_
 refine yF ?_
 iterate 3 refine wJ ?_
 iterate 2 refine yF ?_
 refine yE (yB (yC (yO ?_)))
 refine ⟨.inr rfl, yP [] (by rw [results90]) ?_ ?_ ?_⟩ <;> simp
theorem yB1 (Γ : Gl) (p : List UInt8) : Go.Ot.Good Γ prog 90 [.t (.ifc 181 (.agg [txt p, .ifc 179 (txt [115, 111, 109, 101, 116, 104, 105, 110, 103, 32, 101, 108, 115, 101])]))] [] (.t (bol true)) [] [] := by
 refine yR F.mix func90 (by rfl) ntmps90 ?_
 refine yD (yA rfl ?_)
 refine yF ?_
 refine yE (yB (yC (yD (yA rfl ?_))))
 iterate 2 refine yF ?_
 refine yU [] false (lF Γ p [115, 111, 109, 101, 116, 104, 105, 110, 103, 32, 101, 108, 115, 101] [99, 117, 116, 32, 115, 104, 111, 114, 116] false yFL) ?_
 refine yF ?_
 iterate 2 refine xB ?_
 refine wT [] false (lF Γ p [115, 111, 109, 101, 116, 104, 105, 110, 103, 32, 101, 108, 115, 101] [115, 111, 109, 101, 116, 104, 105, 110, 103, 32, 101, 108, 115, 101] true yFK) ?_
 iterate 2 refine yF ?_
 refine yE (yB (yC (yO ?_)))
 refine ⟨.inr rfl, yP [] (by rw [results90]) ?_ ?_ ?_⟩ <;> simp
theorem yDM (Γ : Gl) (hE : EG Γ) (p : List UInt8) : Go.Ot.Good Γ prog 89 [.t (txt p), .t (txt [])] [] (.tup [.t (.v (.slice none 0 0)), .t (.ifc 181 (.agg [txt p, .ifc 179 (txt [99, 117, 116, 32, 115, 104, 111, 114, 116])]))]) [] [] := by
 refine yR F.mix func89 (by rfl) ntmps89 ?_
 refine yD (yA rfl ?_)
 iterate 2 refine yF ?_
 refine yE (yB (yC (yD (yA rfl ?_))))
 refine yF ?_
 refine yU [] true ((by have h := qX Γ hE ([]) (by decide); rw [got_nil, Option.getD_none, Option.isSome_none] at h; exact h)) ?_
 iterate 6 refine yF ?_
 refine yE (yB (yC (yD (yH (yD (yA rfl ?_))))))
 iterate 3 refine yF ?_
 refine yE (yB (yC (xF (yD (yA rfl ?_)))))
 iterate 6 refine yF ?_
 refine yE (yB (yC (yO (yI (yG ?_)))))
 refine ⟨.inr rfl, yP [] (by rw [results89]) ?_ ?_ ?_⟩ <;> simp
theorem yF0 (Γ : Gl) (hE : EG Γ) (p s : List UInt8) (hs : s.length ≤ 1000000) (h0 : s ≠ []) (hg : got s = none) : Go.Ot.Good Γ prog 89 [.t (txt p), .t (txt s)] [] (.tup [.t (.v (.slice none 0 0)), .t (.ifc 181 (.agg [txt p, .ifc 179 (txt [115, 111, 109, 101, 116, 104, 105, 110, 103, 32, 101, 108, 115, 101])]))]) [] [] := by
 have hb := tA h0
 refine yR F.mix func89 (by rfl) ntmps89 ?_
 refine yD (yA rfl ?_)
 iterate 2 refine yF ?_
 refine yE (yB (yC (yD (yA rfl ?_))))
 refine yF ?_
 refine yU [] true ((by have h := qX Γ hE (s) (hs); rw [hg, Option.getD_none, Option.isSome_none] at h; exact h)) ?_
 iterate 6 refine yF ?_
 refine yE (yB (yC (yD (yH (yD (yA rfl ?_))))))
 refine yF ?_
 refine yF (hs := by (simp (disch := first | omega | (simp only [zL] <;> omega) | (simp only [push_cast] <;> omega) | fail) only [push_cast, reduceCtorEq, Nat.reduceAdd, Nat.reduceSub, Nat.reduceMul, Nat.reduceEqDiff, Nat.reduceLT, Nat.reduceLeDiff, Nat.reduceMod, Nat.reduceDiv, Int.reduceLE, Int.reduceLT, Int.reduceEq, Int.reduceToNat, Int.reduceAdd, Int.reduceSub, Int.reduceMul, Int.reduceNeg, hb] <;> rfl)) ?_
 refine yF ?_
 refine yE (yB (yC (yJ (yD (yA rfl ?_)))))
 iterate 3 refine yF ?_
 iterate 4 refine wJ ?_
 iterate 2 refine yF ?_
 refine yE (yB (yC (xF (yD (yA rfl ?_)))))
 iterate 6 refine yF ?_
 refine yE (yB (yC (yO (yI (yG ?_)))))
 refine ⟨.inr rfl, yP [] (by rw [results89]) ?_ ?_ ?_⟩ <;> simp
theorem yDL (Γ : Gl) (hE : EG Γ) (p s : List UInt8) (hs : s.length ≤ 1000000) (W : Wr) (hg : got s = some W) (h4 : W.l.length ≠ 4) : Go.Ot.Good Γ prog 89 [.t (txt p), .t (txt s)] [] (.tup [.t (.v (.slice none 0 0)), .t (.ifc 181 (.agg [txt p, .ifc 179 (txt [115, 111, 109, 101, 116, 104, 105, 110, 103, 32, 101, 108, 115, 101])]))]) [] [] := by
 have hb := tA (s_ne hg)
 have h4' : ¬ ((W.l.length : Int) = 4) := by omega
 refine yR F.mix func89 (by rfl) ntmps89 ?_
 refine yD (yA rfl ?_)
 iterate 2 refine yF ?_
 refine yE (yB (yC (yD (yA rfl ?_))))
 refine yF ?_
 refine yU [] true ((by have h := qX Γ hE (s) (hs); rw [hg, Option.getD_some, Option.isSome_some] at h; exact h)) ?_
 iterate 6 refine yF ?_
 refine yE (yB (yC (yD (yH (yD (yA rfl ?_))))))
 refine yF ?_
 refine yF (hs := by (simp (disch := first | omega | (simp only [zL] <;> omega) | (simp only [push_cast] <;> omega) | fail) only [push_cast, reduceCtorEq, Nat.reduceAdd, Nat.reduceSub, Nat.reduceMul, Nat.reduceEqDiff, Nat.reduceLT, Nat.reduceLeDiff, Nat.reduceMod, Nat.reduceDiv, Int.reduceLE, Int.reduceLT, Int.reduceEq, Int.reduceToNat, Int.reduceAdd, Int.reduceSub, Int.reduceMul, Int.reduceNeg, hb] <;> rfl)) ?_
 refine yF ?_
 refine yE (yB (yC (yJ (yD (yA rfl ?_)))))
 iterate 3 refine yF ?_
 iterate 3 refine xB ?_
 refine xB (hs := by (simp (disch := first | omega | (simp only [zL] <;> omega) | (simp only [push_cast] <;> omega) | fail) only [push_cast, reduceCtorEq, Nat.reduceAdd, Nat.reduceSub, Nat.reduceMul, Nat.reduceEqDiff, Nat.reduceLT, Nat.reduceLeDiff, Nat.reduceMod, Nat.reduceDiv, Int.reduceLE, Int.reduceLT, Int.reduceEq, Int.reduceToNat, Int.reduceAdd, Int.reduceSub, Int.reduceMul, Int.reduceNeg, h4'] <;> rfl)) ?_
 iterate 2 refine yF ?_
 refine yE (yB (yC (xF (yD (yA rfl ?_)))))
 iterate 6 refine yF ?_
 refine yE (yB (yC (yO (yI (yG ?_)))))
 refine ⟨.inr rfl, yP [] (by rw [results89]) ?_ ?_ ?_⟩ <;> simp
theorem yFZ (Γ : Gl) (hE : EG Γ) (p s : List UInt8) (hs : s.length ≤ 1000000) (W : Wr) (hg : got s = some W) (h4 : W.l.length = 4) : Go.Ot.Good Γ prog 89 [.t (txt p), .t (txt s)] [] (.tup [wS W.l, .t (.v .nilIface)]) [] [] := by
 have hb := tA (s_ne hg)
 refine yR F.mix func89 (by rfl) ntmps89 ?_
 refine yD (yA rfl ?_)
 iterate 2 refine yF ?_
 refine yE (yB (yC (yD (yA rfl ?_))))
 refine yF ?_
 refine yU [] true ((by have h := qX Γ hE (s) (hs); rw [hg, Option.getD_some, Option.isSome_some] at h; exact h)) ?_
 iterate 6 refine yF ?_
 refine yE (yB (yC (yD (yH (yD (yA rfl ?_))))))
 refine yF ?_
 refine yF (hs := by (simp (disch := first | omega | (simp only [zL] <;> omega) | (simp only [push_cast] <;> omega) | fail) only [push_cast, reduceCtorEq, Nat.reduceAdd, Nat.reduceSub, Nat.reduceMul, Nat.reduceEqDiff, Nat.reduceLT, Nat.reduceLeDiff, Nat.reduceMod, Nat.reduceDiv, Int.reduceLE, Int.reduceLT, Int.reduceEq, Int.reduceToNat, Int.reduceAdd, Int.reduceSub, Int.reduceMul, Int.reduceNeg, hb] <;> rfl)) ?_
 refine yF ?_
 refine yE (yB (yC (yJ (yD (yA rfl ?_)))))
 iterate 3 refine yF ?_
 iterate 2 refine xB ?_
 refine xB (hs := by (simp (disch := first | omega | (simp only [zL] <;> omega) | (simp only [push_cast] <;> omega) | fail) only [push_cast, reduceCtorEq, Nat.reduceAdd, Nat.reduceSub, Nat.reduceMul, Nat.reduceEqDiff, Nat.reduceLT, Nat.reduceLeDiff, Nat.reduceMod, Nat.reduceDiv, Int.reduceLE, Int.reduceLT, Int.reduceEq, Int.reduceToNat, Int.reduceAdd, Int.reduceSub, Int.reduceMul, Int.reduceNeg, h4] <;> rfl)) ?_
 refine xB ?_
 iterate 2 refine yF ?_
 refine yE (yB (yC (yJ (yL (yS (yC (yD (yA rfl ?_))))))))
 iterate 4 refine yF ?_
 refine yE (yB (yC (yO ?_)))
 refine ⟨.inr rfl, yP [] (by rw [results89]) ?_ ?_ ?_⟩ <;> simp [wS, h4]
theorem yCm (Γ : Gl) (q : Rq) : Go.Ot.Good Γ prog 91 [qA q] [] (.t (txt q.p)) [] [] := by
 refine yR F.mix func91 (by rfl) ntmps91 ?_
 refine yD (yA rfl ?_)
 iterate 2 refine yF ?_
 refine yE (yB (yC (yD (yA rfl ?_))))
 iterate 2 refine yY ?_
 refine yZ [] false (uS Γ q.k) ?_
 iterate 2 refine yY ?_
 refine yZ [] false (uS Γ q.d) ?_
 iterate 2 refine yY ?_
 refine yZ [] false (uS Γ q.n) ?_
 iterate 2 refine yY ?_
 refine yZ [] false (pR Γ q.b) ?_
 refine yY ?_
 refine yZ [.r 1 12 0] true (sY Γ [.mk 1 q.k [] [], .mk 1 q.d [] [], .mk 1 q.n [] [], .mk 2 0 q.b []] (by simp [Wr.szL, Wr.sz])) ?_
 refine yZ [] false (cL Γ (rqW q.k q.d q.n q.b) (fun h => by have := yHi (q := q) h; exact Nat.le_trans this (by omega))) ?_
 refine yY ?_
 refine yE (xO (by kernel_rfl) (yC (yO ?_)))
 refine ⟨.inr rfl, yP [] (by rw [results91]) ?_ ?_ ?_⟩ <;> simp [Rq.p, Rq.w]
theorem lG (Γ : Gl) (q : Rp) (hq : tsz q.l ≤ 10000000) (hl : q.l.length ≤ 900000) : Go.Ot.Good Γ prog 37 [pA q] [] (.t (txt q.p)) [] [] := by
 refine yR F.mix func37 (by rfl) ntmps37 ?_
 refine yD (yA rfl ?_)
 iterate 2 refine yF ?_
 refine yE (yB (yC (yD (yA rfl ?_))))
 refine yF ?_
 refine yE (yB (yC (yD (yD (yA rfl ?_)))))
 iterate 4 refine yF ?_
 refine yE (yB (yC (yH ?_)))
 refine xN (fun sl L (i : Nat) => ⟨setAll (setBad sl [0, 5, 6, 10, 11, 12, 13, 14, 15, 16, 17, 18]) [(3, .msl (.n 9) 0 i 4), (9, .t (num i))], Go.Ot.look (vD (.n 9) (lH (tC (q.l.take i))) L)⟩) (fun i => i ≤ q.l.length) (fun i => q.l.length - i) (0) (wF ?_) ?_ ?_
 ·refine wL [(.r 0 0 0, .r 0 0 0)] ?_ ?_ ?_ <;> simp [Wr.cellsL_len, wA, Wr.k_mk, Wr.n_mk, Wr.s_mk, Wr.l_mk, Wr.cellsL, Wr.z_eq, lH, txtsW_nil]
 ·(first | omega | simp)
 ·intro i hi
  refine vE ?_
  refine yD (yA rfl ?_)
  refine yF ?_
  refine yE (yB (yC (yD ?_)))
  refine vL (fun hc0 => ?_) (fun hc0 => ?_)
  ·(try simp only [zB] at hc0)
   refine yL (yC (yD (yH (yD (yA rfl ?_)))))
   iterate 3 refine yF ?_
   refine yE (yB (yC (yA rfl ?_)))
   iterate 2 refine yF ?_
   refine yU [] false (pR Γ (q.l.getD i [])) ?_
   iterate 3 refine yF ?_
   refine yE (yB (yS (yC (yA rfl ?_))))
   iterate 2 refine yF ?_
   refine yE (yB ?_)
   have hil : i < q.l.length := by omega
   refine xE (i + 1) (wF ?_) ?_ ?_
   ·refine wL [(.r 0 0 0, .r 0 0 0), (.n 9, .n 9)] ?_ ?_ ?_ <;> simp [Wr.cellsL_len, wA, Wr.k_mk, Wr.n_mk, Wr.s_mk, Wr.l_mk, Wr.cellsL, Wr.z_eq, lH, fI hil, uZ, wC]
   ·(first | omega | (simp_all <;> omega))
   ·(first | omega | (simp only []; omega))
  ·(try simp only [zB] at hc0)
   refine xQ (yM (yN (yK (yC (yD (yA rfl ?_))))))
   have hil : i = q.l.length := by omega
   subst hil
   iterate 2 refine yY ?_
   refine yZ [] false (uS Γ q.k) ?_
   iterate 2 refine yY ?_
   refine yZ [] false (uS Γ q.d) ?_
   iterate 2 refine yY ?_
   refine yZ [] false (uS Γ q.n) ?_
   refine yY ?_
   refine yZ [.n 9] true (sY Γ (tC q.l) (by rw [szL_txts]; omega)) ?_ (hv := by (simp (disch := first | omega | (simp only [zL] <;> omega) | fail) [-List.map_map, -List.map_drop, -List.map_take, VwL_cons, xM, xY, vN, xV, xW, xU, Vw_agg, xS, xX, xA, VwL_refl_map, yX, xK, xL, wK, xJ, yW, xC, yV, VwTs_app, List.take_of_length_le, srcL, notIn, ObsVw, SrcOk, pOk, Go.Ot.look, resP, resN, ev, evc, mkS, push_cast, List.take_of_length_le, eM, tR] <;> (try omega)))
   refine yY ?_
   refine yZ [.r 7 11 0] true (sY Γ [.mk 1 q.k [] [], .mk 1 q.d [] [], .mk 1 q.n [] [], .mk 3 0 [] (tC q.l)] (by simp [Wr.szL, Wr.sz, szL_txts]; omega)) ?_
   refine yZ [] false (cL Γ (rpW q.k q.d q.n q.l) (fun h => by have := yHj (q := q) h; exact Nat.le_trans this (by omega))) ?_
   refine yY ?_
   refine yE (xO (by kernel_rfl) (yC (yO ?_)))
   refine ⟨.inr rfl, yP [] (by rw [results37]) ?_ ?_ ?_⟩ <;> simp [Rp.p, Rp.w]
theorem yHc (Γ : Gl) (hE : EG Γ) : Go.Ot.Good Γ prog 36 [.t (txt [])] [] (.tup [qA Rq.z, .t (bol false)]) [] [] := by
 refine yR F.mix func36 (by rfl) ntmps36 ?_
 refine yD (yA rfl ?_)
 iterate 2 refine yF ?_
 refine yE (yB (yC (yD (yA rfl ?_))))
 refine yF ?_
 refine yU [] false (yDM Γ hE [114, 101, 113, 117, 101, 115, 116]) ?_
 iterate 5 refine yF ?_
 refine yE (yB (yC (yD (yD (yA rfl ?_)))))
 refine yF ?_
 refine yU [] false (yJo Γ [114, 101, 113, 117, 101, 115, 116]) ?_
 refine yE (yB (yC (xF (yD (yA rfl ?_)))))
 iterate 3 refine yF ?_
 refine yE (yB (yC (yO (yG ?_))))
 refine ⟨.inr rfl, yP [] (by rw [results36]) ?_ ?_ ?_⟩ <;> simp [Rq.z, Rp.z, qA, pA]
theorem yJI (Γ : Gl) (hE : EG Γ) (s : List UInt8) (hs : s.length ≤ 1000000) (h0 : s ≠ []) (hg : got s = none) : Go.Ot.Good Γ prog 36 [.t (txt s)] [] (.tup [qA Rq.z, .t (bol false)]) [] [] := by
 refine yR F.mix func36 (by rfl) ntmps36 ?_
 refine yD (yA rfl ?_)
 iterate 2 refine yF ?_
 refine yE (yB (yC (yD (yA rfl ?_))))
 refine yF ?_
 refine yU [] false (yF0 Γ hE [114, 101, 113, 117, 101, 115, 116] s hs h0 hg) ?_
 iterate 5 refine yF ?_
 refine yE (yB (yC (yD (yD (yA rfl ?_)))))
 refine yF ?_
 refine yU [] false (yB1 Γ [114, 101, 113, 117, 101, 115, 116]) ?_
 refine yE (yB (yC (xF (yD (yA rfl ?_)))))
 iterate 3 refine yF ?_
 refine yE (yB (yC (yO (yG ?_))))
 refine ⟨.inr rfl, yP [] (by rw [results36]) ?_ ?_ ?_⟩ <;> simp [Rq.z, Rp.z, qA, pA]
theorem yHb (Γ : Gl) (hE : EG Γ) (s : List UInt8) (hs : s.length ≤ 1000000) (W : Wr) (hg : got s = some W) (h4 : W.l.length ≠ 4) : Go.Ot.Good Γ prog 36 [.t (txt s)] [] (.tup [qA Rq.z, .t (bol false)]) [] [] := by
 refine yR F.mix func36 (by rfl) ntmps36 ?_
 refine yD (yA rfl ?_)
 iterate 2 refine yF ?_
 refine yE (yB (yC (yD (yA rfl ?_))))
 refine yF ?_
 refine yU [] false (yDL Γ hE [114, 101, 113, 117, 101, 115, 116] s hs W hg h4) ?_
 iterate 5 refine yF ?_
 refine yE (yB (yC (yD (yD (yA rfl ?_)))))
 refine yF ?_
 refine yU [] false (yB1 Γ [114, 101, 113, 117, 101, 115, 116]) ?_
 refine yE (yB (yC (xF (yD (yA rfl ?_)))))
 iterate 3 refine yF ?_
 refine yE (yB (yC (yO (yG ?_))))
 refine ⟨.inr rfl, yP [] (by rw [results36]) ?_ ?_ ?_⟩ <;> simp [Rq.z, Rp.z, qA, pA]
theorem yFe (Γ : Gl) (hE : EG Γ) (s : List UInt8) (hs : s.length ≤ 1000000) (W a b c d : Wr) (hg : got s = some W) (hl : W.l = [a, b, c, d]) : Go.Ot.Good Γ prog 36 [.t (txt s)] [] ((if (⟨a.n, b.n, c.n, d.s⟩ : Rq).p = s then .tup [qA (⟨a.n, b.n, c.n, d.s⟩ : Rq), .t (bol true)] else .tup [qA Rq.z, .t (bol false)])) [] [] := by
 refine yR F.mix func36 (by rfl) ntmps36 ?_
 refine yD (yA rfl ?_)
 iterate 2 refine yF ?_
 refine yE (yB (yC (yD (yA rfl ?_))))
 refine yF ?_
 refine yU [] true ((by have h := yFZ Γ hE [114, 101, 113, 117, 101, 115, 116] s hs W hg (by rw [hl]; rfl); rw [hl] at h; exact h)) ?_
 iterate 5 refine yF ?_
 refine yE (yB (yC (yD (yD (yA rfl ?_)))))
 refine yF ?_
 refine yU [] false (yJn Γ) ?_
 refine yE (yB (yC (yJ (yL (yC (yD (yA rfl ?_)))))))
 iterate 19 refine yY ?_
 refine yE (xO (by kernel_rfl) (yC (yD (yD (yA rfl ?_)))))
 refine yF ?_
 refine yU [] false (yCm Γ (⟨a.n, b.n, c.n, d.s⟩ : Rq)) ?_
 iterate 2 refine yF ?_
 refine yE (yB (yC ?_))
 refine vL (fun hc1 => ?_) (fun hc1 => ?_)
 ·(try simp only [zB] at hc1)
  have he : (⟨a.n, b.n, c.n, d.s⟩ : Rq).p ≠ s := by simpa using hc1
  refine yD (yA rfl ?_)
  iterate 3 refine yF ?_
  refine yE (yB (yC (yO (yG ?_))))
  refine ⟨.inr rfl, yP [] (by rw [results36]) ?_ ?_ ?_⟩ <;> simp [Rq.z, qA, he]
 ·(try simp only [zB] at hc1)
  have he : (⟨a.n, b.n, c.n, d.s⟩ : Rq).p = s := by simpa using hc1
  refine yL (yC (yD (yA rfl ?_)))
  iterate 3 refine yF ?_
  refine yE (yB (yC (yO ?_)))
  refine ⟨.inr rfl, yP [] (by rw [results36]) ?_ ?_ ?_⟩ <;> simp [Rq.z, qA, he]
def ansQ : Option Rq → D
 | some q => .tup [qA q, .t (bol true)]
 | none => .tup [qA Rq.z, .t (bol false)]
theorem gL (q : Rq) : ansQ (some q) = .tup [qA q, .t (bol true)] := rfl
theorem ansQ_none : ansQ none = .tup [qA Rq.z, .t (bol false)] := rfl
theorem gP (Γ : Gl) (hE : EG Γ) (s : List UInt8) (hs : s.length ≤ 1000000) : Go.Ot.Good Γ prog 36 [.t (txt s)] [] (ansQ (GQ s)) [] [] := by
 by_cases h0 : s = []
 ·subst h0; rw [GQ_no got_nil, ansQ_none]; exact yHc Γ hE
 ·cases hg : got s with
  | none => rw [GQ_no hg, ansQ_none]; exact yJI Γ hE s hs h0 hg
  | some W =>
   by_cases h4 : W.l.length = 4
   ·obtain ⟨a, b, c, d, hl⟩ := yI9 h4
    have hp := (yDO hl).1
    have h := yFe Γ hE s hs W a b c d hg hl
    by_cases he : (qOf W).p = s
    ·rw [GQ_y hg he, gL]; rw [hp] at he ⊢; rw [if_pos he] at h; exact h
    ·rw [GQ_n hg he, ansQ_none]; rw [hp] at he; rw [if_neg he] at h; exact h
   ·rw [GQ_no4 hg h4, ansQ_none]; exact yHb Γ hE s hs W hg h4
end Go.Proofs.Tryz
