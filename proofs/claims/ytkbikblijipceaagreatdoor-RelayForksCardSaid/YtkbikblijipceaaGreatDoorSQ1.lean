/- Contracts of this program's functions. -/
import Derived.Test.YtkbikblijipceaaGreatDoorSF
import Derived.Test.YtkbikblijipceaaGreatDoorOtE
import Derived.Test.YtkbikblijipceaaGreatDoorOtD
import Derived.Test.YtkbikblijipceaaGreatDoorSV0
set_option maxHeartbeats 4000000
set_option maxRecDepth 100000
set_option linter.unusedVariables false
set_option linter.unusedSimpArgs false
namespace Go.Proofs.Tryz
open Go Go.Ot
attribute [local simp] num bol txt w8 w16 w32 w64 lst cls wE xZ List.take_of_length_le
attribute [local irreducible] wpK wpS uI wH wW wM vC xB Le
theorem gQ (Γ : Gl) (p : List UInt8) (v : Value) (h1 : v.oneCell' = true) : Go.Ot.Good Γ prog 219 [.agg [.t (.v (.string (S p))), .t (.v v)]] [] (.t (.v v)) [] [] := by
 refine yR F.mix func219 (by rfl) ntmps219 ?_
 refine yD (yA rfl ?_)
 refine yF (hs := by (simp only [push_cast, h1] <;> rfl)) ?_
 refine yF ?_
 refine yE (yB (yC (yD (yA rfl ?_))))
 iterate 3 refine yF ?_
 refine yE (yB (yC (yP ?_)))
 refine ⟨.inr rfl, yQ [] (by rw [results219]) ?_ ?_ ?_⟩ <;> simp [h1]
theorem cS (v : Value) (xT : TypeId) (w : World) : (Instr.typeAssert (.iface 181 v) xT 237 true).run prog w = .ok (.tuple #[.nilIface, .bool false]) w := run_typeAssert_lacksB underlying237 (by kernel_rfl) (by kernel_rfl) v xT w
theorem cT (v : Value) (xT : TypeId) (w : World) : (Instr.typeAssert (.iface 179 v) xT 237 true).run prog w = .ok (.tuple #[.nilIface, .bool false]) w := run_typeAssert_lacksB underlying237 (by kernel_rfl) (by kernel_rfl) v xT w
theorem cV (v : Value) (xT : TypeId) (w : World) : (Instr.typeAssert (.iface 179 v) xT 196 true).run prog w = .ok (.tuple #[.nilIface, .bool false]) w := run_typeAssert_lacksB underlying196 (by kernel_rfl) (by kernel_rfl) v xT w
theorem cU (v : Value) (xT : TypeId) (w : World) : (Instr.typeAssert (.iface 179 v) xT 198 true).run prog w = .ok (.tuple #[.nilIface, .bool false]) w := run_typeAssert_lacksB underlying198 (by kernel_rfl) (by kernel_rfl) v xT w
theorem cX (v : Value) (xT : TypeId) (w : World) : (Instr.typeAssert (.iface 181 v) xT 196 true).run prog w = .ok (.tuple #[.iface 181 v, .bool true]) w := run_typeAssert_hasB underlying196 (by kernel_rfl) v xT w
theorem cW (Γ : Gl) (p : List UInt8) (s s' : List UInt8) (b : Bool) (hb : ∀ w, (binOp .eql 81 (.iface 179 (.string (S s))) (.iface 179 (.string (S s')))).run prog w = .ok (.bool b) w) : Go.Ot.Good Γ prog 155 [.t (.ifc 181 (.agg [txt p, .ifc 179 (txt s)])), .t (.ifc 179 (txt s')), .t (bol true)] [] (.t (bol b)) [] [] := by
 refine yR F.mix func155 (by rfl) ntmps155 ?_
 refine yD (yA rfl ?_)
 refine yF ?_
 refine yE (yB (yC (yI ?_)))
 refine xJ (fun sl L (q : Bool) => ⟨setAll (setBad sl [6, 7, 8, 9, 10, 12, 13, 14, 15, 16, 17, 18, 19, 20, 21, 22, 23, 24, 25, 26, 27, 28, 29, 30, 31, 32, 33, 34, 35, 36, 37, 38, 39, 40, 41, 42, 43, 44, 45, 46, 47, 48, 49, 50, 51, 52, 53]) [(0, if q = true then .t (.v (.iface 179 (.string (S s)))) else .t (.ifc 181 (.agg [txt p, .ifc 179 (txt s)])))], Go.Ot.look (L)⟩) (fun q => True) (fun q => if q = true then 0 else 1) (false) (wF ?_) ?_ ?_
 ·refine yT ?_ ?_ ?_ <;> simp
 ·trivial
 ·intro q _
  cases q
  ·refine vL ?_
   refine yI (yD (yD (yA rfl ?_)))
   iterate 2 refine yF ?_
   first | refine yX ?_ | refine wG ?_ | refine uO ?_
   first | refine yX ?_ | refine wG ?_ | refine uO ?_
   refine aO (.bool false) ?_
   refine yF ?_
   refine yE (yB (yC (yJ (yK (yC (yD (yD (yA rfl ?_))))))))
   refine yF ?_
   refine vV (.iface 181 (.agg #[.string (S p), .iface 179 (.string (S s))])) (.tuple #[.nilIface, .bool false]) ?_ (cS _ _)
   refine yF ?_
   refine wO (.nilIface) ?_
   refine wO (.bool false) ?_
   iterate 2 refine yF ?_
   refine yE (yB (yC (yD (yA rfl ?_))))
   iterate 2 refine yF ?_
   first | refine yX ?_ | refine wG ?_ | refine uO ?_
   first | refine yX ?_ | refine wG ?_ | refine uO ?_
   first | refine yX ?_ | refine wG ?_ | refine uO ?_
   refine yF ?_
   refine yE (yB (yC (yJ (yK (yC (yD (yA rfl ?_)))))))
   refine yF ?_
   refine yE (yB (yC (yI (yD (yA rfl ?_)))))
   refine vV (.iface 181 (.agg #[.string (S p), .iface 179 (.string (S s))])) (.tuple #[.iface 181 (.agg #[.string (S p), .iface 179 (.string (S s))]), .bool true]) ?_ (cX _ _)
   refine wO (.bool true) ?_
   refine wO (.iface 181 (.agg #[.string (S p), .iface 179 (.string (S s))])) ?_
   refine yE (yB (yC (xD (yD (yA rfl ?_)))))
   refine yF ?_
   refine yE (yB (yC (yD (yA rfl ?_))))
   refine yF ?_
   refine kT [] false (gQ Γ p (.iface 179 (.string (S s))) rfl) ?_ (ty := 181) (v := .agg #[.string (S p), .iface 179 (.string (S s))]) (v' := .agg #[.string (S p), .iface 179 (.string (S s))]) (f := 219) rfl (by intro w; kernel_rfl)
   refine yF ?_
   refine yE (yB (yC (yD (yA rfl ?_))))
   refine yF ?_
   refine wO (.bool false) ?_
   refine yE (yB (yC (yJ (yK ?_))))
   refine yS (yS (xF (true) (wF ?_) ?_ ?_))
   ·refine yT ?_ ?_ ?_ <;> simp
   ·trivial
   ·simp
  ·refine vL ?_
   refine yI (yD (yD (yA rfl ?_)))
   iterate 2 refine yF ?_
   first | refine yX ?_ | refine wG ?_ | refine uO ?_
   first | refine yX ?_ | refine wG ?_ | refine uO ?_
   refine yEC (.bool b) ?_ hb
   refine yF ?_
   refine yE (yB (yC ?_))
   refine vM (fun hc0 => ?_) (fun hc0 => ?_)
   ·(try simp only [Bool.and_eq_true, Bool.or_eq_true, Bool.or_eq_false_iff, Bool.not_eq_true', Bool.not_eq_false', xH, xI, Bool.and_eq_false_imp, beq_iff_eq, beq_eq_false_iff_ne, ne_eq] at hc0)
    subst hc0
    refine yD (yA rfl ?_)
    refine yF ?_
    refine yE (yB (yC (yP (yG (yH (wJ (yH ?_)))))))
    refine ⟨.inr rfl, yQ [] (by rw [results155]) ?_ ?_ ?_⟩ <;> simp
   ·(try simp only [Bool.and_eq_true, Bool.or_eq_true, Bool.or_eq_false_iff, Bool.not_eq_true', Bool.not_eq_false', xH, xI, Bool.and_eq_false_imp, beq_iff_eq, beq_eq_false_iff_ne, ne_eq] at hc0)
    subst hc0
    refine yK (yC (yD (yD (yA rfl ?_))))
    refine yF ?_
    refine vV (.iface 179 (.string (S s))) (.tuple #[.nilIface, .bool false]) ?_ (cT _ _)
    refine yF ?_
    refine wO (.nilIface) ?_
    refine wO (.bool false) ?_
    iterate 2 refine yF ?_
    refine yE (yB (yC (yD (yA rfl ?_))))
    iterate 2 refine yF ?_
    first | refine yX ?_ | refine wG ?_ | refine uO ?_
    first | refine yX ?_ | refine wG ?_ | refine uO ?_
    first | refine yX ?_ | refine wG ?_ | refine uO ?_
    refine yF ?_
    refine yE (yB (yC (yJ (yK (yC (yD (yA rfl ?_)))))))
    refine yF ?_
    refine yE (yB (yC (yI (yD (yA rfl ?_)))))
    refine vV (.iface 179 (.string (S s))) (.tuple #[.nilIface, .bool false]) ?_ (cV _ _)
    refine wO (.bool false) ?_
    refine wO (.nilIface) ?_
    refine yE (yB (yC (yJ (yD (yA rfl ?_)))))
    refine vV (.iface 179 (.string (S s))) (.tuple #[.nilIface, .bool false]) ?_ (cU _ _)
    refine wO (.bool false) ?_
    refine wO (.nilIface) ?_
    refine yE (yB (yC (yJ (yD (yA rfl ?_)))))
    refine yF ?_
    refine yE (yB (yC (yD (yA rfl ?_))))
    refine yF ?_
    refine yE (yB (yC (yP (yH (yH (wJ (yH ?_)))))))
    refine ⟨.inr rfl, yQ [] (by rw [results155]) ?_ ?_ ?_⟩ <;> simp
theorem yC3 (v : Value) (w : World) : (callFunc 131 #[.iface 179 v]).run prog w = .ok (.value (.iface 188 (.agg #[.pointer (some ⟨2, 179, none⟩)]))) w := by
 rw [run_callFunc_extern func131 (by kernel_rfl) (by kernel_rfl) (by kernel_rfl) (e := Extern.ReflectliteType.typeOf) (by kernel_rfl)]
 kernel_rfl
theorem yC2 (w : World) : (callFunc 222 #[.agg #[.pointer (some ⟨2, 179, none⟩)]]).run prog w = .ok (.value (.bool true)) w := by
 rw [run_callFunc_extern func222 (by kernel_rfl) (by kernel_rfl) (by kernel_rfl) (e := Extern.ReflectliteType.method (fun t => do Extern.Rtype.noPackHeld "Comparable" t; pure (.bool (← typeInfo t).comparable))) (by kernel_rfl)]
 kernel_rfl
theorem lC (Γ : Gl) (p : List UInt8) (s s' : List UInt8) (b : Bool) (hb : ∀ w, (binOp .eql 81 (.iface 179 (.string (S s))) (.iface 179 (.string (S s')))).run prog w = .ok (.bool b) w) : Go.Ot.Good Γ prog 125 [.t (.ifc 181 (.agg [txt p, .ifc 179 (txt s)])), .t (.ifc 179 (txt s'))] [] (.t (bol b)) [] [] := by
 refine yR F.mix func125 (by rfl) ntmps125 ?_
 refine yD (yA rfl ?_)
 refine yF ?_
 refine yE (yB (yC (yD (yD (yA rfl ?_)))))
 refine yF ?_
 refine tE false ?_
 refine yF ?_
 first | refine yX ?_ | refine wG ?_ | refine uO ?_
 refine gD false ?_
 refine yF ?_
 refine yE (yB (yC (yJ (yK (yC (yD (yA rfl ?_)))))))
 refine yF ?_
 refine yCE #[.iface 179 (.string (S s'))] (.iface 188 (.agg #[.pointer (some ⟨2, 179, none⟩)])) ?_ (yC3 _)
 refine kC (.bool true) (ty := 188) (v := .agg #[.pointer (some ⟨2, 179, none⟩)]) (v' := .agg #[.pointer (some ⟨2, 179, none⟩)]) (f := 222) ?_ (by intro w; kernel_rfl) yC2
 refine yF ?_
 refine yE (yB (yC (yD (yA rfl ?_))))
 iterate 3 refine yF ?_
 refine yU [] false (cW Γ p s s' b hb) ?_
 refine yF ?_
 refine yE (yB (yC (yP ?_)))
 refine ⟨.inr rfl, yQ [] (by rw [results125]) ?_ ?_ ?_⟩ <;> simp
theorem mB (Γ : Gl) (s' : List UInt8) : Go.Ot.Good Γ prog 125 [.t (.v .nilIface), .t (.ifc 179 (txt s'))] [] (.t (bol false)) [] [] := by
 refine yR F.mix func125 (by rfl) ntmps125 ?_
 refine yD (yA rfl ?_)
 refine yF ?_
 refine yE (yB (yC (yD (yD (yA rfl ?_)))))
 refine yF ?_
 refine vP false ?_
 refine yF ?_
 iterate 2 refine wG ?_
 refine yF ?_
 refine yE (yB (yC (xD (yD (yA rfl ?_)))))
 iterate 2 refine yF ?_
 refine wO (.bool false) ?_
 refine yF ?_
 refine yE (yB (yC (yP (yG ?_))))
 refine ⟨.inr rfl, yQ [] (by rw [results125]) ?_ ?_ ?_⟩ <;> simp
theorem yFj (w : World) : (binOp .eql 81 (.iface 179 (.string (S [99, 117, 116, 32, 115, 104, 111, 114, 116]))) (.iface 179 (.string (S [99, 117, 116, 32, 115, 104, 111, 114, 116])))).run prog w = .ok (.bool true) w := by kernel_rfl
theorem yFi (w : World) : (binOp .eql 81 (.iface 179 (.string (S [115, 111, 109, 101, 116, 104, 105, 110, 103, 32, 101, 108, 115, 101]))) (.iface 179 (.string (S [99, 117, 116, 32, 115, 104, 111, 114, 116])))).run prog w = .ok (.bool false) w := by kernel_rfl
theorem yFh (w : World) : (binOp .eql 81 (.iface 179 (.string (S [115, 111, 109, 101, 116, 104, 105, 110, 103, 32, 101, 108, 115, 101]))) (.iface 179 (.string (S [115, 111, 109, 101, 116, 104, 105, 110, 103, 32, 101, 108, 115, 101])))).run prog w = .ok (.bool true) w := by kernel_rfl
end Go.Proofs.Tryz

namespace Go.Proofs.Tryz
open Go Go.Ot
abbrev rqW (k d n : Int) (b : List UInt8) : Wr := .mk 3 0 [] [.mk 1 k [] [], .mk 1 d [] [], .mk 1 n [] [], .mk 2 0 b []]
abbrev rpW (k d n : Int) (l : List (List UInt8)) : Wr := .mk 3 0 [] [.mk 1 k [] [], .mk 1 d [] [], .mk 1 n [] [], .mk 3 0 [] (tA l)]
def yCg (n : Int) : Prop := -9223372036854775808 ≤ n ∧ n ≤ 9223372036854775807
theorem yAd (k d n : Int) (b : List UInt8) : mayW 6 (rqW k d n b) = decide (b.length ≤ 1048576) := by
 rw [rqW, tS]; simp [mN, kJ]
theorem yAe (k d n : Int) (b : List UInt8) : (putW 6 (rqW k d n b)).length = 37 + b.length := by
 rw [rqW, tR]; simp only [List.flatMap_cons, List.flatMap_nil, List.length_append, List.length_nil, mM, kI]; omega
theorem yC4 {k d n : Int} {b : List UInt8} (hk : yCg k) (hd : yCg d) (hn : yCg n) : rangeW 6 (rqW k d n b) := by
 rw [rqW, mK]
 refine ⟨by omega, fun x hx => ?_⟩
 simp only [List.mem_cons, List.not_mem_nil, or_false] at hx
 rcases hx with rfl | rfl | rfl | rfl
 ·exact ⟨hk, fun x hx => by cases hx⟩
 ·exact ⟨hd, fun x hx => by cases hx⟩
 ·exact ⟨hn, fun x hx => by cases hx⟩
 ·exact ⟨by omega, fun x hx => by cases hx⟩
theorem yAf (k d n : Int) (l : List (List UInt8)) : mayW 6 (rpW k d n l) = (decide (l.length ≤ 65536) && l.all fun s => decide (s.length ≤ 1048576)) := by
 rw [rpW, tS]; simp [mN, tS, yE2, tP]
theorem eO (k d n : Int) (l : List (List UInt8)) : (putW 6 (rpW k d n l)).length = 37 + tsz l := by
 rw [rpW, tR]; simp only [List.flatMap_cons, List.flatMap_nil, List.length_append, List.length_nil, mM, tR, yE1]; omega
theorem yHO {k d n : Int} {l : List (List UInt8)} (hk : yCg k) (hd : yCg d) (hn : yCg n) : rangeW 6 (rpW k d n l) := by
 rw [rpW, mK]
 refine ⟨by omega, fun x hx => ?_⟩
 simp only [List.mem_cons, List.not_mem_nil, or_false] at hx
 rcases hx with rfl | rfl | rfl | rfl
 ·exact ⟨hk, fun x hx => by cases hx⟩
 ·exact ⟨hd, fun x hx => by cases hx⟩
 ·exact ⟨hn, fun x hx => by cases hx⟩
 ·refine ⟨by omega, fun x hx => ?_⟩
  obtain ⟨s, _, rfl⟩ := List.mem_map.1 hx
  exact ⟨by omega, fun x hx => by cases hx⟩
theorem rqW_sz (k d n : Int) (b : List UInt8) : (rqW k d n b).sz = 5 := by simp [rqW, Wr.sz, Wr.szL]
theorem rpW_sz (k d n : Int) (l : List (List UInt8)) : (rpW k d n l).sz = 5 + l.length := by simp [rpW, Wr.sz, Wr.szL, szL_txts]; omega
def part (W : Wr) (i : Nat) : Wr := W.l.getD i Wr.z
structure Rq where
 k : Int
 d : Int
 n : Int
 b : List UInt8
 deriving DecidableEq
structure Rp where
 k : Int
 d : Int
 n : Int
 l : List (List UInt8)
 deriving DecidableEq
def Rq.w (q : Rq) : Wr := rqW q.k q.d q.n q.b
def Rp.w (q : Rp) : Wr := rpW q.k q.d q.n q.l
def Rq.p (q : Rq) : List UInt8 := qV q.w
def Rp.p (q : Rp) : List UInt8 := qV q.w
def Rq.ok (q : Rq) : Prop := yCg q.k ∧ yCg q.d ∧ yCg q.n
def Rp.ok (q : Rp) : Prop := yCg q.k ∧ yCg q.d ∧ yCg q.n
def Rq.z : Rq := ⟨0, 0, 0, []⟩
def Rp.z : Rp := ⟨0, 0, 0, []⟩
def qOf (W : Wr) : Rq := ⟨(part W 0).n, (part W 1).n, (part W 2).n, (part W 3).s⟩
def pOf (W : Wr) : Rp := ⟨(part W 0).n, (part W 1).n, (part W 2).n, wTs (part W 3).l⟩
theorem qOf_w (q : Rq) : qOf q.w = q := rfl
theorem pOf_w (q : Rp) : pOf q.w = q := by
 show (⟨q.k, q.d, q.n, wTs (tA q.l)⟩ : Rp) = q
 rw [yEW]
theorem eU {W : Wr} (h : rangeW 6 W) (i : Nat) : yCg (part W i).n := by
 rw [part, List.getD_eq_getElem?_getD]
 cases e : W.l[i]? with
 | none => simp only [Option.getD_none, Wr.z_eq, Wr.n_mk]; exact ⟨by omega, by omega⟩
 | some x =>
  cases W with
  | mk k n s l => exact yB7 5 x (h.2 x (List.mem_of_getElem? e))
theorem rng_z : rangeW 6 Wr.z := by rw [Wr.z_eq, mK]; exact ⟨by omega, fun x hx => by cases hx⟩
theorem yAz (s : List UInt8) : rangeW 6 ((got s).getD Wr.z) := by
 cases h : got s with
 | none => exact rng_z
 | some W => exact (yD0 h).2.1
theorem qOf_ok (s : List UInt8) : (qOf ((got s).getD Wr.z)).ok := ⟨eU (yAz s) 0, eU (yAz s) 1, eU (yAz s) 2⟩
def GQ (s : List UInt8) : Option Rq := if s = [] ∨ (qOf ((got s).getD Wr.z)).p ≠ s then none else some (qOf ((got s).getD Wr.z))
def GP (s : List UInt8) : Option Rp := if s = [] ∨ (pOf ((got s).getD Wr.z)).p ≠ s then none else some (pOf ((got s).getD Wr.z))
theorem yFY {w : Wr} (hr : rangeW 6 w) (h : qV w ≠ []) : mayW 6 w = true ∧ got (qV w) = some w := by
 cases e : mayW 6 w with
 | false => exact absurd (yEI e) h
 | true => exact ⟨rfl, kP e hr⟩
theorem yEO {s : List UInt8} {q : Rq} (h : GQ s = some q) : s ≠ [] ∧ q.p = s ∧ q.ok ∧ mayW 6 q.w = true ∧ got s = some q.w := by
 rw [GQ] at h
 split at h
 ·cases h
 ·rename_i hn
  simp only [not_or, ne_eq, Decidable.not_not] at hn
  cases h
  have hok := qOf_ok s
  obtain ⟨h1, h2⟩ := yFY (w := (qOf ((got s).getD Wr.z)).w) (yC4 hok.1 hok.2.1 hok.2.2) (by show Rq.p _ ≠ []; rw [hn.2]; exact hn.1)
  have h2 : got (qOf ((got s).getD Wr.z)).p = some (qOf ((got s).getD Wr.z)).w := h2
  rw [hn.2] at h2
  exact ⟨hn.1, hn.2, hok, h1, h2⟩
theorem GQ_p {q : Rq} (h : mayW 6 q.w = true) (hok : q.ok) : GQ q.p = some q := by
 have hg : got q.p = some q.w := kP h (yC4 hok.1 hok.2.1 hok.2.2)
 have hne : q.p ≠ [] := yAM h
 rw [GQ, hg, Option.getD_some, qOf_w, if_neg (by simp [hne])]
theorem GP_p {q : Rp} (h : mayW 6 q.w = true) (hok : q.ok) : GP q.p = some q := by
 have hg : got q.p = some q.w := kP h (yHO hok.1 hok.2.1 hok.2.2)
 have hne : q.p ≠ [] := yAM h
 rw [GP, hg, Option.getD_some, pOf_w, if_neg (by simp [hne])]
theorem GQ_no {s : List UInt8} (h : got s = none) : GQ s = none := by
 cases e : GQ s with
 | none => rfl
 | some q => have := (yEO e).2.2.2.2; rw [h] at this; cases this
theorem GQ_no4 {s : List UInt8} {W : Wr} (h : got s = some W) (h4 : W.l.length ≠ 4) : GQ s = none := by
 cases e : GQ s with
 | none => rfl
 | some q => have := (yEO e).2.2.2.2; rw [h] at this; cases this; exact absurd rfl h4
theorem s_ne {s : List UInt8} {W : Wr} (h : got s = some W) : s ≠ [] := fun e => by rw [e, got_nil] at h; cases h
theorem GQ_y {s : List UInt8} {W : Wr} (h : got s = some W) (h2 : (qOf W).p = s) : GQ s = some (qOf W) := by rw [GQ, h, Option.getD_some, if_neg (by simp [h2, s_ne h])]
theorem GQ_n {s : List UInt8} {W : Wr} (h : got s = some W) (h2 : (qOf W).p ≠ s) : GQ s = none := by rw [GQ, h, Option.getD_some, if_pos (.inr h2)]
theorem may_tx : ∀ (d : Nat) (x : Wr), mayW d x = true → 5 + x.s.length ≤ (putW d x).length := by
 have key : ∀ (deep : Bool) (sub : Wr → Bool) (put : Wr → List UInt8) (x : Wr), tB deep sub x = true → 5 + x.s.length ≤ (uZ put x).length := by
  intro deep sub put x hm
  cases x with
  | mk k n s l =>
   rw [Wr.s_mk]
   rcases jP hm with rfl | ⟨rfl, hs⟩ | ⟨rfl, hl, hml⟩
   ·rw [jQ] at hm
    simp only [Bool.and_eq_true, beq_iff_eq] at hm
    rw [hm.1, uE, List.length_cons, nb_len]; simp
   ·rw [vZ, List.length_cons, List.length_append, nb_len]; omega
   ·rw [uW] at hm
    simp only [Bool.and_eq_true, beq_iff_eq] at hm
    rw [hm.1.1.2, bI, List.length_cons, List.length_append, nb_len]; simp
 intro d x h
 cases d with
 | zero => rw [putW_z]; rw [mayW_z] at h; exact key _ _ _ x h
 | succ d => rw [lU]; rw [lW] at h; exact key _ _ _ x h
theorem yGR (d : Nat) : ∀ l : List Wr, (∀ x ∈ l, mayW d x = true) → tsz (wTs l) ≤ (l.flatMap (putW d)).length
 | [], _ => by simp [tsz, wTs]
 | x :: l, h => by
  have h1 := may_tx d x (h x (by simp))
  have h2 := yGR d l (fun y hy => h y (by simp [hy]))
  simp only [tsz, wTs, List.map_cons, List.sum_cons, List.flatMap_cons, List.length_append] at h2 ⊢
  omega
theorem yDN {d : Nat} {k n : Int} {s : List UInt8} {l : List Wr} (h : mayW (d + 1) (.mk k n s l) = true) : (∀ x ∈ l, mayW d x = true) ∧ (l.flatMap (putW d)).length ≤ (putW (d + 1) (.mk k n s l)).length := by
 rw [lW] at h
 rcases jP h with rfl | ⟨rfl, hs⟩ | ⟨rfl, hl, hml⟩
 ·rw [jQ] at h
  simp only [Bool.and_eq_true, decide_eq_true_eq] at h
  have : l = [] := List.eq_nil_of_length_eq_zero h.2
  subst this
  exact ⟨(fun x hx => by cases hx), by simp⟩
 ·rw [sS] at h
  simp only [Bool.and_eq_true, decide_eq_true_eq] at h
  have : l = [] := List.eq_nil_of_length_eq_zero h.1.2
  subst this
  exact ⟨(fun x hx => by cases hx), by simp⟩
 ·exact ⟨hml, by rw [lU, bI, List.length_cons, List.length_append, nb_len]; omega⟩
theorem yFJ {f : Wr → List UInt8} {l : List Wr} {x : Wr} (h : x ∈ l) : (f x).length ≤ (l.flatMap f).length := by
 induction l with
 | nil => cases h
 | cons a l ih =>
  simp only [List.flatMap_cons, List.length_append]
  rcases List.mem_cons.1 h with rfl | h
  ·omega
  ·have := ih h; omega
theorem fM {s : List UInt8} {W : Wr} (h : got s = some W) (i : Nat) : tsz (wTs (part W i).l) ≤ s.length := by
 obtain ⟨h1, _, h2⟩ := yD0 h
 rw [part, List.getD_eq_getElem?_getD]
 cases e : W.l[i]? with
 | none => simp [Wr.z_eq, Wr.l_mk, tsz, wTs]
 | some x =>
  rw [Option.getD_some]
  have hx := List.mem_of_getElem? e
  cases W with
  | mk k n s' l =>
   obtain ⟨h3, h4⟩ := yDN (d := 5) h1
   have hx : x ∈ l := hx
   have h5 := yFJ (f := putW 5) hx
   cases x with
   | mk k' n' s'' l' =>
    obtain ⟨h6, h7⟩ := yDN (d := 4) (h3 _ hx)
    have h8 := yGR 4 l' h6
    have h4 : (l.flatMap (putW 5)).length ≤ (putW 6 (.mk k n s' l)).length := h4
    have h7 : (l'.flatMap (putW 4)).length ≤ (putW 5 (.mk k' n' s'' l')).length := h7
    rw [Wr.l_mk, h2]
    omega
theorem yEX (l : List Wr) : (wTs l).take l.length = wTs l := by rw [← qH l]; exact List.take_length
theorem tsz_len : ∀ l : List (List UInt8), 5 * l.length ≤ tsz l
 | [] => by simp [tsz]
 | a :: l => by have := tsz_len l; simp only [tsz, List.map_cons, List.sum_cons, List.length_cons] at this ⊢; omega
theorem yGV {q : Rp} : mayW 6 q.w = true → (putW 6 q.w).length ≤ 37 + tsz q.l := fun _ => Nat.le_of_eq (eO q.k q.d q.n q.l)
theorem yGU {q : Rq} (h : mayW 6 q.w = true) : (putW 6 q.w).length ≤ 1048613 := by
 have h1 := yAe q.k q.d q.n q.b
 have h2 := yAd q.k q.d q.n q.b
 have h : mayW 6 (rqW q.k q.d q.n q.b) = true := h
 rw [h2] at h
 have h := of_decide_eq_true h
 show (putW 6 (rqW q.k q.d q.n q.b)).length ≤ _
 omega
def qA (q : Rq) : D := .agg [.t (num q.k), .t (num q.d), .t (num q.n), .t (txt q.b)]
def pA (q : Rp) : D := .agg [.t (num q.k), .t (num q.d), .t (num q.n), .t (lst txt q.l)]
@[push_cast] theorem qA_eq (q : Rq) : qA q = .agg [.t (num q.k), .t (num q.d), .t (num q.n), .t (txt q.b)] := rfl
@[push_cast] theorem pA_eq (q : Rp) : pA q = .agg [.t (num q.k), .t (num q.d), .t (num q.n), .t (.sl q.l.length (q.l.map txt))] := rfl
theorem yDp {W : Wr} {a b c d : Wr} (h : W.l = [a, b, c, d]) : qOf W = ⟨a.n, b.n, c.n, d.s⟩ ∧ pOf W = ⟨a.n, b.n, c.n, wTs d.l⟩ := by
 cases W with
 | mk k n s l => rw [Wr.l_mk] at h; subst h; exact ⟨rfl, rfl⟩
theorem yIK {W : Wr} (h : W.l.length = 4) : ∃ a b c d, W.l = [a, b, c, d] := by
 match e : W.l with
 | [a, b, c, d] => exact ⟨a, b, c, d, rfl⟩
 | [] | [_] | [_, _] | [_, _, _] | _ :: _ :: _ :: _ :: _ :: _ => rw [e] at h; simp at h
end Go.Proofs.Tryz

namespace Go.Proofs.Tryz
open Go Go.Ot
attribute [local simp] num bol txt w8 w16 w32 w64 lst cls wE xZ List.take_of_length_le
attribute [local irreducible] wpK wpS uI wH wW wM vC xB Le rdS lpW rdW got tB mayW ixF uZ putW nb nbS u64 fmT qV Rq.p Rp.p GQ GP tsz wTs
theorem yIZ (Γ : Gl)  : Go.Ot.Good Γ prog 90 [.t (.v .nilIface)] [] (.t (bol false)) [] [] := by
 refine yR F.mix func90 (by rfl) ntmps90 ?_
 refine yD (yA rfl ?_)
 refine yF ?_
 refine yE (yB (yC (yD (yA rfl ?_))))
 iterate 2 refine yF ?_
 refine yU [] false (mB Γ [99, 117, 116, 32, 115, 104, 111, 114, 116]) ?_
 refine yF ?_
 iterate 2 refine yX ?_
 refine wT [] false (mB Γ [115, 111, 109, 101, 116, 104, 105, 110, 103, 32, 101, 108, 115, 101]) ?_
 iterate 2 refine yF ?_
 refine yE (yB (yC (yP ?_)))
 refine ⟨.inr rfl, yQ [] (by rw [results90]) ?_ ?_ ?_⟩ <;> simp
theorem yI0 (Γ : Gl) (p : List UInt8) : Go.Ot.Good Γ prog 90 [.t (.ifc 181 (.agg [txt p, .ifc 179 (txt [99, 117, 116, 32, 115, 104, 111, 114, 116])]))] [] (.t (bol true)) [] [] := by
 refine yR F.mix func90 (by rfl) ntmps90 ?_
 refine yD (yA rfl ?_)
 refine yF ?_
 refine yE (yB (yC (yD (yA rfl ?_))))
 iterate 2 refine yF ?_
 refine yU [] false (lC Γ p [99, 117, 116, 32, 115, 104, 111, 114, 116] [99, 117, 116, 32, 115, 104, 111, 114, 116] true yFj) ?_
 refine yF ?_
 iterate 3 refine wG ?_
 iterate 2 refine yF ?_
 refine yE (yB (yC (yP ?_)))
 refine ⟨.inr rfl, yQ [] (by rw [results90]) ?_ ?_ ?_⟩ <;> simp
theorem yBD (Γ : Gl) (p : List UInt8) : Go.Ot.Good Γ prog 90 [.t (.ifc 181 (.agg [txt p, .ifc 179 (txt [115, 111, 109, 101, 116, 104, 105, 110, 103, 32, 101, 108, 115, 101])]))] [] (.t (bol true)) [] [] := by
 refine yR F.mix func90 (by rfl) ntmps90 ?_
 refine yD (yA rfl ?_)
 refine yF ?_
 refine yE (yB (yC (yD (yA rfl ?_))))
 iterate 2 refine yF ?_
 refine yU [] false (lC Γ p [115, 111, 109, 101, 116, 104, 105, 110, 103, 32, 101, 108, 115, 101] [99, 117, 116, 32, 115, 104, 111, 114, 116] false yFi) ?_
 refine yF ?_
 iterate 2 refine yX ?_
 refine wT [] false (lC Γ p [115, 111, 109, 101, 116, 104, 105, 110, 103, 32, 101, 108, 115, 101] [115, 111, 109, 101, 116, 104, 105, 110, 103, 32, 101, 108, 115, 101] true yFh) ?_
 iterate 2 refine yF ?_
 refine yE (yB (yC (yP ?_)))
 refine ⟨.inr rfl, yQ [] (by rw [results90]) ?_ ?_ ?_⟩ <;> simp
theorem yDn (Γ : Gl) (hE : EG Γ) (p : List UInt8) : Go.Ot.Good Γ prog 89 [.t (txt p), .t (txt [])] [] (.tup [.t (.v (.slice none 0 0)), .t (.ifc 181 (.agg [txt p, .ifc 179 (txt [99, 117, 116, 32, 115, 104, 111, 114, 116])]))]) [] [] := by
 refine yR F.mix func89 (by rfl) ntmps89 ?_
 refine yD (yA rfl ?_)
 iterate 2 refine yF ?_
 refine yE (yB (yC (yD (yA rfl ?_))))
 refine yF ?_
 refine yU [] true ((by have h := qW Γ hE ([]) (by decide); rw [got_nil, Option.getD_none, Option.isSome_none] at h; exact h)) ?_
 iterate 6 refine yF ?_
 refine yE (yB (yC (yD (yI (yD (yA rfl ?_))))))
 iterate 3 refine yF ?_
 refine yE (yB (yC (xD (yD (yA rfl ?_)))))
 iterate 6 refine yF ?_
 refine yE (yB (yC (yP (yH (yG ?_)))))
 refine ⟨.inr rfl, yQ [] (by rw [results89]) ?_ ?_ ?_⟩ <;> simp
theorem yFz (Γ : Gl) (hE : EG Γ) (p s : List UInt8) (hs : s.length ≤ 1000000) (h0 : s ≠ []) (hg : got s = none) : Go.Ot.Good Γ prog 89 [.t (txt p), .t (txt s)] [] (.tup [.t (.v (.slice none 0 0)), .t (.ifc 181 (.agg [txt p, .ifc 179 (txt [115, 111, 109, 101, 116, 104, 105, 110, 103, 32, 101, 108, 115, 101])]))]) [] [] := by
 have hb := uY h0
 refine yR F.mix func89 (by rfl) ntmps89 ?_
 refine yD (yA rfl ?_)
 iterate 2 refine yF ?_
 refine yE (yB (yC (yD (yA rfl ?_))))
 refine yF ?_
 refine yU [] true ((by have h := qW Γ hE (s) (hs); rw [hg, Option.getD_none, Option.isSome_none] at h; exact h)) ?_
 iterate 6 refine yF ?_
 refine yE (yB (yC (yD (yI (yD (yA rfl ?_))))))
 refine yF ?_
 refine yF (hs := by (simp (disch := first | omega | (simp only [List.length_drop, List.length_take, List.length_map, List.length_append, List.length_cons, List.length_nil, List.length_replicate, List.length_set] <;> omega) | (simp only [push_cast] <;> omega) | fail) only [push_cast, reduceCtorEq, Nat.reduceAdd, Nat.reduceSub, Nat.reduceMul, Nat.reduceEqDiff, Nat.reduceLT, Nat.reduceLeDiff, Nat.reduceMod, Nat.reduceDiv, Int.reduceLE, Int.reduceLT, Int.reduceEq, Int.reduceToNat, Int.reduceAdd, Int.reduceSub, Int.reduceMul, Int.reduceNeg, hb] <;> rfl)) ?_
 refine yF ?_
 refine yE (yB (yC (yJ (yD (yA rfl ?_)))))
 iterate 3 refine yF ?_
 iterate 4 refine wG ?_
 iterate 2 refine yF ?_
 refine yE (yB (yC (xD (yD (yA rfl ?_)))))
 iterate 6 refine yF ?_
 refine yE (yB (yC (yP (yH (yG ?_)))))
 refine ⟨.inr rfl, yQ [] (by rw [results89]) ?_ ?_ ?_⟩ <;> simp
theorem yDm (Γ : Gl) (hE : EG Γ) (p s : List UInt8) (hs : s.length ≤ 1000000) (W : Wr) (hg : got s = some W) (h4 : W.l.length ≠ 4) : Go.Ot.Good Γ prog 89 [.t (txt p), .t (txt s)] [] (.tup [.t (.v (.slice none 0 0)), .t (.ifc 181 (.agg [txt p, .ifc 179 (txt [115, 111, 109, 101, 116, 104, 105, 110, 103, 32, 101, 108, 115, 101])]))]) [] [] := by
 have hb := uY (s_ne hg)
 have h4' : ¬ ((W.l.length : Int) = 4) := by omega
 refine yR F.mix func89 (by rfl) ntmps89 ?_
 refine yD (yA rfl ?_)
 iterate 2 refine yF ?_
 refine yE (yB (yC (yD (yA rfl ?_))))
 refine yF ?_
 refine yU [] true ((by have h := qW Γ hE (s) (hs); rw [hg, Option.getD_some, Option.isSome_some] at h; exact h)) ?_
 iterate 6 refine yF ?_
 refine yE (yB (yC (yD (yI (yD (yA rfl ?_))))))
 refine yF ?_
 refine yF (hs := by (simp (disch := first | omega | (simp only [List.length_drop, List.length_take, List.length_map, List.length_append, List.length_cons, List.length_nil, List.length_replicate, List.length_set] <;> omega) | (simp only [push_cast] <;> omega) | fail) only [push_cast, reduceCtorEq, Nat.reduceAdd, Nat.reduceSub, Nat.reduceMul, Nat.reduceEqDiff, Nat.reduceLT, Nat.reduceLeDiff, Nat.reduceMod, Nat.reduceDiv, Int.reduceLE, Int.reduceLT, Int.reduceEq, Int.reduceToNat, Int.reduceAdd, Int.reduceSub, Int.reduceMul, Int.reduceNeg, hb] <;> rfl)) ?_
 refine yF ?_
 refine yE (yB (yC (yJ (yD (yA rfl ?_)))))
 iterate 3 refine yF ?_
 iterate 3 refine yX ?_
 refine yX (hs := by (simp (disch := first | omega | (simp only [List.length_drop, List.length_take, List.length_map, List.length_append, List.length_cons, List.length_nil, List.length_replicate, List.length_set] <;> omega) | (simp only [push_cast] <;> omega) | fail) only [push_cast, reduceCtorEq, Nat.reduceAdd, Nat.reduceSub, Nat.reduceMul, Nat.reduceEqDiff, Nat.reduceLT, Nat.reduceLeDiff, Nat.reduceMod, Nat.reduceDiv, Int.reduceLE, Int.reduceLT, Int.reduceEq, Int.reduceToNat, Int.reduceAdd, Int.reduceSub, Int.reduceMul, Int.reduceNeg, h4'] <;> rfl)) ?_
 iterate 2 refine yF ?_
 refine yE (yB (yC (xD (yD (yA rfl ?_)))))
 iterate 6 refine yF ?_
 refine yE (yB (yC (yP (yH (yG ?_)))))
 refine ⟨.inr rfl, yQ [] (by rw [results89]) ?_ ?_ ?_⟩ <;> simp
theorem yFy (Γ : Gl) (hE : EG Γ) (p s : List UInt8) (hs : s.length ≤ 1000000) (W : Wr) (hg : got s = some W) (h4 : W.l.length = 4) : Go.Ot.Good Γ prog 89 [.t (txt p), .t (txt s)] [] (.tup [wS W.l, .t (.v .nilIface)]) [] [] := by
 have hb := uY (s_ne hg)
 refine yR F.mix func89 (by rfl) ntmps89 ?_
 refine yD (yA rfl ?_)
 iterate 2 refine yF ?_
 refine yE (yB (yC (yD (yA rfl ?_))))
 refine yF ?_
 refine yU [] true ((by have h := qW Γ hE (s) (hs); rw [hg, Option.getD_some, Option.isSome_some] at h; exact h)) ?_
 iterate 6 refine yF ?_
 refine yE (yB (yC (yD (yI (yD (yA rfl ?_))))))
 refine yF ?_
 refine yF (hs := by (simp (disch := first | omega | (simp only [List.length_drop, List.length_take, List.length_map, List.length_append, List.length_cons, List.length_nil, List.length_replicate, List.length_set] <;> omega) | (simp only [push_cast] <;> omega) | fail) only [push_cast, reduceCtorEq, Nat.reduceAdd, Nat.reduceSub, Nat.reduceMul, Nat.reduceEqDiff, Nat.reduceLT, Nat.reduceLeDiff, Nat.reduceMod, Nat.reduceDiv, Int.reduceLE, Int.reduceLT, Int.reduceEq, Int.reduceToNat, Int.reduceAdd, Int.reduceSub, Int.reduceMul, Int.reduceNeg, hb] <;> rfl)) ?_
 refine yF ?_
 refine yE (yB (yC (yJ (yD (yA rfl ?_)))))
 iterate 3 refine yF ?_
 iterate 2 refine yX ?_
 refine yX (hs := by (simp (disch := first | omega | (simp only [List.length_drop, List.length_take, List.length_map, List.length_append, List.length_cons, List.length_nil, List.length_replicate, List.length_set] <;> omega) | (simp only [push_cast] <;> omega) | fail) only [push_cast, reduceCtorEq, Nat.reduceAdd, Nat.reduceSub, Nat.reduceMul, Nat.reduceEqDiff, Nat.reduceLT, Nat.reduceLeDiff, Nat.reduceMod, Nat.reduceDiv, Int.reduceLE, Int.reduceLT, Int.reduceEq, Int.reduceToNat, Int.reduceAdd, Int.reduceSub, Int.reduceMul, Int.reduceNeg, h4] <;> rfl)) ?_
 refine yX ?_
 iterate 2 refine yF ?_
 refine yE (yB (yC (yJ (yK (yS (yC (yD (yA rfl ?_))))))))
 iterate 4 refine yF ?_
 refine yE (yB (yC (yP ?_)))
 refine ⟨.inr rfl, yQ [] (by rw [results89]) ?_ ?_ ?_⟩ <;> simp [wS, h4]
theorem yBY (Γ : Gl) (q : Rq) : Go.Ot.Good Γ prog 91 [qA q] [] (.t (txt q.p)) [] [] := by
 refine yR F.mix func91 (by rfl) ntmps91 ?_
 refine yD (yA rfl ?_)
 iterate 2 refine yF ?_
 refine yE (yB (yC (yD (yA rfl ?_))))
 iterate 2 refine yW ?_
 refine yV [] false (uR Γ q.k) ?_
 iterate 2 refine yW ?_
 refine yV [] false (uR Γ q.d) ?_
 iterate 2 refine yW ?_
 refine yV [] false (uR Γ q.n) ?_
 iterate 2 refine yW ?_
 refine yV [] false (pQ Γ q.b) ?_
 refine yW ?_
 refine yV [.r 1 12 0] true (qB Γ [.mk 1 q.k [] [], .mk 1 q.d [] [], .mk 1 q.n [] [], .mk 2 0 q.b []] (by simp [Wr.szL, Wr.sz])) ?_
 refine yV [] false (dW Γ (rqW q.k q.d q.n q.b) (fun h => by have := yGU (q := q) h; exact Nat.le_trans this (by omega))) ?_
 refine yW ?_
 refine yE (xP (by kernel_rfl) (yC (yP ?_)))
 refine ⟨.inr rfl, yQ [] (by rw [results91]) ?_ ?_ ?_⟩ <;> simp [Rq.p, Rq.w]
theorem lD (Γ : Gl) (q : Rp) (hq : tsz q.l ≤ 10000000) (hl : q.l.length ≤ 900000) : Go.Ot.Good Γ prog 37 [pA q] [] (.t (txt q.p)) [] [] := by
 refine yR F.mix func37 (by rfl) ntmps37 ?_
 refine yD (yA rfl ?_)
 iterate 2 refine yF ?_
 refine yE (yB (yC (yD (yA rfl ?_))))
 refine yF ?_
 refine yE (yB (yC (yD (yD (yA rfl ?_)))))
 iterate 4 refine yF ?_
 refine yE (yB (yC (yI ?_)))
 refine xJ (fun sl L (i : Nat) => ⟨setAll (setBad sl [0, 5, 6, 10, 11, 12, 13, 14, 15, 16, 17, 18]) [(3, .msl (.n 9) 0 i 4), (9, .t (num i))], Go.Ot.look (vJ (.n 9) (lE (tA (q.l.take i))) L)⟩) (fun i => i ≤ q.l.length) (fun i => q.l.length - i) (0) (wF ?_) ?_ ?_
 ·refine wQ [(.r 0 0 0, .r 0 0 0)] ?_ ?_ ?_ <;> simp [Wr.cellsL_len, wA, Wr.k_mk, Wr.n_mk, Wr.s_mk, Wr.l_mk, Wr.cellsL, Wr.z_eq, lE, txtsW_nil]
 ·(first | omega | simp)
 ·intro i hi
  refine vL ?_
  refine yD (yA rfl ?_)
  refine yF ?_
  refine yE (yB (yC (yD ?_)))
  refine vM (fun hc0 => ?_) (fun hc0 => ?_)
  ·(try simp only [Bool.and_eq_true, Bool.or_eq_true, Bool.or_eq_false_iff, Bool.not_eq_true', Bool.not_eq_false', xH, xI, Bool.and_eq_false_imp, beq_iff_eq, beq_eq_false_iff_ne, ne_eq] at hc0)
   refine yK (yC (yD (yI (yD (yA rfl ?_)))))
   iterate 3 refine yF ?_
   refine yE (yB (yC (yA rfl ?_)))
   iterate 2 refine yF ?_
   refine yU [] false (pQ Γ (q.l.getD i [])) ?_
   iterate 3 refine yF ?_
   refine yE (yB (yS (yC (yA rfl ?_))))
   iterate 2 refine yF ?_
   refine yE (yB ?_)
   have hil : i < q.l.length := by omega
   refine xF (i + 1) (wF ?_) ?_ ?_
   ·refine wQ [(.r 0 0 0, .r 0 0 0), (.n 9, .n 9)] ?_ ?_ ?_ <;> simp [Wr.cellsL_len, wA, Wr.k_mk, Wr.n_mk, Wr.s_mk, Wr.l_mk, Wr.cellsL, Wr.z_eq, lE, gX hil, uX, wC]
   ·(first | omega | (simp_all <;> omega))
   ·(first | omega | (simp only []; omega))
  ·(try simp only [Bool.and_eq_true, Bool.or_eq_true, Bool.or_eq_false_iff, Bool.not_eq_true', Bool.not_eq_false', xH, xI, Bool.and_eq_false_imp, beq_iff_eq, beq_eq_false_iff_ne, ne_eq] at hc0)
   refine xQ (yM (yN (yL (yC (yD (yA rfl ?_))))))
   have hil : i = q.l.length := by omega
   subst hil
   iterate 2 refine yW ?_
   refine yV [] false (uR Γ q.k) ?_
   iterate 2 refine yW ?_
   refine yV [] false (uR Γ q.d) ?_
   iterate 2 refine yW ?_
   refine yV [] false (uR Γ q.n) ?_
   refine yW ?_
   refine yV [.n 9] true (qB Γ (tA q.l) (by rw [szL_txts]; omega)) ?_ (hv := by (simp (disch := first | omega | (simp only [List.length_drop, List.length_take, List.length_map, List.length_append, List.length_cons, List.length_nil, List.length_replicate, List.length_set] <;> omega) | fail) [-List.map_map, -List.map_drop, -List.map_take, VwL_cons, xN, xY, vU, xV, xW, xU, Vw_agg, xS, xX, xC, VwL_refl_map, xA, xL, xM, wK, xK, yZ, xE, yY, VwTs_app, List.take_of_length_le, srcL, notIn, ObsVw, SrcOk, pOk, Go.Ot.look, resP, resN, ev, evc, mkS, push_cast, List.take_of_length_le, fW, tP] <;> (try omega)))
   refine yW ?_
   refine yV [.r 7 11 0] true (qB Γ [.mk 1 q.k [] [], .mk 1 q.d [] [], .mk 1 q.n [] [], .mk 3 0 [] (tA q.l)] (by simp [Wr.szL, Wr.sz, szL_txts]; omega)) ?_
   refine yV [] false (dW Γ (rpW q.k q.d q.n q.l) (fun h => by have := yGV (q := q) h; exact Nat.le_trans this (by omega))) ?_
   refine yW ?_
   refine yE (xP (by kernel_rfl) (yC (yP ?_)))
   refine ⟨.inr rfl, yQ [] (by rw [results37]) ?_ ?_ ?_⟩ <;> simp [Rp.p, Rp.w]
theorem yGO (Γ : Gl) (hE : EG Γ) : Go.Ot.Good Γ prog 36 [.t (txt [])] [] (.tup [qA Rq.z, .t (bol false)]) [] [] := by
 refine yR F.mix func36 (by rfl) ntmps36 ?_
 refine yD (yA rfl ?_)
 iterate 2 refine yF ?_
 refine yE (yB (yC (yD (yA rfl ?_))))
 refine yF ?_
 refine yU [] false (yDn Γ hE [114, 101, 113, 117, 101, 115, 116]) ?_
 iterate 5 refine yF ?_
 refine yE (yB (yC (yD (yD (yA rfl ?_)))))
 refine yF ?_
 refine yU [] false (yI0 Γ [114, 101, 113, 117, 101, 115, 116]) ?_
 refine yE (yB (yC (xD (yD (yA rfl ?_)))))
 iterate 3 refine yF ?_
 refine yE (yB (yC (yP (yG ?_))))
 refine ⟨.inr rfl, yQ [] (by rw [results36]) ?_ ?_ ?_⟩ <;> simp [Rq.z, Rp.z, qA, pA]
theorem yJk (Γ : Gl) (hE : EG Γ) (s : List UInt8) (hs : s.length ≤ 1000000) (h0 : s ≠ []) (hg : got s = none) : Go.Ot.Good Γ prog 36 [.t (txt s)] [] (.tup [qA Rq.z, .t (bol false)]) [] [] := by
 refine yR F.mix func36 (by rfl) ntmps36 ?_
 refine yD (yA rfl ?_)
 iterate 2 refine yF ?_
 refine yE (yB (yC (yD (yA rfl ?_))))
 refine yF ?_
 refine yU [] false (yFz Γ hE [114, 101, 113, 117, 101, 115, 116] s hs h0 hg) ?_
 iterate 5 refine yF ?_
 refine yE (yB (yC (yD (yD (yA rfl ?_)))))
 refine yF ?_
 refine yU [] false (yBD Γ [114, 101, 113, 117, 101, 115, 116]) ?_
 refine yE (yB (yC (xD (yD (yA rfl ?_)))))
 iterate 3 refine yF ?_
 refine yE (yB (yC (yP (yG ?_))))
 refine ⟨.inr rfl, yQ [] (by rw [results36]) ?_ ?_ ?_⟩ <;> simp [Rq.z, Rp.z, qA, pA]
theorem yGN (Γ : Gl) (hE : EG Γ) (s : List UInt8) (hs : s.length ≤ 1000000) (W : Wr) (hg : got s = some W) (h4 : W.l.length ≠ 4) : Go.Ot.Good Γ prog 36 [.t (txt s)] [] (.tup [qA Rq.z, .t (bol false)]) [] [] := by
 refine yR F.mix func36 (by rfl) ntmps36 ?_
 refine yD (yA rfl ?_)
 iterate 2 refine yF ?_
 refine yE (yB (yC (yD (yA rfl ?_))))
 refine yF ?_
 refine yU [] false (yDm Γ hE [114, 101, 113, 117, 101, 115, 116] s hs W hg h4) ?_
 iterate 5 refine yF ?_
 refine yE (yB (yC (yD (yD (yA rfl ?_)))))
 refine yF ?_
 refine yU [] false (yBD Γ [114, 101, 113, 117, 101, 115, 116]) ?_
 refine yE (yB (yC (xD (yD (yA rfl ?_)))))
 iterate 3 refine yF ?_
 refine yE (yB (yC (yP (yG ?_))))
 refine ⟨.inr rfl, yQ [] (by rw [results36]) ?_ ?_ ?_⟩ <;> simp [Rq.z, Rp.z, qA, pA]
theorem yEM (Γ : Gl) (hE : EG Γ) (s : List UInt8) (hs : s.length ≤ 1000000) (W a b c d : Wr) (hg : got s = some W) (hl : W.l = [a, b, c, d]) : Go.Ot.Good Γ prog 36 [.t (txt s)] [] ((if (⟨a.n, b.n, c.n, d.s⟩ : Rq).p = s then .tup [qA (⟨a.n, b.n, c.n, d.s⟩ : Rq), .t (bol true)] else .tup [qA Rq.z, .t (bol false)])) [] [] := by
 refine yR F.mix func36 (by rfl) ntmps36 ?_
 refine yD (yA rfl ?_)
 iterate 2 refine yF ?_
 refine yE (yB (yC (yD (yA rfl ?_))))
 refine yF ?_
 refine yU [] true ((by have h := yFy Γ hE [114, 101, 113, 117, 101, 115, 116] s hs W hg (by rw [hl]; rfl); rw [hl] at h; exact h)) ?_
 iterate 5 refine yF ?_
 refine yE (yB (yC (yD (yD (yA rfl ?_)))))
 refine yF ?_
 refine yU [] false (yIZ Γ) ?_
 refine yE (yB (yC (yJ (yK (yC (yD (yA rfl ?_)))))))
 iterate 19 refine yW ?_
 refine yE (xP (by kernel_rfl) (yC (yD (yD (yA rfl ?_)))))
 refine yF ?_
 refine yU [] false (yBY Γ (⟨a.n, b.n, c.n, d.s⟩ : Rq)) ?_
 iterate 2 refine yF ?_
 refine yE (yB (yC ?_))
 refine vM (fun hc1 => ?_) (fun hc1 => ?_)
 ·(try simp only [Bool.and_eq_true, Bool.or_eq_true, Bool.or_eq_false_iff, Bool.not_eq_true', Bool.not_eq_false', xH, xI, Bool.and_eq_false_imp, beq_iff_eq, beq_eq_false_iff_ne, ne_eq] at hc1)
  have he : (⟨a.n, b.n, c.n, d.s⟩ : Rq).p ≠ s := by simpa using hc1
  refine yD (yA rfl ?_)
  iterate 3 refine yF ?_
  refine yE (yB (yC (yP (yG ?_))))
  refine ⟨.inr rfl, yQ [] (by rw [results36]) ?_ ?_ ?_⟩ <;> simp [Rq.z, qA, he]
 ·(try simp only [Bool.and_eq_true, Bool.or_eq_true, Bool.or_eq_false_iff, Bool.not_eq_true', Bool.not_eq_false', xH, xI, Bool.and_eq_false_imp, beq_iff_eq, beq_eq_false_iff_ne, ne_eq] at hc1)
  have he : (⟨a.n, b.n, c.n, d.s⟩ : Rq).p = s := by simpa using hc1
  refine yK (yC (yD (yA rfl ?_)))
  iterate 3 refine yF ?_
  refine yE (yB (yC (yP ?_)))
  refine ⟨.inr rfl, yQ [] (by rw [results36]) ?_ ?_ ?_⟩ <;> simp [Rq.z, qA, he]
def ansQ : Option Rq → D
 | some q => .tup [qA q, .t (bol true)]
 | none => .tup [qA Rq.z, .t (bol false)]
theorem gC (q : Rq) : ansQ (some q) = .tup [qA q, .t (bol true)] := rfl
theorem ansQ_none : ansQ none = .tup [qA Rq.z, .t (bol false)] := rfl
theorem gG (Γ : Gl) (hE : EG Γ) (s : List UInt8) (hs : s.length ≤ 1000000) : Go.Ot.Good Γ prog 36 [.t (txt s)] [] (ansQ (GQ s)) [] [] := by
 by_cases h0 : s = []
 ·subst h0; rw [GQ_no got_nil, ansQ_none]; exact yGO Γ hE
 ·cases hg : got s with
  | none => rw [GQ_no hg, ansQ_none]; exact yJk Γ hE s hs h0 hg
  | some W =>
   by_cases h4 : W.l.length = 4
   ·obtain ⟨a, b, c, d, hl⟩ := yIK h4
    have hp := (yDp hl).1
    have h := yEM Γ hE s hs W a b c d hg hl
    by_cases he : (qOf W).p = s
    ·rw [GQ_y hg he, gC]; rw [hp] at he ⊢; rw [if_pos he] at h; exact h
    ·rw [GQ_n hg he, ansQ_none]; rw [hp] at he; rw [if_neg he] at h; exact h
   ·rw [GQ_no4 hg h4, ansQ_none]; exact yGN Γ hE s hs W hg h4
end Go.Proofs.Tryz
