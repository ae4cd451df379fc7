/- Contracts of this program's functions. -/
import Derived.Test.YtkbikblijipceaaGreatDoorSME1
import Derived.Test.YtkbikblijipceaaGreatDoorOtE
import Derived.Test.YtkbikblijipceaaGreatDoorOtD
import Derived.Test.YtkbikblijipceaaGreatDoorSME5
set_option maxHeartbeats 4000000
set_option maxRecDepth 100000
set_option linter.unusedVariables false
set_option linter.unusedSimpArgs false
namespace Go.Proofs.Tryz
open Go Go.Ot
attribute [local simp] num bol txt w8 w16 w32 w64 lst cls xZ xR List.take_of_length_le
attribute [local irreducible] wpK wpS uE wH wV wN wZ xD Le
theorem fC (Γ : Gl) (p : Int) (v : Value) (h1 : v.oneCell' = true) : Go.Ot.Good Γ prog 235 [.agg [.t (.v (.int .i64 p)), .t (.v v)]] [] (.t (.v v)) [] [] := by
 refine yR F.mix func235 (by rfl) ntmps235 ?_
 refine yD (yA rfl ?_)
 refine yF (hs := by (simp only [push_cast, h1] <;> rfl)) ?_
 refine yF ?_
 refine yE (yB (yC (yD (yA rfl ?_))))
 iterate 3 refine yF ?_
 refine yE (yB (yC (yO ?_)))
 refine ⟨.inr rfl, yP [] (by rw [results235]) ?_ ?_ ?_⟩ <;> simp [h1]
theorem aH (v : Value) (xT : TypeId) (w : World) : (Instr.typeAssert (.iface 232 v) xT 237 true).run prog w = .ok (.tuple #[.nilIface, .bool false]) w := run_typeAssert_lacksB underlying237 (by kernel_rfl) (by kernel_rfl) v xT w
theorem aI (v : Value) (xT : TypeId) (w : World) : (Instr.typeAssert (.iface 209 v) xT 237 true).run prog w = .ok (.tuple #[.nilIface, .bool false]) w := run_typeAssert_lacksB underlying237 (by kernel_rfl) (by kernel_rfl) v xT w
theorem aK (v : Value) (xT : TypeId) (w : World) : (Instr.typeAssert (.iface 209 v) xT 196 true).run prog w = .ok (.tuple #[.nilIface, .bool false]) w := run_typeAssert_lacksB underlying196 (by kernel_rfl) (by kernel_rfl) v xT w
theorem aJ (v : Value) (xT : TypeId) (w : World) : (Instr.typeAssert (.iface 209 v) xT 198 true).run prog w = .ok (.tuple #[.nilIface, .bool false]) w := run_typeAssert_lacksB underlying198 (by kernel_rfl) (by kernel_rfl) v xT w
theorem aM (v : Value) (xT : TypeId) (w : World) : (Instr.typeAssert (.iface 232 v) xT 196 true).run prog w = .ok (.tuple #[.iface 232 v, .bool true]) w := run_typeAssert_hasB underlying196 (by kernel_rfl) v xT w
theorem aL (Γ : Gl) (p : Int) (s s' : List UInt8) (b : Bool) (hb : ∀ w, (binOp .eql 81 (.iface 209 (.string (S s))) (.iface 209 (.string (S s')))).run prog w = .ok (.bool b) w) : Go.Ot.Good Γ prog 155 [.t (.ifc 232 (.agg [num p, .ifc 209 (txt s)])), .t (.ifc 209 (txt s')), .t (bol true)] [] (.t (bol b)) [] [] := by
 refine yR F.mix func155 (by rfl) ntmps155 ?_
 refine yD (yA rfl ?_)
 refine yF ?_
 refine yE (yB (yC (yH ?_)))
 refine xN (fun sl L (q : Bool) => ⟨setAll (setBad sl [6, 7, 8, 9, 10, 12, 13, 14, 15, 16, 17, 18, 19, 20, 21, 22, 23, 24, 25, 26, 27, 28, 29, 30, 31, 32, 33, 34, 35, 36, 37, 38, 39, 40, 41, 42, 43, 44, 45, 46, 47, 48, 49, 50, 51, 52, 53]) [(0, if q = true then .t (.v (.iface 209 (.string (S s)))) else .t (.ifc 232 (.agg [num p, .ifc 209 (txt s)])))], Go.Ot.look (L)⟩) (fun q => True) (fun q => if q = true then 0 else 1) (false) (wF ?_) ?_ ?_
 ·refine yT ?_ ?_ ?_ <;> simp
 ·trivial
 ·intro q _
  cases q
  ·refine vE ?_
   refine yH (yD (yD (yA rfl ?_)))
   iterate 2 refine yF ?_
   first | refine xB ?_ | refine wJ ?_ | refine uP ?_
   first | refine xB ?_ | refine wJ ?_ | refine uP ?_
   refine yAg (.bool false) ?_
   refine yF ?_
   refine yE (yB (yC (yJ (yL (yC (yD (yD (yA rfl ?_))))))))
   refine yF ?_
   refine vW (.iface 232 (.agg #[.int .i64 p, .iface 209 (.string (S s))])) (.tuple #[.nilIface, .bool false]) ?_ (aH _ _)
   refine yF ?_
   refine wQ (.nilIface) ?_
   refine wQ (.bool false) ?_
   iterate 2 refine yF ?_
   refine yE (yB (yC (yD (yA rfl ?_))))
   iterate 2 refine yF ?_
   first | refine xB ?_ | refine wJ ?_ | refine uP ?_
   first | refine xB ?_ | refine wJ ?_ | refine uP ?_
   first | refine xB ?_ | refine wJ ?_ | refine uP ?_
   refine yF ?_
   refine yE (yB (yC (yJ (yL (yC (yD (yA rfl ?_)))))))
   refine yF ?_
   refine yE (yB (yC (yH (yD (yA rfl ?_)))))
   refine vW (.iface 232 (.agg #[.int .i64 p, .iface 209 (.string (S s))])) (.tuple #[.iface 232 (.agg #[.int .i64 p, .iface 209 (.string (S s))]), .bool true]) ?_ (aM _ _)
   refine wQ (.bool true) ?_
   refine wQ (.iface 232 (.agg #[.int .i64 p, .iface 209 (.string (S s))])) ?_
   refine yE (yB (yC (xF (yD (yA rfl ?_)))))
   refine yF ?_
   refine yE (yB (yC (yD (yA rfl ?_))))
   refine yF ?_
   refine kZ [] false (fC Γ p (.iface 209 (.string (S s))) rfl) ?_ (ty := 232) (v := .agg #[.int .i64 p, .iface 209 (.string (S s))]) (v' := .agg #[.int .i64 p, .iface 209 (.string (S s))]) (f := 235) rfl (by intro w; kernel_rfl)
   refine yF ?_
   refine yE (yB (yC (yD (yA rfl ?_))))
   refine yF ?_
   refine wQ (.bool false) ?_
   refine yE (yB (yC (yJ (yL ?_))))
   refine yS (yS (xE (true) (wF ?_) ?_ ?_))
   ·refine yT ?_ ?_ ?_ <;> simp
   ·trivial
   ·simp
  ·refine vE ?_
   refine yH (yD (yD (yA rfl ?_)))
   iterate 2 refine yF ?_
   first | refine xB ?_ | refine wJ ?_ | refine uP ?_
   first | refine xB ?_ | refine wJ ?_ | refine uP ?_
   refine yE5 (.bool b) ?_ hb
   refine yF ?_
   refine yE (yB (yC ?_))
   refine vL (fun hc0 => ?_) (fun hc0 => ?_)
   ·(try simp only [zB] at hc0)
    subst hc0
    refine yD (yA rfl ?_)
    refine yF ?_
    refine yE (yB (yC (yO (yG (yI (wI (yI ?_)))))))
    refine ⟨.inr rfl, yP [] (by rw [results155]) ?_ ?_ ?_⟩ <;> simp
   ·(try simp only [zB] at hc0)
    subst hc0
    refine yL (yC (yD (yD (yA rfl ?_))))
    refine yF ?_
    refine vW (.iface 209 (.string (S s))) (.tuple #[.nilIface, .bool false]) ?_ (aI _ _)
    refine yF ?_
    refine wQ (.nilIface) ?_
    refine wQ (.bool false) ?_
    iterate 2 refine yF ?_
    refine yE (yB (yC (yD (yA rfl ?_))))
    iterate 2 refine yF ?_
    first | refine xB ?_ | refine wJ ?_ | refine uP ?_
    first | refine xB ?_ | refine wJ ?_ | refine uP ?_
    first | refine xB ?_ | refine wJ ?_ | refine uP ?_
    refine yF ?_
    refine yE (yB (yC (yJ (yL (yC (yD (yA rfl ?_)))))))
    refine yF ?_
    refine yE (yB (yC (yH (yD (yA rfl ?_)))))
    refine vW (.iface 209 (.string (S s))) (.tuple #[.nilIface, .bool false]) ?_ (aK _ _)
    refine wQ (.bool false) ?_
    refine wQ (.nilIface) ?_
    refine yE (yB (yC (yJ (yD (yA rfl ?_)))))
    refine vW (.iface 209 (.string (S s))) (.tuple #[.nilIface, .bool false]) ?_ (aJ _ _)
    refine wQ (.bool false) ?_
    refine wQ (.nilIface) ?_
    refine yE (yB (yC (yJ (yD (yA rfl ?_)))))
    refine yF ?_
    refine yE (yB (yC (yD (yA rfl ?_))))
    refine yF ?_
    refine yE (yB (yC (yO (yI (yI (wI (yI ?_)))))))
    refine ⟨.inr rfl, yP [] (by rw [results155]) ?_ ?_ ?_⟩ <;> simp
theorem yDZ (v : Value) (w : World) : (callFunc 131 #[.iface 209 v]).run prog w = .ok (.value (.iface 188 (.agg #[.pointer (some ⟨2, 209, none⟩)]))) w := by
 rw [run_callFunc_extern func131 (by kernel_rfl) (by kernel_rfl) (by kernel_rfl) (e := Extern.ReflectliteType.typeOf) (by kernel_rfl)]
 kernel_rfl
theorem yDY (w : World) : (callFunc 222 #[.agg #[.pointer (some ⟨2, 209, none⟩)]]).run prog w = .ok (.value (.bool true)) w := by
 rw [run_callFunc_extern func222 (by kernel_rfl) (by kernel_rfl) (by kernel_rfl) (e := Extern.ReflectliteType.method (fun t => do Extern.Rtype.noPackHeld "Comparable" t; pure (.bool (← typeInfo t).comparable))) (by kernel_rfl)]
 kernel_rfl
theorem tK (Γ : Gl) (p : Int) (s s' : List UInt8) (b : Bool) (hb : ∀ w, (binOp .eql 81 (.iface 209 (.string (S s))) (.iface 209 (.string (S s')))).run prog w = .ok (.bool b) w) : Go.Ot.Good Γ prog 125 [.t (.ifc 232 (.agg [num p, .ifc 209 (txt s)])), .t (.ifc 209 (txt s'))] [] (.t (bol b)) [] [] := by
 refine yR F.mix func125 (by rfl) ntmps125 ?_
 refine yD (yA rfl ?_)
 refine yF ?_
 refine yE (yB (yC (yD (yD (yA rfl ?_)))))
 refine yF ?_
 refine tF false ?_
 refine yF ?_
 first | refine xB ?_ | refine wJ ?_ | refine uP ?_
 refine gN false ?_
 refine yF ?_
 refine yE (yB (yC (yJ (yL (yC (yD (yA rfl ?_)))))))
 refine yF ?_
 refine yC1 #[.iface 209 (.string (S s'))] (.iface 188 (.agg #[.pointer (some ⟨2, 209, none⟩)])) ?_ (yDZ _)
 refine kH (.bool true) (ty := 188) (v := .agg #[.pointer (some ⟨2, 209, none⟩)]) (v' := .agg #[.pointer (some ⟨2, 209, none⟩)]) (f := 222) ?_ (by intro w; kernel_rfl) yDY
 refine yF ?_
 refine yE (yB (yC (yD (yA rfl ?_))))
 iterate 3 refine yF ?_
 refine yU [] false (aL Γ p s s' b hb) ?_
 refine yF ?_
 refine yE (yB (yC (yO ?_)))
 refine ⟨.inr rfl, yP [] (by rw [results125]) ?_ ?_ ?_⟩ <;> simp
theorem qQ (Γ : Gl) (s' : List UInt8) : Go.Ot.Good Γ prog 125 [.t (.v .nilIface), .t (.ifc 209 (txt s'))] [] (.t (bol false)) [] [] := by
 refine yR F.mix func125 (by rfl) ntmps125 ?_
 refine yD (yA rfl ?_)
 refine yF ?_
 refine yE (yB (yC (yD (yD (yA rfl ?_)))))
 refine yF ?_
 refine vP false ?_
 refine yF ?_
 iterate 2 refine wJ ?_
 refine yF ?_
 refine yE (yB (yC (xF (yD (yA rfl ?_)))))
 iterate 2 refine yF ?_
 refine wQ (.bool false) ?_
 refine yF ?_
 refine yE (yB (yC (yO (yG ?_))))
 refine ⟨.inr rfl, yP [] (by rw [results125]) ?_ ?_ ?_⟩ <;> simp
theorem yGh (w : World) : (binOp .eql 81 (.iface 209 (.string (S [110, 111, 32, 114, 101, 99, 111, 114, 100]))) (.iface 209 (.string (S [110, 111, 32, 114, 101, 99, 111, 114, 100])))).run prog w = .ok (.bool true) w := by kernel_rfl
theorem yGg (w : World) : (binOp .eql 81 (.iface 209 (.string (S [97, 110, 111, 116, 104, 101, 114, 32, 114, 101, 99, 111, 114, 100, 32, 97, 104, 101, 97, 100]))) (.iface 209 (.string (S [110, 111, 32, 114, 101, 99, 111, 114, 100])))).run prog w = .ok (.bool false) w := by kernel_rfl
theorem yGf (w : World) : (binOp .eql 81 (.iface 209 (.string (S [97, 110, 111, 116, 104, 101, 114, 32, 114, 101, 99, 111, 114, 100, 32, 97, 104, 101, 97, 100]))) (.iface 209 (.string (S [97, 110, 111, 116, 104, 101, 114, 32, 114, 101, 99, 111, 114, 100, 32, 97, 104, 101, 97, 100])))).run prog w = .ok (.bool true) w := by kernel_rfl
theorem yGe (w : World) : (binOp .eql 81 (.iface 209 (.string (S [97, 32, 109, 101, 109, 98, 101, 114, 32, 116, 104, 97, 116, 32, 105, 115, 32, 110, 111, 110, 101, 44, 32, 111, 114, 32, 110, 111, 110, 101, 32, 116, 104, 97, 116, 32, 105, 115, 32, 111, 110, 101]))) (.iface 209 (.string (S [110, 111, 32, 114, 101, 99, 111, 114, 100])))).run prog w = .ok (.bool false) w := by kernel_rfl
theorem yGd (w : World) : (binOp .eql 81 (.iface 209 (.string (S [97, 32, 109, 101, 109, 98, 101, 114, 32, 116, 104, 97, 116, 32, 105, 115, 32, 110, 111, 110, 101, 44, 32, 111, 114, 32, 110, 111, 110, 101, 32, 116, 104, 97, 116, 32, 105, 115, 32, 111, 110, 101]))) (.iface 209 (.string (S [97, 110, 111, 116, 104, 101, 114, 32, 114, 101, 99, 111, 114, 100, 32, 97, 104, 101, 97, 100])))).run prog w = .ok (.bool false) w := by kernel_rfl
theorem yGc (w : World) : (binOp .eql 81 (.iface 209 (.string (S [97, 32, 109, 101, 109, 98, 101, 114, 32, 116, 104, 97, 116, 32, 105, 115, 32, 110, 111, 110, 101, 44, 32, 111, 114, 32, 110, 111, 110, 101, 32, 116, 104, 97, 116, 32, 105, 115, 32, 111, 110, 101]))) (.iface 209 (.string (S [97, 32, 109, 101, 109, 98, 101, 114, 32, 116, 104, 97, 116, 32, 105, 115, 32, 110, 111, 110, 101, 44, 32, 111, 114, 32, 110, 111, 110, 101, 32, 116, 104, 97, 116, 32, 105, 115, 32, 111, 110, 101])))).run prog w = .ok (.bool true) w := by kernel_rfl
end Go.Proofs.Tryz

namespace Go.Proofs.Tryz
open Go Go.Ot
attribute [local simp] num bol txt w8 w16 w32 w64 lst cls xZ xR List.take_of_length_le
attribute [local irreducible] wpK wpS uE wH wV wN wZ xD Le rcF hsh inF chC mwB lkT
theorem chd_0 (Γ : Gl) (log : List Rc) (l : List Int) (i : Nat) (hz : i = 0) (hi : i < log.length) (hln : l.length ≤ 1000000) (hl : log.length ≤ 1000000) (hw : ∀ j, (log.getD j default).wraps.length ≤ 9223372036854775807)  : Go.Ot.Good Γ prog 142 [.t (.sl log.length (log.flatMap rcT)), .t (num i), .t (lst num l)] [] (.t (lkT i (chC log l i))) [] [] := by
 have hpv : vG log i = [] := by rw [hz]; rfl
 refine yR F.mix func142 (by rfl) ntmps142 ?_
 refine yD (yA rfl ?_)
 refine yF ?_
 refine yE (yB (yC (yD (yA rfl ?_))))
 iterate 4 refine yF ?_
 obtain ⟨r, hr⟩ : ∃ r, log.getD i default = r := ⟨_, rfl⟩
 simp only [hr]
 have hwr := hw i
 rw [hr] at hwr
 iterate 2 refine yF ?_
 refine yE (yB (yC (yD (yA rfl ?_))))
 refine yF ?_
 refine yE (yB (yC (yD (yD (yA rfl ?_)))))
 iterate 2 refine yF ?_
 refine yE (yB (yC (yJ (yL (yC (yD (yA rfl ?_)))))))
 iterate 3 refine yF ?_
 refine yU [] false (yBX Γ l r.dev hln) ?_
 refine yF ?_
 refine yE (yB (yC (yD (yH (yD (yA rfl ?_))))))
 rcases Classical.em (¬ rcP r) with hp | hp
 rotate_left 1
 have hp := Classical.not_not.1 hp
 rotate_left 1
 ·have hq := yGV (l := l) hr hp
  refine yF ?_
  refine yU [] false ((by have h := sO Γ r hwr; rw [gZ hp] at h; exact h)) ?_
  iterate 2 refine yF ?_
  refine yE (yB (yC (xF (yD (yA rfl ?_)))))
  iterate 5 refine yF ?_
  refine yE (yB (yC (yO (yI (yG ?_)))))
  refine ⟨.inr rfl, yP [] (by rw [results142]) ?_ ?_ ?_⟩ <;> simp [rcT, wpT, hq, sD, sC, sB, sA]
 ·skip
  refine yF ?_
  refine yU [] false ((by have h := sO Γ r hwr; rw [yFV hp] at h; exact h)) ?_
  iterate 2 refine yF ?_
  refine yE (yB (yC (yJ (yD (yA rfl ?_)))))
  have hkd : r.kind = 1 ∨ r.kind = 2 := hp.2.2.2.1
  have h8 : (¬ r.seq = ((i : Int) + 1)) ∨ (r.seq = ((i : Int) + 1) ∧ (r.prev == []) = false) ∨ (r.seq = ((i : Int) + 1) ∧ (r.prev == []) = true ∧ ((r.kind = 1 ∧ r.dev = 0 ∧ l.contains r.dev = true) ∨ (r.kind = 1 ∧ r.dev = 0 ∧ l.contains r.dev = false) ∨ (r.kind = 1 ∧ ¬ r.dev = 0 ∧ l.contains r.dev = true) ∨ (r.kind = 1 ∧ ¬ r.dev = 0 ∧ l.contains r.dev = false) ∨ (r.kind = 2 ∧ r.dev = 0 ∧ l.contains r.dev = true) ∨ (r.kind = 2 ∧ r.dev = 0 ∧ l.contains r.dev = false) ∨ (r.kind = 2 ∧ ¬ r.dev = 0 ∧ l.contains r.dev = true) ∨ (r.kind = 2 ∧ ¬ r.dev = 0 ∧ l.contains r.dev = false))) := by
   by_cases hs : r.seq = ((i : Int) + 1)
   ·rcases hv : (r.prev == []) with _ | _
    ·exact .inr (.inl ⟨hs, rfl⟩)
    ·refine .inr (.inr ⟨hs, rfl, ?_⟩)
     rcases hkd with h1 | h1
     ·by_cases h2 : r.dev = 0
      ·rcases h3 : l.contains r.dev with _ | _
       ·exact .inr (.inl (⟨h1, h2, rfl⟩))
       ·exact .inl (⟨h1, h2, rfl⟩)
      ·rcases h3 : l.contains r.dev with _ | _
       ·exact .inr (.inr (.inr (.inl (⟨h1, h2, rfl⟩))))
       ·exact .inr (.inr (.inl (⟨h1, h2, rfl⟩)))
     ·by_cases h2 : r.dev = 0
      ·rcases h3 : l.contains r.dev with _ | _
       ·exact .inr (.inr (.inr (.inr (.inr (.inl (⟨h1, h2, rfl⟩))))))
       ·exact .inr (.inr (.inr (.inr (.inl (⟨h1, h2, rfl⟩)))))
      ·rcases h3 : l.contains r.dev with _ | _
       ·exact .inr (.inr (.inr (.inr (.inr (.inr (.inr (⟨h1, h2, rfl⟩)))))))
       ·exact .inr (.inr (.inr (.inr (.inr (.inr (.inl (⟨h1, h2, rfl⟩)))))))
   ·exact .inl hs
  rcases h8 with hs | ⟨hs, hv⟩ | ⟨hs, hv, ⟨q1, q2, q3⟩ | ⟨q1, q2, q3⟩ | ⟨q1, q2, q3⟩ | ⟨q1, q2, q3⟩ | ⟨q1, q2, q3⟩ | ⟨q1, q2, q3⟩ | ⟨q1, q2, q3⟩ | ⟨q1, q2, q3⟩⟩
  ·have hq := yCS (l := l) hr hp (fun h => hs h.1)
   iterate 4 refine yF ?_
   refine yF (hs := by (simp (disch := omega) only [push_cast, reduceCtorEq, hs] <;> rfl)) ?_
   refine yF ?_
   iterate 4 refine wJ ?_
   iterate 2 refine yF ?_
   refine yE (yB (yC (xF (yD (yA rfl ?_)))))
   iterate 5 refine yF ?_
   refine yE (yB (yC (yO (yI (yG ?_)))))
   refine ⟨.inr rfl, yP [] (by rw [results142]) ?_ ?_ ?_⟩ <;> simp [rcT, wpT, hq, sD, sC, sB, sA]
  ·have hv' : ¬ r.prev = [] := fun e => by rw [e] at hv; simp at hv
   have hq := yCS (l := l) hr hp (fun h => hv' (by rw [← hpv]; exact h.2))
   iterate 4 refine yF ?_
   refine yF (hs := by (simp (disch := omega) only [push_cast, reduceCtorEq, hs] <;> rfl)) ?_
   refine yF ?_
   iterate 3 refine xB ?_
   refine xB (hs := by (simp (disch := omega) only [push_cast, reduceCtorEq, hv] <;> rfl)) ?_
   iterate 2 refine yF ?_
   refine yE (yB (yC (xF (yD (yA rfl ?_)))))
   iterate 5 refine yF ?_
   refine yE (yB (yC (yO (yI (yG ?_)))))
   refine ⟨.inr rfl, yP [] (by rw [results142]) ?_ ?_ ?_⟩ <;> simp [rcT, wpT, hq, sD, sC, sB, sA]
  ·have hq := mY (l := l) hr hp ⟨hs, by rw [hpv]; simpa using hv⟩ (by refine .inr (.inr ?_); rw [q3, q1]; decide)
   iterate 4 refine yF ?_
   refine yF (hs := by (simp (disch := omega) only [push_cast, reduceCtorEq, hs] <;> rfl)) ?_
   refine yF ?_
   iterate 3 refine xB ?_
   refine xB (hs := by (simp (disch := omega) only [push_cast, reduceCtorEq, hv] <;> rfl)) ?_
   iterate 2 refine yF ?_
   refine yE (yB (yC (yJ (yD (yA rfl ?_)))))
   iterate 3 refine yF ?_
   iterate 2 refine xB ?_
   refine xB (hs := by (simp (disch := omega) only [push_cast, reduceCtorEq, q1] <;> rfl)) ?_
   iterate 3 refine xB ?_
   refine xB (hs := by (simp (disch := omega) only [push_cast, reduceCtorEq, q2] <;> rfl)) ?_
   refine xB ?_
   iterate 2 refine yF ?_
   iterate 2 refine xB ?_
   refine xB (hs := by (simp (disch := omega) only [push_cast, reduceCtorEq, q1] <;> rfl)) ?_
   refine xB ?_
   iterate 3 refine wJ ?_
   refine xB ?_
   iterate 2 refine yF ?_
   iterate 3 refine xB ?_
   refine xB (hs := by (simp (disch := omega) only [push_cast, reduceCtorEq, q1] <;> rfl)) ?_
   refine xB (hs := by (simp (disch := omega) only [push_cast, reduceCtorEq, q3] <;> rfl)) ?_
   iterate 2 refine yF ?_
   refine yE (yB (yC (xF (yD (yA rfl ?_)))))
   iterate 5 refine yF ?_
   refine yE (yB (yC (yO (yI (yG ?_)))))
   refine ⟨.inr rfl, yP [] (by rw [results142]) ?_ ?_ ?_⟩ <;> simp [rcT, wpT, hq, sD, sC, sB, sA]
  ·have hq := yCT (l := l) hr hp ⟨hs, by rw [hpv]; simpa using hv⟩ (by rintro (⟨h, h'⟩ | ⟨h, h'⟩ | h) <;> first | omega | (rw [q3, q1] at h; exact h (by decide)))
   iterate 4 refine yF ?_
   refine yF (hs := by (simp (disch := omega) only [push_cast, reduceCtorEq, hs] <;> rfl)) ?_
   refine yF ?_
   iterate 3 refine xB ?_
   refine xB (hs := by (simp (disch := omega) only [push_cast, reduceCtorEq, hv] <;> rfl)) ?_
   iterate 2 refine yF ?_
   refine yE (yB (yC (yJ (yD (yA rfl ?_)))))
   iterate 3 refine yF ?_
   iterate 2 refine xB ?_
   refine xB (hs := by (simp (disch := omega) only [push_cast, reduceCtorEq, q1] <;> rfl)) ?_
   iterate 3 refine xB ?_
   refine xB (hs := by (simp (disch := omega) only [push_cast, reduceCtorEq, q2] <;> rfl)) ?_
   refine xB ?_
   iterate 2 refine yF ?_
   iterate 2 refine xB ?_
   refine xB (hs := by (simp (disch := omega) only [push_cast, reduceCtorEq, q1] <;> rfl)) ?_
   refine xB ?_
   iterate 3 refine wJ ?_
   refine xB ?_
   iterate 2 refine yF ?_
   iterate 3 refine xB ?_
   refine xB (hs := by (simp (disch := omega) only [push_cast, reduceCtorEq, q1] <;> rfl)) ?_
   refine xB (hs := by (simp (disch := omega) only [push_cast, reduceCtorEq, q3] <;> rfl)) ?_
   iterate 2 refine yF ?_
   refine yE (yB (yC (yJ (yL (yS (yC (yD (yA rfl ?_))))))))
   refine yF ?_
   refine yE (yB (yC (yO ?_)))
   refine ⟨.inr rfl, yP [] (by rw [results142]) ?_ ?_ ?_⟩ <;> simp [rcT, wpT, hq, sD, sC, sB, sA]
  ·have hq := mY (l := l) hr hp ⟨hs, by rw [hpv]; simpa using hv⟩ (by exact .inl ⟨hz, .inr (by omega)⟩)
   have q2' : ¬ r.dev = 0 := q2
   iterate 4 refine yF ?_
   refine yF (hs := by (simp (disch := omega) only [push_cast, reduceCtorEq, hs] <;> rfl)) ?_
   refine yF ?_
   iterate 3 refine xB ?_
   refine xB (hs := by (simp (disch := omega) only [push_cast, reduceCtorEq, hv] <;> rfl)) ?_
   iterate 2 refine yF ?_
   refine yE (yB (yC (yJ (yD (yA rfl ?_)))))
   iterate 3 refine yF ?_
   iterate 2 refine xB ?_
   refine xB (hs := by (simp (disch := omega) only [push_cast, reduceCtorEq, q1] <;> rfl)) ?_
   iterate 3 refine xB ?_
   refine xB (hs := by (simp (disch := omega) only [push_cast, reduceCtorEq, q2'] <;> rfl)) ?_
   refine xB ?_
   iterate 2 refine yF ?_
   iterate 8 refine wJ ?_
   iterate 2 refine yF ?_
   iterate 5 refine wJ ?_
   iterate 2 refine yF ?_
   refine yE (yB (yC (xF (yD (yA rfl ?_)))))
   iterate 5 refine yF ?_
   refine yE (yB (yC (yO (yI (yG ?_)))))
   refine ⟨.inr rfl, yP [] (by rw [results142]) ?_ ?_ ?_⟩ <;> simp [rcT, wpT, hq, sD, sC, sB, sA]
  ·have hq := mY (l := l) hr hp ⟨hs, by rw [hpv]; simpa using hv⟩ (by exact .inl ⟨hz, .inr (by omega)⟩)
   have q2' : ¬ r.dev = 0 := q2
   iterate 4 refine yF ?_
   refine yF (hs := by (simp (disch := omega) only [push_cast, reduceCtorEq, hs] <;> rfl)) ?_
   refine yF ?_
   iterate 3 refine xB ?_
   refine xB (hs := by (simp (disch := omega) only [push_cast, reduceCtorEq, hv] <;> rfl)) ?_
   iterate 2 refine yF ?_
   refine yE (yB (yC (yJ (yD (yA rfl ?_)))))
   iterate 3 refine yF ?_
   iterate 2 refine xB ?_
   refine xB (hs := by (simp (disch := omega) only [push_cast, reduceCtorEq, q1] <;> rfl)) ?_
   iterate 3 refine xB ?_
   refine xB (hs := by (simp (disch := omega) only [push_cast, reduceCtorEq, q2'] <;> rfl)) ?_
   refine xB ?_
   iterate 2 refine yF ?_
   iterate 8 refine wJ ?_
   iterate 2 refine yF ?_
   iterate 5 refine wJ ?_
   iterate 2 refine yF ?_
   refine yE (yB (yC (xF (yD (yA rfl ?_)))))
   iterate 5 refine yF ?_
   refine yE (yB (yC (yO (yI (yG ?_)))))
   refine ⟨.inr rfl, yP [] (by rw [results142]) ?_ ?_ ?_⟩ <;> simp [rcT, wpT, hq, sD, sC, sB, sA]
  ·have hq := mY (l := l) hr hp ⟨hs, by rw [hpv]; simpa using hv⟩ (by exact .inl ⟨hz, .inl (by omega)⟩)
   iterate 4 refine yF ?_
   refine yF (hs := by (simp (disch := omega) only [push_cast, reduceCtorEq, hs] <;> rfl)) ?_
   refine yF ?_
   iterate 3 refine xB ?_
   refine xB (hs := by (simp (disch := omega) only [push_cast, reduceCtorEq, hv] <;> rfl)) ?_
   iterate 2 refine yF ?_
   refine yE (yB (yC (yJ (yD (yA rfl ?_)))))
   iterate 3 refine yF ?_
   iterate 2 refine xB ?_
   refine xB (hs := by (simp (disch := omega) only [push_cast, reduceCtorEq, q1] <;> rfl)) ?_
   refine xB ?_
   iterate 3 refine wJ ?_
   refine xB ?_
   iterate 2 refine yF ?_
   iterate 8 refine wJ ?_
   iterate 2 refine yF ?_
   iterate 5 refine wJ ?_
   iterate 2 refine yF ?_
   refine yE (yB (yC (xF (yD (yA rfl ?_)))))
   iterate 5 refine yF ?_
   refine yE (yB (yC (yO (yI (yG ?_)))))
   refine ⟨.inr rfl, yP [] (by rw [results142]) ?_ ?_ ?_⟩ <;> simp [rcT, wpT, hq, sD, sC, sB, sA]
  ·have hq := mY (l := l) hr hp ⟨hs, by rw [hpv]; simpa using hv⟩ (by exact .inl ⟨hz, .inl (by omega)⟩)
   iterate 4 refine yF ?_
   refine yF (hs := by (simp (disch := omega) only [push_cast, reduceCtorEq, hs] <;> rfl)) ?_
   refine yF ?_
   iterate 3 refine xB ?_
   refine xB (hs := by (simp (disch := omega) only [push_cast, reduceCtorEq, hv] <;> rfl)) ?_
   iterate 2 refine yF ?_
   refine yE (yB (yC (yJ (yD (yA rfl ?_)))))
   iterate 3 refine yF ?_
   iterate 2 refine xB ?_
   refine xB (hs := by (simp (disch := omega) only [push_cast, reduceCtorEq, q1] <;> rfl)) ?_
   refine xB ?_
   iterate 3 refine wJ ?_
   refine xB ?_
   iterate 2 refine yF ?_
   iterate 8 refine wJ ?_
   iterate 2 refine yF ?_
   iterate 5 refine wJ ?_
   iterate 2 refine yF ?_
   refine yE (yB (yC (xF (yD (yA rfl ?_)))))
   iterate 5 refine yF ?_
   refine yE (yB (yC (yO (yI (yG ?_)))))
   refine ⟨.inr rfl, yP [] (by rw [results142]) ?_ ?_ ?_⟩ <;> simp [rcT, wpT, hq, sD, sC, sB, sA]
  ·have hq := mY (l := l) hr hp ⟨hs, by rw [hpv]; simpa using hv⟩ (by exact .inl ⟨hz, .inl (by omega)⟩)
   have q2' : ¬ r.dev = 0 := q2
   iterate 4 refine yF ?_
   refine yF (hs := by (simp (disch := omega) only [push_cast, reduceCtorEq, hs] <;> rfl)) ?_
   refine yF ?_
   iterate 3 refine xB ?_
   refine xB (hs := by (simp (disch := omega) only [push_cast, reduceCtorEq, hv] <;> rfl)) ?_
   iterate 2 refine yF ?_
   refine yE (yB (yC (yJ (yD (yA rfl ?_)))))
   iterate 3 refine yF ?_
   iterate 2 refine xB ?_
   refine xB (hs := by (simp (disch := omega) only [push_cast, reduceCtorEq, q1] <;> rfl)) ?_
   refine xB ?_
   iterate 3 refine wJ ?_
   refine xB ?_
   iterate 2 refine yF ?_
   iterate 8 refine wJ ?_
   iterate 2 refine yF ?_
   iterate 5 refine wJ ?_
   iterate 2 refine yF ?_
   refine yE (yB (yC (xF (yD (yA rfl ?_)))))
   iterate 5 refine yF ?_
   refine yE (yB (yC (yO (yI (yG ?_)))))
   refine ⟨.inr rfl, yP [] (by rw [results142]) ?_ ?_ ?_⟩ <;> simp [rcT, wpT, hq, sD, sC, sB, sA]
  ·have hq := mY (l := l) hr hp ⟨hs, by rw [hpv]; simpa using hv⟩ (by exact .inl ⟨hz, .inl (by omega)⟩)
   have q2' : ¬ r.dev = 0 := q2
   iterate 4 refine yF ?_
   refine yF (hs := by (simp (disch := omega) only [push_cast, reduceCtorEq, hs] <;> rfl)) ?_
   refine yF ?_
   iterate 3 refine xB ?_
   refine xB (hs := by (simp (disch := omega) only [push_cast, reduceCtorEq, hv] <;> rfl)) ?_
   iterate 2 refine yF ?_
   refine yE (yB (yC (yJ (yD (yA rfl ?_)))))
   iterate 3 refine yF ?_
   iterate 2 refine xB ?_
   refine xB (hs := by (simp (disch := omega) only [push_cast, reduceCtorEq, q1] <;> rfl)) ?_
   refine xB ?_
   iterate 3 refine wJ ?_
   refine xB ?_
   iterate 2 refine yF ?_
   iterate 8 refine wJ ?_
   iterate 2 refine yF ?_
   iterate 5 refine wJ ?_
   iterate 2 refine yF ?_
   refine yE (yB (yC (xF (yD (yA rfl ?_)))))
   iterate 5 refine yF ?_
   refine yE (yB (yC (yO (yI (yG ?_)))))
   refine ⟨.inr rfl, yP [] (by rw [results142]) ?_ ?_ ?_⟩ <;> simp [rcT, wpT, hq, sD, sC, sB, sA]
theorem chd_s (Γ : Gl) (log : List Rc) (l : List Int) (i : Nat) (hz : i ≠ 0) (hi : i < log.length) (hln : l.length ≤ 1000000) (hl : log.length ≤ 1000000) (hw : ∀ j, (log.getD j default).wraps.length ≤ 9223372036854775807)  : Go.Ot.Good Γ prog 142 [.t (.sl log.length (log.flatMap rcT)), .t (num i), .t (lst num l)] [] (.t (lkT i (chC log l i))) [] [] := by
 obtain ⟨k, hk1, hk2⟩ : ∃ k : Nat, (i : Int) - 1 = (k : Int) ∧ k + 1 = i := ⟨i - 1, by omega, by omega⟩
 have hpv : vG log i = hsh (log.getD k default) := by rw [← hk2]; rfl
 refine yR F.mix func142 (by rfl) ntmps142 ?_
 refine yD (yA rfl ?_)
 refine yF ?_
 refine yE (yB (yC (yD (yA rfl ?_))))
 iterate 4 refine yF ?_
 obtain ⟨r, hr⟩ : ∃ r, log.getD i default = r := ⟨_, rfl⟩
 simp only [hr]
 have hwr := hw i
 rw [hr] at hwr
 iterate 2 refine yF ?_
 refine yE (yB (yC (yD (yA rfl ?_))))
 refine yF ?_
 refine yE (yB (yC (yD (yD (yA rfl ?_)))))
 iterate 2 refine yF ?_
 refine yE (yB (yC (xF (yA rfl ?_))))
 iterate 2 refine yF ?_
 refine yF (hs := by (simp (disch := omega) only [push_cast, reduceCtorEq, hk1] <;> rfl)) ?_
 iterate 2 refine yF ?_
 refine yU [] false (yEm Γ (log.getD k default) (hw k)) ?_
 refine yF ?_
 refine yE (yB (yC (yD (yA rfl ?_))))
 iterate 3 refine yF ?_
 refine yU [] false (yBX Γ l r.dev hln) ?_
 refine yF ?_
 refine yE (yB (yC (yD (yH (yD (yA rfl ?_))))))
 rcases Classical.em (¬ rcP r) with hp | hp
 rotate_left 1
 have hp := Classical.not_not.1 hp
 rotate_left 1
 ·have hq := yGV (l := l) hr hp
  refine yF ?_
  refine yU [] false ((by have h := sO Γ r hwr; rw [gZ hp] at h; exact h)) ?_
  iterate 2 refine yF ?_
  refine yE (yB (yC (xF (yD (yA rfl ?_)))))
  iterate 5 refine yF ?_
  refine yE (yB (yC (yO (yI (yG ?_)))))
  refine ⟨.inr rfl, yP [] (by rw [results142]) ?_ ?_ ?_⟩ <;> simp [rcT, wpT, hq, sD, sC, sB, sA]
 ·skip
  refine yF ?_
  refine yU [] false ((by have h := sO Γ r hwr; rw [yFV hp] at h; exact h)) ?_
  iterate 2 refine yF ?_
  refine yE (yB (yC (yJ (yD (yA rfl ?_)))))
  have hkd : r.kind = 1 ∨ r.kind = 2 := hp.2.2.2.1
  have h8 : (¬ r.seq = ((i : Int) + 1)) ∨ (r.seq = ((i : Int) + 1) ∧ (r.prev == hsh (log.getD k default)) = false) ∨ (r.seq = ((i : Int) + 1) ∧ (r.prev == hsh (log.getD k default)) = true ∧ ((r.kind = 1 ∧ r.dev = 0 ∧ l.contains r.dev = true) ∨ (r.kind = 1 ∧ r.dev = 0 ∧ l.contains r.dev = false) ∨ (r.kind = 1 ∧ ¬ r.dev = 0 ∧ l.contains r.dev = true) ∨ (r.kind = 1 ∧ ¬ r.dev = 0 ∧ l.contains r.dev = false) ∨ (r.kind = 2 ∧ r.dev = 0 ∧ l.contains r.dev = true) ∨ (r.kind = 2 ∧ r.dev = 0 ∧ l.contains r.dev = false) ∨ (r.kind = 2 ∧ ¬ r.dev = 0 ∧ l.contains r.dev = true) ∨ (r.kind = 2 ∧ ¬ r.dev = 0 ∧ l.contains r.dev = false))) := by
   by_cases hs : r.seq = ((i : Int) + 1)
   ·rcases hv : (r.prev == hsh (log.getD k default)) with _ | _
    ·exact .inr (.inl ⟨hs, rfl⟩)
    ·refine .inr (.inr ⟨hs, rfl, ?_⟩)
     rcases hkd with h1 | h1
     ·by_cases h2 : r.dev = 0
      ·rcases h3 : l.contains r.dev with _ | _
       ·exact .inr (.inl (⟨h1, h2, rfl⟩))
       ·exact .inl (⟨h1, h2, rfl⟩)
      ·rcases h3 : l.contains r.dev with _ | _
       ·exact .inr (.inr (.inr (.inl (⟨h1, h2, rfl⟩))))
       ·exact .inr (.inr (.inl (⟨h1, h2, rfl⟩)))
     ·by_cases h2 : r.dev = 0
      ·rcases h3 : l.contains r.dev with _ | _
       ·exact .inr (.inr (.inr (.inr (.inr (.inl (⟨h1, h2, rfl⟩))))))
       ·exact .inr (.inr (.inr (.inr (.inl (⟨h1, h2, rfl⟩)))))
      ·rcases h3 : l.contains r.dev with _ | _
       ·exact .inr (.inr (.inr (.inr (.inr (.inr (.inr (⟨h1, h2, rfl⟩)))))))
       ·exact .inr (.inr (.inr (.inr (.inr (.inr (.inl (⟨h1, h2, rfl⟩)))))))
   ·exact .inl hs
  rcases h8 with hs | ⟨hs, hv⟩ | ⟨hs, hv, ⟨q1, q2, q3⟩ | ⟨q1, q2, q3⟩ | ⟨q1, q2, q3⟩ | ⟨q1, q2, q3⟩ | ⟨q1, q2, q3⟩ | ⟨q1, q2, q3⟩ | ⟨q1, q2, q3⟩ | ⟨q1, q2, q3⟩⟩
  ·have hq := yCS (l := l) hr hp (fun h => hs h.1)
   iterate 4 refine yF ?_
   refine yF (hs := by (simp (disch := omega) only [push_cast, reduceCtorEq, hs] <;> rfl)) ?_
   refine yF ?_
   iterate 4 refine wJ ?_
   iterate 2 refine yF ?_
   refine yE (yB (yC (xF (yD (yA rfl ?_)))))
   iterate 5 refine yF ?_
   refine yE (yB (yC (yO (yI (yG ?_)))))
   refine ⟨.inr rfl, yP [] (by rw [results142]) ?_ ?_ ?_⟩ <;> simp [rcT, wpT, hq, sD, sC, sB, sA]
  ·have hv' : ¬ r.prev = hsh (log.getD k default) := fun e => by rw [e] at hv; simp at hv
   have hq := yCS (l := l) hr hp (fun h => hv' (by rw [← hpv]; exact h.2))
   iterate 4 refine yF ?_
   refine yF (hs := by (simp (disch := omega) only [push_cast, reduceCtorEq, hs] <;> rfl)) ?_
   refine yF ?_
   iterate 3 refine xB ?_
   refine xB (hs := by (simp (disch := omega) only [push_cast, reduceCtorEq, hv] <;> rfl)) ?_
   iterate 2 refine yF ?_
   refine yE (yB (yC (xF (yD (yA rfl ?_)))))
   iterate 5 refine yF ?_
   refine yE (yB (yC (yO (yI (yG ?_)))))
   refine ⟨.inr rfl, yP [] (by rw [results142]) ?_ ?_ ?_⟩ <;> simp [rcT, wpT, hq, sD, sC, sB, sA]
  ·have hq := mY (l := l) hr hp ⟨hs, by rw [hpv]; simpa using hv⟩ (by refine .inr (.inr ?_); rw [q3, q1]; decide)
   iterate 4 refine yF ?_
   refine yF (hs := by (simp (disch := omega) only [push_cast, reduceCtorEq, hs] <;> rfl)) ?_
   refine yF ?_
   iterate 3 refine xB ?_
   refine xB (hs := by (simp (disch := omega) only [push_cast, reduceCtorEq, hv] <;> rfl)) ?_
   iterate 2 refine yF ?_
   refine yE (yB (yC (yJ (yD (yA rfl ?_)))))
   iterate 3 refine yF ?_
   iterate 8 refine wJ ?_
   iterate 2 refine yF ?_
   iterate 2 refine xB ?_
   refine xB (hs := by (simp (disch := omega) only [push_cast, reduceCtorEq, q1] <;> rfl)) ?_
   refine xB ?_
   iterate 3 refine wJ ?_
   refine xB ?_
   iterate 2 refine yF ?_
   iterate 3 refine xB ?_
   refine xB (hs := by (simp (disch := omega) only [push_cast, reduceCtorEq, q1] <;> rfl)) ?_
   refine xB (hs := by (simp (disch := omega) only [push_cast, reduceCtorEq, q3] <;> rfl)) ?_
   iterate 2 refine yF ?_
   refine yE (yB (yC (xF (yD (yA rfl ?_)))))
   iterate 5 refine yF ?_
   refine yE (yB (yC (yO (yI (yG ?_)))))
   refine ⟨.inr rfl, yP [] (by rw [results142]) ?_ ?_ ?_⟩ <;> simp [rcT, wpT, hq, sD, sC, sB, sA]
  ·have hq := yCT (l := l) hr hp ⟨hs, by rw [hpv]; simpa using hv⟩ (by rintro (⟨h, h'⟩ | ⟨h, h'⟩ | h) <;> first | omega | (rw [q3, q1] at h; exact h (by decide)))
   iterate 4 refine yF ?_
   refine yF (hs := by (simp (disch := omega) only [push_cast, reduceCtorEq, hs] <;> rfl)) ?_
   refine yF ?_
   iterate 3 refine xB ?_
   refine xB (hs := by (simp (disch := omega) only [push_cast, reduceCtorEq, hv] <;> rfl)) ?_
   iterate 2 refine yF ?_
   refine yE (yB (yC (yJ (yD (yA rfl ?_)))))
   iterate 3 refine yF ?_
   iterate 8 refine wJ ?_
   iterate 2 refine yF ?_
   iterate 2 refine xB ?_
   refine xB (hs := by (simp (disch := omega) only [push_cast, reduceCtorEq, q1] <;> rfl)) ?_
   refine xB ?_
   iterate 3 refine wJ ?_
   refine xB ?_
   iterate 2 refine yF ?_
   iterate 3 refine xB ?_
   refine xB (hs := by (simp (disch := omega) only [push_cast, reduceCtorEq, q1] <;> rfl)) ?_
   refine xB (hs := by (simp (disch := omega) only [push_cast, reduceCtorEq, q3] <;> rfl)) ?_
   iterate 2 refine yF ?_
   refine yE (yB (yC (yJ (yL (yS (yC (yD (yA rfl ?_))))))))
   refine yF ?_
   refine yE (yB (yC (yO ?_)))
   refine ⟨.inr rfl, yP [] (by rw [results142]) ?_ ?_ ?_⟩ <;> simp [rcT, wpT, hq, sD, sC, sB, sA]
  ·have hq := mY (l := l) hr hp ⟨hs, by rw [hpv]; simpa using hv⟩ (by refine .inr (.inr ?_); rw [q3, q1]; decide)
   have q2' : ¬ r.dev = 0 := q2
   iterate 4 refine yF ?_
   refine yF (hs := by (simp (disch := omega) only [push_cast, reduceCtorEq, hs] <;> rfl)) ?_
   refine yF ?_
   iterate 3 refine xB ?_
   refine xB (hs := by (simp (disch := omega) only [push_cast, reduceCtorEq, hv] <;> rfl)) ?_
   iterate 2 refine yF ?_
   refine yE (yB (yC (yJ (yD (yA rfl ?_)))))
   iterate 3 refine yF ?_
   iterate 8 refine wJ ?_
   iterate 2 refine yF ?_
   iterate 2 refine xB ?_
   refine xB (hs := by (simp (disch := omega) only [push_cast, reduceCtorEq, q1] <;> rfl)) ?_
   refine xB ?_
   iterate 3 refine wJ ?_
   refine xB ?_
   iterate 2 refine yF ?_
   iterate 3 refine xB ?_
   refine xB (hs := by (simp (disch := omega) only [push_cast, reduceCtorEq, q1] <;> rfl)) ?_
   refine xB (hs := by (simp (disch := omega) only [push_cast, reduceCtorEq, q3] <;> rfl)) ?_
   iterate 2 refine yF ?_
   refine yE (yB (yC (xF (yD (yA rfl ?_)))))
   iterate 5 refine yF ?_
   refine yE (yB (yC (yO (yI (yG ?_)))))
   refine ⟨.inr rfl, yP [] (by rw [results142]) ?_ ?_ ?_⟩ <;> simp [rcT, wpT, hq, sD, sC, sB, sA]
  ·have hq := yCT (l := l) hr hp ⟨hs, by rw [hpv]; simpa using hv⟩ (by rintro (⟨h, h'⟩ | ⟨h, h'⟩ | h) <;> first | omega | (rw [q3, q1] at h; exact h (by decide)))
   have q2' : ¬ r.dev = 0 := q2
   iterate 4 refine yF ?_
   refine yF (hs := by (simp (disch := omega) only [push_cast, reduceCtorEq, hs] <;> rfl)) ?_
   refine yF ?_
   iterate 3 refine xB ?_
   refine xB (hs := by (simp (disch := omega) only [push_cast, reduceCtorEq, hv] <;> rfl)) ?_
   iterate 2 refine yF ?_
   refine yE (yB (yC (yJ (yD (yA rfl ?_)))))
   iterate 3 refine yF ?_
   iterate 8 refine wJ ?_
   iterate 2 refine yF ?_
   iterate 2 refine xB ?_
   refine xB (hs := by (simp (disch := omega) only [push_cast, reduceCtorEq, q1] <;> rfl)) ?_
   refine xB ?_
   iterate 3 refine wJ ?_
   refine xB ?_
   iterate 2 refine yF ?_
   iterate 3 refine xB ?_
   refine xB (hs := by (simp (disch := omega) only [push_cast, reduceCtorEq, q1] <;> rfl)) ?_
   refine xB (hs := by (simp (disch := omega) only [push_cast, reduceCtorEq, q3] <;> rfl)) ?_
   iterate 2 refine yF ?_
   refine yE (yB (yC (yJ (yL (yS (yC (yD (yA rfl ?_))))))))
   refine yF ?_
   refine yE (yB (yC (yO ?_)))
   refine ⟨.inr rfl, yP [] (by rw [results142]) ?_ ?_ ?_⟩ <;> simp [rcT, wpT, hq, sD, sC, sB, sA]
  ·have hq := mY (l := l) hr hp ⟨hs, by rw [hpv]; simpa using hv⟩ (by exact .inr (.inl ⟨by omega, by omega⟩))
   iterate 4 refine yF ?_
   refine yF (hs := by (simp (disch := omega) only [push_cast, reduceCtorEq, hs] <;> rfl)) ?_
   refine yF ?_
   iterate 3 refine xB ?_
   refine xB (hs := by (simp (disch := omega) only [push_cast, reduceCtorEq, hv] <;> rfl)) ?_
   iterate 2 refine yF ?_
   refine yE (yB (yC (yJ (yD (yA rfl ?_)))))
   iterate 3 refine yF ?_
   iterate 8 refine wJ ?_
   iterate 2 refine yF ?_
   iterate 2 refine xB ?_
   refine xB (hs := by (simp (disch := omega) only [push_cast, reduceCtorEq, q1] <;> rfl)) ?_
   iterate 3 refine xB ?_
   refine xB (hs := by (simp (disch := omega) only [push_cast, reduceCtorEq, q2] <;> rfl)) ?_
   refine xB ?_
   iterate 2 refine yF ?_
   iterate 5 refine wJ ?_
   iterate 2 refine yF ?_
   refine yE (yB (yC (xF (yD (yA rfl ?_)))))
   iterate 5 refine yF ?_
   refine yE (yB (yC (yO (yI (yG ?_)))))
   refine ⟨.inr rfl, yP [] (by rw [results142]) ?_ ?_ ?_⟩ <;> simp [rcT, wpT, hq, sD, sC, sB, sA]
  ·have hq := mY (l := l) hr hp ⟨hs, by rw [hpv]; simpa using hv⟩ (by exact .inr (.inl ⟨by omega, by omega⟩))
   iterate 4 refine yF ?_
   refine yF (hs := by (simp (disch := omega) only [push_cast, reduceCtorEq, hs] <;> rfl)) ?_
   refine yF ?_
   iterate 3 refine xB ?_
   refine xB (hs := by (simp (disch := omega) only [push_cast, reduceCtorEq, hv] <;> rfl)) ?_
   iterate 2 refine yF ?_
   refine yE (yB (yC (yJ (yD (yA rfl ?_)))))
   iterate 3 refine yF ?_
   iterate 8 refine wJ ?_
   iterate 2 refine yF ?_
   iterate 2 refine xB ?_
   refine xB (hs := by (simp (disch := omega) only [push_cast, reduceCtorEq, q1] <;> rfl)) ?_
   iterate 3 refine xB ?_
   refine xB (hs := by (simp (disch := omega) only [push_cast, reduceCtorEq, q2] <;> rfl)) ?_
   refine xB ?_
   iterate 2 refine yF ?_
   iterate 5 refine wJ ?_
   iterate 2 refine yF ?_
   refine yE (yB (yC (xF (yD (yA rfl ?_)))))
   iterate 5 refine yF ?_
   refine yE (yB (yC (yO (yI (yG ?_)))))
   refine ⟨.inr rfl, yP [] (by rw [results142]) ?_ ?_ ?_⟩ <;> simp [rcT, wpT, hq, sD, sC, sB, sA]
  ·have hq := yCT (l := l) hr hp ⟨hs, by rw [hpv]; simpa using hv⟩ (by rintro (⟨h, h'⟩ | ⟨h, h'⟩ | h) <;> first | omega | (rw [q3, q1] at h; exact h (by decide)))
   have q2' : ¬ r.dev = 0 := q2
   iterate 4 refine yF ?_
   refine yF (hs := by (simp (disch := omega) only [push_cast, reduceCtorEq, hs] <;> rfl)) ?_
   refine yF ?_
   iterate 3 refine xB ?_
   refine xB (hs := by (simp (disch := omega) only [push_cast, reduceCtorEq, hv] <;> rfl)) ?_
   iterate 2 refine yF ?_
   refine yE (yB (yC (yJ (yD (yA rfl ?_)))))
   iterate 3 refine yF ?_
   iterate 8 refine wJ ?_
   iterate 2 refine yF ?_
   iterate 2 refine xB ?_
   refine xB (hs := by (simp (disch := omega) only [push_cast, reduceCtorEq, q1] <;> rfl)) ?_
   iterate 3 refine xB ?_
   refine xB (hs := by (simp (disch := omega) only [push_cast, reduceCtorEq, q2'] <;> rfl)) ?_
   refine xB ?_
   iterate 2 refine yF ?_
   iterate 3 refine xB ?_
   refine xB (hs := by (simp (disch := omega) only [push_cast, reduceCtorEq, q1] <;> rfl)) ?_
   refine xB (hs := by (simp (disch := omega) only [push_cast, reduceCtorEq, q3] <;> rfl)) ?_
   iterate 2 refine yF ?_
   refine yE (yB (yC (yJ (yL (yS (yC (yD (yA rfl ?_))))))))
   refine yF ?_
   refine yE (yB (yC (yO ?_)))
   refine ⟨.inr rfl, yP [] (by rw [results142]) ?_ ?_ ?_⟩ <;> simp [rcT, wpT, hq, sD, sC, sB, sA]
  ·have hq := mY (l := l) hr hp ⟨hs, by rw [hpv]; simpa using hv⟩ (by refine .inr (.inr ?_); rw [q3, q1]; decide)
   have q2' : ¬ r.dev = 0 := q2
   iterate 4 refine yF ?_
   refine yF (hs := by (simp (disch := omega) only [push_cast, reduceCtorEq, hs] <;> rfl)) ?_
   refine yF ?_
   iterate 3 refine xB ?_
   refine xB (hs := by (simp (disch := omega) only [push_cast, reduceCtorEq, hv] <;> rfl)) ?_
   iterate 2 refine yF ?_
   refine yE (yB (yC (yJ (yD (yA rfl ?_)))))
   iterate 3 refine yF ?_
   iterate 8 refine wJ ?_
   iterate 2 refine yF ?_
   iterate 2 refine xB ?_
   refine xB (hs := by (simp (disch := omega) only [push_cast, reduceCtorEq, q1] <;> rfl)) ?_
   iterate 3 refine xB ?_
   refine xB (hs := by (simp (disch := omega) only [push_cast, reduceCtorEq, q2'] <;> rfl)) ?_
   refine xB ?_
   iterate 2 refine yF ?_
   iterate 3 refine xB ?_
   refine xB (hs := by (simp (disch := omega) only [push_cast, reduceCtorEq, q1] <;> rfl)) ?_
   refine xB (hs := by (simp (disch := omega) only [push_cast, reduceCtorEq, q3] <;> rfl)) ?_
   iterate 2 refine yF ?_
   refine yE (yB (yC (xF (yD (yA rfl ?_)))))
   iterate 5 refine yF ?_
   refine yE (yB (yC (yO (yI (yG ?_)))))
   refine ⟨.inr rfl, yP [] (by rw [results142]) ?_ ?_ ?_⟩ <;> simp [rcT, wpT, hq, sD, sC, sB, sA]
theorem kX (Γ : Gl) (log : List Rc) (l : List Int) (i : Nat) (hi : i < log.length) (hln : l.length ≤ 1000000) (hl : log.length ≤ 1000000) (hw : ∀ j, (log.getD j default).wraps.length ≤ 9223372036854775807) : Go.Ot.Good Γ prog 142 [.t (.sl log.length (log.flatMap rcT)), .t (num i), .t (lst num l)] [] (.t (lkT i (chC log l i))) [] [] := by
 rcases Nat.eq_zero_or_pos i with hz | hz
 ·exact chd_0 Γ log l i hz hi hln hl hw
 ·exact chd_s Γ log l i (by omega) hi hln hl hw
end Go.Proofs.Tryz

namespace Go.Proofs.Tryz
open Go Go.Ot
attribute [local simp] num bol txt w8 w16 w32 w64 lst cls xZ xR List.take_of_length_le
attribute [local irreducible] wpK wpS uE wH wV wN wZ xD Le rcF hsh inF chC mwB lkT fl
theorem yCQ (Γ : Gl) (log : List Rc) (hl : log.length ≤ 1000000) (hw : ∀ j, (log.getD j default).wraps.length ≤ 9223372036854775807)  : Go.Ot.Good Γ prog 113 [.t (.sl log.length (log.flatMap rcT))] [] (.t (bol (ckB log))) [] [] := by
 refine yR F.mix func113 (by rfl) ntmps113 ?_
 refine yD (yA rfl ?_)
 refine yF ?_
 refine yE (yB (yC (yD (yD (yA rfl ?_)))))
 iterate 3 refine yF ?_
 refine yE (yB (yC ?_))
 refine vL (fun hc0 => ?_) (fun hc0 => ?_)
 ·(try simp only [zB] at hc0)
  have hq := yGU (log := log) (by omega)
  refine yD (yA rfl ?_)
  refine yF ?_
  refine yE (yB (yC (yO (yG ?_))))
  refine ⟨.inr rfl, yP [] (by rw [results113]) ?_ ?_ ?_⟩ <;> simp [rcT, wpT, hq]
 ·(try simp only [zB] at hc0)
  refine yL (yC (yD (yA rfl ?_)))
  refine yF ?_
  refine yE (yB (yC (yD (yD (yA rfl ?_)))))
  iterate 3 refine yF ?_
  refine yE (yB (yC (yH ?_)))
  refine xN (fun sl L (i : Nat) => ⟨setAll (setBad sl [2, 4, 5, 6, 7, 8, 9, 13, 14, 15, 16, 17, 18, 19, 20, 21, 22, 23, 24, 25, 26, 27, 28, 29, 30, 31, 32, 33, 34, 35, 36, 37, 38, 39, 40, 41, 42, 43, 44, 45]) [(12, .t (num i)), (3, .msl (.n 9) 0 (inF log i).length 1)], Go.Ot.look (vD (.n 9) (xZ 3 num (inF log i)) L)⟩) (fun i => i ≤ log.length ∧ ∀ j, j < i → chC log (inF log j) j = 0) (fun i => log.length - i) (0) (wF ?_) ?_ ?_
  ·refine wL [] ?_ ?_ ?_ <;> simp [rcT, wpT, inF_0]
  ·exact ⟨Nat.zero_le _, fun j hj => by omega⟩
  ·rintro i ⟨hi, hI⟩
   refine vE ?_
   refine yD (yA rfl ?_)
   refine yF ?_
   refine yE (yB (yC (yD ?_)))
   refine vL (fun hc1 => ?_) (fun hc1 => ?_)
   ·(try simp only [zB] at hc1)
    refine yL (yC (yD (yH (yD (yA rfl ?_)))))
    iterate 3 refine yF ?_
    obtain ⟨r, hr⟩ : ∃ r, log.getD i default = r := ⟨_, rfl⟩
    simp only [hr]
    iterate 3 refine yF ?_
    refine yE (yB (yC (yD (yA rfl ?_))))
    have hil := yEh log i
    have hcc := yEZ log (inF log i) i
    rcases hcc with hcc | hcc | hcc | hcc
    ·have hok := kD hcc
     iterate 3 refine yF ?_
     refine yU [.n 9] false ((by have h := kX Γ log (inF log i) i (by omega) (by omega) hl hw; rw [hcc] at h; exact h)) ?_
     refine yF ?_
     refine yE (yB (yC (yD (yD (yA rfl ?_)))))
     iterate 2 refine yF ?_
     refine yU [] false (qQ Γ [110, 111, 32, 114, 101, 99, 111, 114, 100]) ?_
     refine yF ?_
     iterate 2 refine xB ?_
     refine wT [] false (qQ Γ [97, 110, 111, 116, 104, 101, 114, 32, 114, 101, 99, 111, 114, 100, 32, 97, 104, 101, 97, 100]) ?_
     iterate 2 refine yF ?_
     iterate 2 refine xB ?_
     refine wT [] false (qQ Γ [97, 32, 109, 101, 109, 98, 101, 114, 32, 116, 104, 97, 116, 32, 105, 115, 32, 110, 111, 110, 101, 44, 32, 111, 114, 32, 110, 111, 110, 101, 32, 116, 104, 97, 116, 32, 105, 115, 32, 111, 110, 101]) ?_
     refine yF ?_
     refine yE (yB (yC (yJ (yL (yC (yD (yA rfl ?_)))))))
     iterate 3 refine yF ?_
     refine yE (yB (yC ?_))
     refine vL (fun hc3 => ?_) (fun hc3 => ?_)
     ·(try simp only [zB] at hc3)
      have hk1 : r.kind = 1 := by simpa using hc3
      have hn := pI (log := log) (i := i) (by rw [hr]; exact hk1)
      rw [hr] at hn
      refine yA rfl ?_
      iterate 6 refine yF ?_
      refine yE (yB (yS (yC (yA rfl ?_))))
      iterate 2 refine yF ?_
      refine yE (yB ?_)
      refine xE (i + 1) (wF ?_) ?_ ?_
      ·refine wL [(.n 9, .n 9)] ?_ ?_ ?_ <;> simp [-List.map_set, -List.map_replicate, -List.reduceReplicate, -List.map_map, -List.map_drop, -List.map_take, rcT, wpT, hn]
      ·exact ⟨by omega, fun j hj => by rcases (show j = i ∨ j < i by omega) with e | e; (subst e; exact hcc); exact hI j e⟩
      ·(first | omega | (simp only []; omega))
     ·(try simp only [zB] at hc3)
      have hk1 : r.kind ≠ 1 := by simpa using hc3
      have hn := hC (log := log) (i := i) (by rw [hr]; exact hk1)
      rw [hr] at hn
      have hk2 : r.kind = 2 := by have := hok.1.2.2.2.1; rw [hr] at this; rcases this with h | h; exact absurd h hk1; exact h
      have hmem : r.dev ∈ inF log i := by
       have h3 := hok.2.2
       rw [hr] at h3
       rcases e : (inF log i).contains r.dev with _ | _
       ·exact absurd (.inr (.inr (by rw [e, hk2]; decide))) h3
       ·exact List.contains_iff_mem.1 e
      obtain ⟨k, ⟨hk, hx⟩, hb⟩ := dP (p := fun k => k < (inF log i).length ∧ (inF log i).getD k 0 = r.dev) (by
       obtain ⟨k, hk, e⟩ := List.mem_iff_getElem.1 hmem
       exact ⟨k, hk, by simp only [List.getD_eq_getElem?_getD, List.getElem?_eq_getElem hk, Option.getD_some]; exact e⟩)
      refine yA rfl ?_
      iterate 2 refine yF ?_
      refine wG [.n 9] [.r 6 3 0] [.n 9] false (yGF Γ (inF log i) r k (by omega) hk hx (fun j hj e => hb j hj ⟨by omega, e⟩)) ?_
      refine yF ?_
      refine yE (yB (yS (yC (yA rfl ?_))))
      iterate 2 refine yF ?_
      refine yE (yB ?_)
      refine xE (i + 1) (wF ?_) ?_ ?_
      ·refine wL [(.n 9, .n 9)] ?_ ?_ ?_ <;> simp [-List.map_set, -List.map_replicate, -List.reduceReplicate, -List.map_map, -List.map_drop, -List.map_take, rcT, wpT, hn]
      ·exact ⟨by omega, fun j hj => by rcases (show j = i ∨ j < i by omega) with e | e; (subst e; exact hcc); exact hI j e⟩
      ·(first | omega | (simp only []; omega))
    ·have hq := yET (log := log) (i := i) (by omega) (by rw [hcc]; decide)
     iterate 3 refine yF ?_
     refine yU [.n 9] false ((by have h := kX Γ log (inF log i) i (by omega) (by omega) hl hw; rw [hcc] at h; exact h)) ?_
     refine yF ?_
     refine yE (yB (yC (yD (yD (yA rfl ?_)))))
     iterate 2 refine yF ?_
     refine yU [] false (tK Γ i [110, 111, 32, 114, 101, 99, 111, 114, 100] [110, 111, 32, 114, 101, 99, 111, 114, 100] true yGh) ?_
     refine yF ?_
     iterate 3 refine wJ ?_
     iterate 2 refine yF ?_
     iterate 3 refine wJ ?_
     refine yF ?_
     refine yE (yB (yC (xF (yD (yA rfl ?_)))))
     refine yF ?_
     refine yE (yB (yC (yO (yG (yI (yG (wI (yI (yG ?_)))))))))
     refine ⟨.inr rfl, yP [] (by rw [results113]) ?_ ?_ ?_⟩ <;> simp [rcT, wpT, hq]
    ·have hq := yET (log := log) (i := i) (by omega) (by rw [hcc]; decide)
     iterate 3 refine yF ?_
     refine yU [.n 9] false ((by have h := kX Γ log (inF log i) i (by omega) (by omega) hl hw; rw [hcc] at h; exact h)) ?_
     refine yF ?_
     refine yE (yB (yC (yD (yD (yA rfl ?_)))))
     iterate 2 refine yF ?_
     refine yU [] false (tK Γ i [97, 110, 111, 116, 104, 101, 114, 32, 114, 101, 99, 111, 114, 100, 32, 97, 104, 101, 97, 100] [110, 111, 32, 114, 101, 99, 111, 114, 100] false yGg) ?_
     refine yF ?_
     iterate 2 refine xB ?_
     refine wT [] false (tK Γ i [97, 110, 111, 116, 104, 101, 114, 32, 114, 101, 99, 111, 114, 100, 32, 97, 104, 101, 97, 100] [97, 110, 111, 116, 104, 101, 114, 32, 114, 101, 99, 111, 114, 100, 32, 97, 104, 101, 97, 100] true yGf) ?_
     iterate 2 refine yF ?_
     iterate 3 refine wJ ?_
     refine yF ?_
     refine yE (yB (yC (xF (yD (yA rfl ?_)))))
     refine yF ?_
     refine yE (yB (yC (yO (yG (yI (yG (wI (yI (yG ?_)))))))))
     refine ⟨.inr rfl, yP [] (by rw [results113]) ?_ ?_ ?_⟩ <;> simp [rcT, wpT, hq]
    ·have hq := yET (log := log) (i := i) (by omega) (by rw [hcc]; decide)
     iterate 3 refine yF ?_
     refine yU [.n 9] false ((by have h := kX Γ log (inF log i) i (by omega) (by omega) hl hw; rw [hcc] at h; exact h)) ?_
     refine yF ?_
     refine yE (yB (yC (yD (yD (yA rfl ?_)))))
     iterate 2 refine yF ?_
     refine yU [] false (tK Γ i [97, 32, 109, 101, 109, 98, 101, 114, 32, 116, 104, 97, 116, 32, 105, 115, 32, 110, 111, 110, 101, 44, 32, 111, 114, 32, 110, 111, 110, 101, 32, 116, 104, 97, 116, 32, 105, 115, 32, 111, 110, 101] [110, 111, 32, 114, 101, 99, 111, 114, 100] false yGe) ?_
     refine yF ?_
     iterate 2 refine xB ?_
     refine wT [] false (tK Γ i [97, 32, 109, 101, 109, 98, 101, 114, 32, 116, 104, 97, 116, 32, 105, 115, 32, 110, 111, 110, 101, 44, 32, 111, 114, 32, 110, 111, 110, 101, 32, 116, 104, 97, 116, 32, 105, 115, 32, 111, 110, 101] [97, 110, 111, 116, 104, 101, 114, 32, 114, 101, 99, 111, 114, 100, 32, 97, 104, 101, 97, 100] false yGd) ?_
     iterate 2 refine yF ?_
     iterate 2 refine xB ?_
     refine wT [] false (tK Γ i [97, 32, 109, 101, 109, 98, 101, 114, 32, 116, 104, 97, 116, 32, 105, 115, 32, 110, 111, 110, 101, 44, 32, 111, 114, 32, 110, 111, 110, 101, 32, 116, 104, 97, 116, 32, 105, 115, 32, 111, 110, 101] [97, 32, 109, 101, 109, 98, 101, 114, 32, 116, 104, 97, 116, 32, 105, 115, 32, 110, 111, 110, 101, 44, 32, 111, 114, 32, 110, 111, 110, 101, 32, 116, 104, 97, 116, 32, 105, 115, 32, 111, 110, 101] true yGc) ?_
     refine yF ?_
     refine yE (yB (yC (xF (yD (yA rfl ?_)))))
     refine yF ?_
     refine yE (yB (yC (yO (yG (yI (yG (wI (yI (yG ?_)))))))))
     refine ⟨.inr rfl, yP [] (by rw [results113]) ?_ ?_ ?_⟩ <;> simp [rcT, wpT, hq]
   ·(try simp only [zB] at hc1)
    refine xQ (yM (yN (yK (yC (yD (yA rfl ?_))))))
    have hq := yAX (log := log) (by omega) (fun j hj => hI j (by omega))
    refine yF ?_
    refine yE (yB (yC (yO ?_)))
    refine ⟨.inr rfl, yP [] (by rw [results113]) ?_ ?_ ?_⟩ <;> simp [rcT, wpT, hq]
end Go.Proofs.Tryz
