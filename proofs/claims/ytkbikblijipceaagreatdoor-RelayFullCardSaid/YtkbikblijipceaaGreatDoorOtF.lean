/- What a law's arguments are, as trees. -/
import Derived.Test.YtkbikblijipceaaGreatDoorOtC
import Derived.ChangeArms
import Derived.OpenShut
import Derived.ChangeOld
import Derived.WalkKit
import Derived.ProofKit
import Derived.ShutString
import Derived.Below
import Derived.Test.YtkbikblijipceaaGreatDoorOtD
import Derived.LaidLaws
import Derived.LaidHandle
import Derived.Handed
import Derived.FnData
import Derived.Lib.LaidTab
set_option linter.unusedVariables false
set_option linter.unusedSimpArgs false
namespace Go.Ot
open Go.ChangeShapes
theorem RepTs.append {w : World} {M : Nat → Prop} : ∀ {ds es : List T} {us vs : List Value}, RepTs w M ds us → RepTs w M es vs → RepTs w M (ds ++ es) (us ++ vs)
 | [], es, us, vs, h, k => by have h : us = [] := h; subst h; simpa using k
 | d :: ds, es, us, vs, h, k => by
  obtain ⟨u, us', rfl, h1, h2, h3⟩ := h
  exact ⟨u, us' ++ vs, rfl, h1, h2, RepTs.append h3 k⟩
theorem RepTAt.append {w : World} {M : Nat → Prop} {a : Addr} : ∀ {ds es : List T} {j : Nat}, RepTAt w M a j ds → RepTAt w M a (j + ds.length) es → RepTAt w M a j (ds ++ es)
 | [], es, j, _, k => by simpa using k
 | d :: ds, es, j, h, k => ⟨h.1, RepTAt.append h.2 (by simpa [Nat.add_assoc, Nat.add_comm 1] using k)⟩
def yHz (P : Program) : List Field → Nat → Nat → Bool
 | [], o, n => o == n
 | f :: fs, o, n => f.offset == o && yHz P fs (o + P.cellsOf f.type) n
def okT (P : Program) : Nat → TypeId → Bool
 | 0, _ => false
 | m + 1, t => match P.underlying t with
  | some .bool => true
  | some (.int _) => true
  | some .string => true
  | some (.slice e) => decide (0 < P.cellsOf e) && okT P m e
  | some (.struct fs) => yHz P fs.toList 0 (P.cellsOf t) && fs.toList.all fun f => okT P m f.type
  | some (.array n e) => (P.cellsOf t == n * P.cellsOf e) && okT P m e
  | _ => false
def Fit (P : Program) : Nat → TypeId → List T → Prop
 | 0, _, _ => False
 | m + 1, t, ts => match P.underlying t with
  | some .bool => ∃ b, ts = [.v (.bool b)]
  | some (.int k) => ∃ n, ts = [.v (.int k n)] ∧ (Lit.int k n).wf = true
  | some .string => ∃ s, ts = [.v (.string s)] ∧ s.size ≤ maxLen
  | some (.slice e) => ∃ len es, ts = [.sl len es] ∧ len ≤ maxLen ∧ es.length = len * P.cellsOf e ∧ ∀ i, i < len → Fit P m e ((es.drop (i * P.cellsOf e)).take (P.cellsOf e))
  | some (.struct fs) => ts.length = P.cellsOf t ∧ ∀ f ∈ fs.toList, Fit P m f.type ((ts.drop f.offset).take (P.cellsOf f.type))
  | some (.array n e) => ts.length = P.cellsOf t ∧ ∀ i, i < n → Fit P m e ((ts.drop (i * P.cellsOf e)).take (P.cellsOf e))
  | _ => False
theorem yEL {P : Program} : ∀ {fs : List Field} {o n : Nat}, yHz P fs o n = true → o ≤ n
 | [], o, n, h => by simp [yHz] at h; omega
 | f :: fs, o, n, h => by
  simp only [yHz, Bool.and_eq_true, beq_iff_eq] at h
  have := yEL h.2
  omega
theorem fields_read {P : Program} {w : World} {M : Nat → Prop} {Q : Field → List T → Prop} {cs : List Value} {n : Nat} (hl : cs.length = n) : ∀ {fs : List Field} {o : Nat}, yHz P fs o n = true →
  (∀ f ∈ fs, ∃ ts, RepTs w M ts ((cs.drop f.offset).take (P.cellsOf f.type)) ∧ Q f ts) → ∃ ts, RepTs w M ts (cs.drop o) ∧ ∀ f ∈ fs, o ≤ f.offset ∧ Q f ((ts.drop (f.offset - o)).take (P.cellsOf f.type))
 | [], o, h, _ => by
  simp [yHz] at h
  exact ⟨[], by rw [List.drop_eq_nil_of_le (by omega)]; exact rfl, by simp⟩
 | f :: fs, o, h, hf => by
  simp only [yHz, Bool.and_eq_true, beq_iff_eq] at h
  obtain ⟨rfl, h2⟩ := h
  have hle := yEL h2
  obtain ⟨t1, h3, h4⟩ := hf f (by simp)
  obtain ⟨t2, h5, h6⟩ := fields_read hl h2 (fun g hg => hf g (List.mem_cons_of_mem _ hg))
  have hl1 : t1.length = P.cellsOf f.type := by
   have := h3.length
   rw [← this, List.length_take, List.length_drop, hl]
   omega
  have hsplit : cs.drop f.offset = (cs.drop f.offset).take (P.cellsOf f.type) ++ cs.drop (f.offset + P.cellsOf f.type) := by
   rw [← List.drop_drop, List.take_append_drop]
  refine ⟨t1 ++ t2, by rw [hsplit]; exact h3.append h5, fun g hg => ?_⟩
  rcases List.mem_cons.1 hg with rfl | hg
  ·refine ⟨Nat.le_refl _, ?_⟩
   rw [Nat.sub_self, List.drop_zero, ← hl1, List.take_left']
   ·exact h4
   ·rfl
  ·obtain ⟨h7, h8⟩ := h6 g hg
   refine ⟨by omega, ?_⟩
   have : (t1 ++ t2).drop (g.offset - f.offset) = t2.drop (g.offset - (f.offset + P.cellsOf f.type)) := by
    rw [List.drop_append, List.drop_eq_nil_of_le (by omega), List.nil_append]
    congr 1
    omega
   rw [this]
   exact h8
theorem chunks {Q : List T → Prop} {c : Nat} {es t : List T} {k : Nat} (hl : es.length = k * c) (ht : t.length = c) (h : ∀ i, i < k → Q ((es.drop (i * c)).take c)) (hq : Q t) : ∀ i, i < k + 1 → Q (((es ++ t).drop (i * c)).take c) := by
 intro i hi
 by_cases e : i = k
 ·subst e
  rw [← hl, List.drop_left', List.take_of_length_le (by omega)]
  ·exact hq
  ·rfl
 ·have hik : i < k := by omega
  have hm : (i + 1) * c ≤ k * c := Nat.mul_le_mul_right c hik
  rw [Nat.succ_mul] at hm
  have : ((es ++ t).drop (i * c)).take c = (es.drop (i * c)).take c := by
   rw [List.drop_append_of_le_length (by omega), List.take_append_of_le_length (by simp; omega)]
  rw [this]
  exact h i hik
theorem read {H : Type} {enc : TypeId × Value → H} {P : Program} {w : World} {base : Nat} {spare : Nat → Bool} {held : Bool} : ∀ (m : Nat) {t : TypeId} {fuel : Nat} {cs : List Value} {x : DataW H × List MemPlace}, okT P m t = true → DataW.trod enc P w base spare held fuel t cs = some x →
  ∃ ts, RepTs w (fun _ => False) ts cs ∧ Fit P m t ts
 | 0, t, fuel, cs, x, h, _ => by simp [okT] at h
 | m + 1, t, fuel, cs, x, h, hx => by
  unfold okT at h
  unfold Fit
  split at h
  ·rename_i ht
   obtain ⟨b, rfl, _⟩ := DataW.trod_bool ht hx
   exact ⟨[.v (.bool b)], ⟨_, _, rfl, rfl, rfl, rfl⟩, ⟨b, rfl⟩⟩
  ·rename_i k ht
   obtain ⟨n, rfl, _, h1⟩ := DataW.trod_int ht hx
   exact ⟨[.v (.int k n)], ⟨_, _, rfl, rfl, rfl, rfl⟩, ⟨n, rfl, h1⟩⟩
  ·rename_i ht
   obtain ⟨s, rfl, _, h1⟩ := DataW.trod_string ht hx
   exact ⟨[.v (.string s)], ⟨_, _, rfl, rfl, rfl, rfl⟩, ⟨s, rfl, h1⟩⟩
  ·rename_i e ht
   simp only [Bool.and_eq_true, decide_eq_true_eq] at h
   rcases DataW.trod_slice ht hx with ⟨rfl, _⟩ | ⟨a, len, cap, elems, rest, n, _, rfl, _, _, h1, h2, h3, h4, _⟩
   ·exact ⟨[.sl 0 []], ⟨_, _, rfl, rfl, ⟨none, 0, rfl, Nat.le_refl _, Nat.zero_le _, .inl rfl⟩, rfl⟩, 0, [], rfl, Nat.zero_le _, by simp, fun i hi => by omega⟩
   ·have key : ∀ k, k ≤ len → ∃ es, es.length = k * P.cellsOf e ∧ RepTAt w (fun _ => False) a 0 es ∧ ∀ i, i < k → Fit P m e ((es.drop (i * P.cellsOf e)).take (P.cellsOf e)) := by
     intro k
     induction k with
     | zero => exact fun _ => ⟨[], by simp, trivial, fun i hi => by omega⟩
     | succ k ih =>
      intro hk
      obtain ⟨es, h5, h6, h7⟩ := ih (by omega)
      have h8 := h4 k (by omega)
      have hke : k < elems.length := by omega
      rw [List.getElem?_eq_getElem hke] at h8
      obtain ⟨ck, h9, h10⟩ := Option.bind_eq_some_iff.1 h8
      obtain ⟨tk, h11, h12⟩ := read m h.2 h10
      obtain ⟨_, h13, h14⟩ := World.cells?_some h9
      have hlk : tk.length = P.cellsOf e := by rw [← h11.length, h13]
      refine ⟨es ++ tk, by rw [List.length_append, h5, hlk, Nat.succ_mul], h6.append ?_, chunks h5 hlk h7 h12⟩
      refine RepTAt.of_get (fun i d hd => ?_)
      obtain ⟨u, h15, h16, h17⟩ := h11.get hd
      refine ⟨u, ?_, h16, h17⟩
      have hi : i < P.cellsOf e := by rw [← hlk]; exact (List.getElem?_eq_some_iff.1 hd).1
      have := h14 i hi
      rw [yB3, h15] at this
      rw [Nat.zero_add, h5]
      exact this
    obtain ⟨es, h5, h6, h7⟩ := key len (Nat.le_refl _)
    exact ⟨[.sl len es], ⟨_, _, rfl, rfl, ⟨some a, cap, rfl, h1, h2, .inr ⟨a, rfl, fun h => h, h6⟩⟩, rfl⟩, len, es, rfl, Nat.le_trans h1 h2, h5, h7⟩
  ·rename_i fs ht
   simp only [Bool.and_eq_true, List.all_eq_true] at h
   obtain ⟨xs, n, _, _, h1, h2, h3⟩ := DataW.trod_struct ht hx
   obtain ⟨ts, h4, h5⟩ := fields_read (w := w) (M := fun _ => False) (Q := fun f ts => Fit P m f.type ts) h1 h.1 (fun f hf => by
    obtain ⟨i, hi⟩ := List.mem_iff_getElem?.1 hf
    have h6 := h3 i f (by simpa using hi)
    have hlt : i < xs.length := by
     have := (List.getElem?_eq_some_iff.1 hi).1
     simp at this
     omega
    rw [List.getElem?_eq_getElem hlt] at h6
    exact read m (h.2 f hf) h6)
   rw [List.drop_zero] at h4
   exact ⟨ts, h4, by rw [← h4.length, h1], fun f hf => by simpa using (h5 f hf).2⟩
  ·rename_i n e ht
   simp only [Bool.and_eq_true, beq_iff_eq] at h
   obtain ⟨xs, k, _, _, h1, h2, h3⟩ := DataW.trod_array ht hx
   have key : ∀ k, k ≤ n → ∃ ts, ts.length = k * P.cellsOf e ∧ RepTs w (fun _ => False) ts (cs.take (k * P.cellsOf e)) ∧ ∀ i, i < k → Fit P m e ((ts.drop (i * P.cellsOf e)).take (P.cellsOf e)) := by
    intro k
    induction k with
    | zero => exact fun _ => ⟨[], by simp, by simp [RepTs], fun i hi => by omega⟩
    | succ k ih =>
     intro hk
     obtain ⟨ts, h5, h6, h7⟩ := ih (by omega)
     have h8 := h3 k (by omega)
     have hke : k < xs.length := by omega
     rw [List.getElem?_eq_getElem hke] at h8
     obtain ⟨tk, h11, h12⟩ := read m h.2 h8
     have hm : (k + 1) * P.cellsOf e ≤ n * P.cellsOf e := Nat.mul_le_mul_right _ hk
     rw [Nat.succ_mul] at hm
     have hlk : tk.length = P.cellsOf e := by
      rw [← h11.length, List.length_take, List.length_drop, h1, h.1]
      omega
     refine ⟨ts ++ tk, by rw [List.length_append, h5, hlk, Nat.succ_mul], ?_, chunks h5 hlk h7 h12⟩
     rw [Nat.succ_mul, List.take_add]
     exact h6.append h11
   obtain ⟨ts, h5, h6, h7⟩ := key n (Nat.le_refl _)
   rw [List.take_of_length_le (by omega)] at h6
   exact ⟨ts, h6, by rw [h5, h.1], h7⟩
  ·cases h
end Go.Ot

namespace Go.Ot
open Go.ChangeShapes Go.WideShapes Go.ChangeAt Go.RowKit
def no : Nat → Prop := fun _ => False
def none0 : Et := fun _ => none
theorem yJF (b : Nat) : Mx (nH []) none0 no b ↔ False := by
 constructor
 ·rintro (⟨m, ob, s, h, _⟩ | h)
  ·rw [sZ] at h; cases h
  ·exact h
 ·exact False.elim
theorem rep_t {w : World} {x : T} {u : Value} (h : RepT w no x u) : Rep w (Mx (nH []) none0 no) none0 (.t x) u :=
 RepT.keeps (fun _ _ _ => rfl) (fun b _ hb => (yJF b).1 hb) x u h
section
variable {H : Type} {enc : TypeId × Value → H} {P : Program} {W : World} {r : Reach} {base : Nat} {spare : Nat → Bool} {held : Bool} {t : TypeId} {v : Value} {d : DataW H} {p : List MemPlace} {m : Nat}
theorem yJv {k : IntKind} (ht : P.underlying t = some (.int k)) (hv : Value.okWide P W r base t v) (h : DataW.Trod enc P W 0 spare held t v d p) : ∃ n, v = .int k n ∧ (Lit.int k n).wf = true := by
 obtain ⟨n, rfl⟩ := okWide_int ht hv
 obtain ⟨fuel, hf⟩ := h
 obtain ⟨n', h1, _, h2⟩ := DataW.trod_int ht hf
 have hc : (Value.int k n).cells.toList = [.int k n] := by simp [Value.cells]
 rw [hc] at h1
 cases h1
 exact ⟨n, rfl, h2⟩
end
end Go.Ot

namespace Go.Ot
open Go.ChangeShapes Go.WideShapes Go.ChangeAt Go.RowKit
section
variable {H : Type} {enc : TypeId × Value → H} {P : Program} {W : World} {r : Reach} {base : Nat} {spare : Nat → Bool} {held : Bool} {t e : TypeId} {v : Value} {d : DataW H} {p : List MemPlace} {m : Nat}
theorem lit_u8 {n : Int} (h : (Lit.int .u8 n).wf = true) : ((UInt8.ofNat n.toNat).toNat : Int) = n := by
 have hb : 0 ≤ n ∧ n ≤ 255 := by simpa [Lit.wf, IntKind.min, IntKind.max, IntKind.signed, IntKind.bits] using h
 rw [UInt8.toNat_ofNat']; omega
theorem a_u8 (ht : P.underlying t = some (.int .u8)) (hv : Value.okWide P W r base t v) (h : DataW.Trod enc P W 0 spare held t v d p) : ∃ x : UInt8, RepT W no (w8 x) v := by
 obtain ⟨n, rfl, hn⟩ := yJv ht hv h
 exact ⟨UInt8.ofNat n.toNat, congrArg (Value.int .u8) (lit_u8 hn).symm⟩
end
end Go.Ot

namespace Go.Ot
open Go.ChangeShapes Go.WideShapes Go.ChangeAt Go.RowKit
def Γv (P : Program) (n : String) (g : Nat) (hg : P.globalNamed n = some g) (cs : Array Value) : Gl := ⟨fun w => w.var? P n = some cs, g + 1, fun w w' h hw => by
 simp only [World.var?, hg, Option.bind_some] at hw ⊢
 rw [h g (Nat.lt_succ_self g)]
 exact hw⟩
theorem var_lt {P : Program} {w : World} {n : String} {g : Nat} {cs : Array Value} (hg : P.globalNamed n = some g) (h : w.var? P n = some cs) : g + 1 ≤ w.heap.size := by
 simp only [World.var?, hg, Option.bind_some] at h
 split at h
 ·rename_i e; exact (Array.getElem?_eq_some_iff.1 e).1
 ·cases h
theorem yD8 {Γ : Gl} {P : Program} {f : FuncId} {args : List D} {vals : List Value} {w : World} (hG : Good Γ P f args [] (.t (.v (.bool true))) [] []) (hw : Γ.G w) (hgs : Γ.gs ≤ w.heap.size) (h : RepsA w (Mx (nH []) none0 no) none0 args vals) :
  Calls P f vals.toArray w fun e w' => e = .returned (.bool true) ∧ Below w.heap.size w w' := by
 have hok : HpOk w no (nH []) none0 := by
  rw [sZ]
  exact ⟨(fun m ob hm => nomatch hm), (fun m q hq => nomatch hq), (fun m m' b s s' hm => nomatch hm), (fun m b s hm => nomatch hm)⟩
 have hmut : ∀ b, Mut (nH []) none0 b → Γ.gs ≤ b := fun b hb => by
  obtain ⟨m, ob, s, h, _⟩ := hb
  rw [sZ] at h; cases h
 refine (hG w no none0 vals hw hgs (fun b hb => hb.elim) hok (fun m q hq => nomatch hq) hmut h).mono (fun e w' he => ?_)
 obtain ⟨v, η', rfl, h1, _, h2, h3, _, _, _, h4, h5, h6⟩ := he
 have h1 : v = .bool true := h1
 subst h1
 exact ⟨rfl, h4, h5, h6, h2, fun k hk => h3 k hk (fun ⟨m, ob, s, h, _⟩ => by rw [sZ] at h; cases h)⟩
end Go.Ot

namespace Go.Ot
open Go.ChangeShapes Go.WideShapes Go.ChangeAt Go.RowKit
section
variable {α : Type} [Inhabited α] {f : α → List T} {k : Nat}
omit [Inhabited α] in
theorem mG (hf : ∀ a, (f a).length = k) : ∀ l : List α, (l.flatMap f).length = l.length * k
 | [] => by simp
 | a :: l => by rw [List.flatMap_cons, List.length_append, hf, mG hf l, List.length_cons, Nat.succ_mul, Nat.add_comm]
theorem jP (hf : ∀ a, (f a).length = k) : ∀ {l : List α} {i : Nat}, i < l.length → ((l.flatMap f).drop (i * k)).take k = f (l.getD i default)
 | a :: l, 0, _ => by simp [List.flatMap_cons, hf a]
 | a :: l, i + 1, h => by
  have := jP hf (l := l) (i := i) (by simpa using h)
  rw [List.flatMap_cons, List.drop_append, show (i + 1) * k - (f a).length = i * k from by rw [hf, Nat.succ_mul]; omega, List.drop_eq_nil_of_le (by rw [hf, Nat.succ_mul]; omega), List.nil_append, this]
  simp
end
end Go.Ot
