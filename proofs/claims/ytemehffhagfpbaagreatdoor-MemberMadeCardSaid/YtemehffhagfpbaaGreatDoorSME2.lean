/- Contracts of this program's functions. -/
import Derived.Test.YtemehffhagfpbaaGreatDoorSME1
import Derived.Test.YtemehffhagfpbaaGreatDoorOtE
set_option maxHeartbeats 4000000
set_option maxRecDepth 100000
set_option linter.unusedVariables false
set_option linter.unusedSimpArgs false
namespace Go.Proofs.Tryz
open Go Go.Ot

theorem cells_allP (l : List Wp) : ((Wr.cellsL (wpW l)).map D.t).take (l.length * 4) = (Wr.cellsL (wpW l)).map D.t := cells_allZ (wpW_len l)
def rowWp (l : List Wp) : Ob := ⟨(l.flatMap wpT).map .t, 37, true, true⟩
@[push_cast] theorem rowWp_eq (l : List Wp) : rowWp l = ⟨(l.flatMap wpT).map .t, 37, true, true⟩ := rfl
theorem wps_next {l : List Wp} {i : Nat} (h : i < l.length) : ((l.take (i + 1)).flatMap wpT).map D.t = ((l.take i).flatMap wpT).map D.t ++ [.t (num (l.getD i default).dev), .t (txt (l.getD i default).box)] := by
 have e : l.getD i default = l[i] := by simp [List.getD_eq_getElem?_getD, List.getElem?_eq_getElem h]
 rw [List.take_add_one, List.getElem?_eq_getElem h, List.flatMap_append, List.map_append, e]; rfl
@[push_cast] theorem flat_wps' (l : List Wp) : T.flatL (l.flatMap wpT) = true := flat_wps l
attribute [simp] flat_wps'
/-- What wires say of wraps, and of a record. -/
def wpOf (x : Wr) : Wp := ⟨(x.l.getD 0 Wr.z).n, (x.l.getD 1 Wr.z).s⟩
def wpsOf (l : List Wr) : List Wp := l.map wpOf
@[push_cast] theorem wpsOf_len (l : List Wr) : (wpsOf l).length = l.length := by simp [wpsOf]
theorem wpsOf_nil : wpsOf [] = [] := rfl
theorem wpsOf_next {l : List Wr} {i : Nat} (h : i < l.length) : wpsOf (l.take (i + 1)) = wpsOf (l.take i) ++ [wpOf (l.getD i default)] := by
 have e : l.getD i default = l[i] := by simp [List.getD_eq_getElem?_getD, List.getElem?_eq_getElem h]
 rw [List.take_add_one, List.getElem?_eq_getElem h, wpsOf, List.map_append, e]; rfl
theorem wpsOf_take (l : List Wr) : ((wpsOf l).flatMap wpT).take (l.length * 2) = (wpsOf l).flatMap wpT := List.take_of_length_le (by rw [wps_len, wpsOf_len]; omega)
theorem wpsOf_takeD (l : List Wr) : (((wpsOf l).flatMap wpT).map D.t).take (l.length * 2) = ((wpsOf l).flatMap wpT).map D.t := by rw [← List.map_take, wpsOf_take]
theorem wpOf_two {x u v : Wr} (h : x.l = [u, v]) : wpOf x = ⟨u.n, v.s⟩ := by simp [wpOf, h]
def rcOf (W : Wr) : Rc := ⟨(W.l.getD 0 Wr.z).n, (W.l.getD 1 Wr.z).s, (W.l.getD 2 Wr.z).n, (W.l.getD 3 Wr.z).n, wpsOf (W.l.getD 4 Wr.z).l, (W.l.getD 5 Wr.z).s⟩
theorem wpsOf_wpW (l : List Wp) : wpsOf (wpW l) = l := by
 induction l with
 | nil => rfl
 | cons a l ih => simp only [wpW, List.map_cons, wpsOf] at ih ⊢; rw [ih]; rfl
theorem rcOf_rcW (r : Rc) : rcOf (rcW r) = r := by
 show (⟨r.seq, r.prev, r.kind, r.dev, wpsOf (wpW r.wraps), r.tag⟩ : Rc) = r
 rw [wpsOf_wpW]
theorem mw_dev {l : List Wp} (h : mwB l = true) : ∀ w ∈ l, 0 ≤ w.dev ∧ w.dev < 8 := fun w hw => by
 obtain ⟨i, hi, rfl⟩ := List.mem_iff_getElem.1 hw
 have h2 := wpOk_iff.1 (mwB_get h hi)
 have e : l.getD i default = l[i] := by simp [List.getD_eq_getElem?_getD, List.getElem?_eq_getElem hi]
 rw [e] at h2
 exact ⟨h2.1, h2.2.1⟩
theorem rcW_rng {r : Rc} (h : rcP r) : rangeW 6 (rcW r) := by
 obtain ⟨h1, h2, h3, h4, ⟨h5, h6⟩, h7, h8⟩ := h
 have hk : 1 ≤ r.kind ∧ r.kind ≤ 2 := by rcases h4 with h4 | h4 <;> omega
 have hd := mw_dev h8
 rw [rcW, rangeW_mk]
 refine ⟨by omega, fun x hx => ?_⟩
 simp only [List.mem_cons, List.not_mem_nil, or_false] at hx
 rcases hx with rfl | rfl | rfl | rfl | rfl | rfl
 ·exact ⟨⟨by omega, by omega⟩, fun x hx => by cases hx⟩
 ·exact ⟨by omega, fun x hx => by cases hx⟩
 ·exact ⟨⟨by omega, by omega⟩, fun x hx => by cases hx⟩
 ·exact ⟨⟨by omega, by omega⟩, fun x hx => by cases hx⟩
 ·refine ⟨by omega, fun x hx => ?_⟩
  obtain ⟨w, hw, rfl⟩ := List.mem_map.1 hx
  have := hd w hw
  refine ⟨by omega, fun y hy => ?_⟩
  simp only [List.mem_cons, List.not_mem_nil, or_false] at hy
  rcases hy with rfl | rfl
  ·exact ⟨⟨by omega, by omega⟩, fun x hx => by cases hx⟩
  ·exact ⟨by omega, fun x hx => by cases hx⟩
 ·exact ⟨by omega, fun x hx => by cases hx⟩
theorem rc_got {r : Rc} (h : rcP r) : got (rcF r) = some (rcW r) := by rw [rcF_t h]; exact got_PutW (rc_may h) (rcW_rng h)
theorem rc_ne {r : Rc} (h : rcP r) : rcF r ≠ [] := by rw [rcF_t h]; exact PutW_ne (rc_may h)
theorem rc_of_ne {r : Rc} (h : rcF r ≠ []) : rcP r := by
 by_cases e : rcP r
 ·exact e
 ·exact absurd (rcF_f e) h
/-- What bytes say of a record. -/
def RG (s : List UInt8) : Option Rc := if s = [] ∨ rcF (rcOf ((got s).getD Wr.z)) ≠ s then none else some (rcOf ((got s).getD Wr.z))
theorem RG_some {s : List UInt8} {r : Rc} (h : RG s = some r) : s ≠ [] ∧ rcF r = s ∧ rcP r ∧ got s = some (rcW r) := by
 rw [RG] at h
 split at h
 ·cases h
 ·rename_i hn
  simp only [not_or, ne_eq, Decidable.not_not] at hn
  cases h
  have hp : rcP (rcOf ((got s).getD Wr.z)) := rc_of_ne (by rw [hn.2]; exact hn.1)
  refine ⟨hn.1, hn.2, hp, ?_⟩
  have := rc_got hp
  rwa [hn.2] at this
theorem RG_rc {r : Rc} (h : rcP r) : RG (rcF r) = some r := by
 rw [RG, rc_got h, Option.getD_some, rcOf_rcW, if_neg (by simp [rc_ne h])]
theorem RG_no {s : List UInt8} (h : got s = none) : RG s = none := by
 cases e : RG s with
 | none => rfl
 | some q => have := (RG_some e).2.2.2; rw [h] at this; cases this
theorem RG_no6 {s : List UInt8} {W : Wr} (h : got s = some W) (h6 : W.l.length ≠ 6) : RG s = none := by
 cases e : RG s with
 | none => rfl
 | some q => have := (RG_some e).2.2.2; rw [h] at this; cases this; exact absurd rfl h6
theorem RG_no2 {s : List UInt8} {W a b c d f g : Wr} (h : got s = some W) (hl : W.l = [a, b, c, d, f, g]) {i : Nat} (hi : i < f.l.length) (h2 : (f.l.getD i default).l.length ≠ 2) : RG s = none := by
 cases e : RG s with
 | none => rfl
 | some q =>
  have := (RG_some e).2.2.2
  rw [h] at this
  cases this
  have hl : [Wr.mk 1 q.seq [] [], .mk 2 0 q.prev [], .mk 1 q.kind [] [], .mk 1 q.dev [] [], .mk 3 0 [] (wpW q.wraps), .mk 2 0 q.tag []] = [a, b, c, d, f, g] := hl
  simp only [List.cons.injEq, and_true] at hl
  obtain ⟨_, _, _, _, rfl, _⟩ := hl
  rw [Wr.l_mk, wpW_len] at hi
  rw [Wr.l_mk] at h2
  have e2 : (wpW q.wraps).getD i default = .mk 3 0 [] [.mk 1 (q.wraps[i]).dev [] [], .mk 2 0 (q.wraps[i]).box []] := by
   simp [wpW, List.getD_eq_getElem?_getD, List.getElem?_map, List.getElem?_eq_getElem hi]
  rw [e2] at h2
  exact absurd rfl h2
theorem rc_s_ne {s : List UInt8} {W : Wr} (h : got s = some W) : s ≠ [] := fun e => by rw [e, got_nil] at h; cases h
theorem RG_y {s : List UInt8} {W : Wr} (h : got s = some W) (h2 : rcF (rcOf W) = s) : RG s = some (rcOf W) := by rw [RG, h, Option.getD_some, if_neg (by simp [h2, rc_s_ne h])]
theorem RG_n {s : List UInt8} {W : Wr} (h : got s = some W) (h2 : rcF (rcOf W) ≠ s) : RG s = none := by rw [RG, h, Option.getD_some, if_pos (.inr h2)]
theorem six_of {l : List Wr} (h : l.length = 6) : ∃ a b c d f g, l = [a, b, c, d, f, g] := by
 match l, h with
 | [a, b, c, d, f, g], _ => exact ⟨a, b, c, d, f, g, rfl⟩
theorem two_of {l : List Wr} (h : l.length = 2) : ∃ a b, l = [a, b] := by
 match l, h with
 | [a, b], _ => exact ⟨a, b, rfl⟩
theorem rcOf_six {W a b c d f g : Wr} (hl : W.l = [a, b, c, d, f, g]) : rcOf W = ⟨a.n, b.s, c.n, d.n, wpsOf f.l, g.s⟩ := by simp [rcOf, hl]
theorem eqin_wp (q r : Wp) (w : World) : (Op.equalIn 10000 37 (.agg #[.int .i64 q.dev, .string (S q.box)]) (.agg #[.int .i64 r.dev, .string (S r.box)])).run Tryz.prog w = .ok (decide (q = r)) w := by
 have hS : Tryz.prog.underlying 37 = some (.struct (Tryz.prog.fieldsOf 37)) := by kernel_rfl
 have hp : Tryz.prog.stoodInHeld 37 = false := by kernel_rfl
 have p0 : ∀ a b : Value, (Go.part 3 #[a, b] 0).run Tryz.prog w = .ok a w := fun a b => by kernel_rfl
 have p1 : ∀ a b : Value, (Go.part 9 #[a, b] 1).run Tryz.prog w = .ok b w := fun a b => by kernel_rfl
 have e3 : ∀ a b : Int, (Op.equalIn 9999 3 (.int .i64 a) (.int .i64 b)).run Tryz.prog w = .ok (a == b) w := fun a b => run_equalIn_int w 9998 3 .i64 .i64 a b Tryz.underlying3
 have e9 : ∀ a b : ByteArray, (Op.equalIn 9999 9 (.string a) (.string b)).run Tryz.prog w = .ok (a.toList == b.toList) w := fun a b => run_equalIn_string w 9998 9 a b Tryz.underlying9
 rw [show (10000 : Nat) = 9999 + 1 from rfl, run_equalIn_agg w 9999 37 _ _ hS hp]
 simp only [Program.fieldsOf, Tryz.underlying37]
 have hl : ∀ a : List UInt8, (S a).toList = a := fun a => by simp [S]
 have hi : (q = r) ↔ q.dev = r.dev ∧ q.box = r.box := by cases q; cases r; simp
 simp [Op.eqFields, p0, p1, e3, e9, Result.andThen, hl, hi]
 by_cases h1 : q.dev = r.dev <;> by_cases h2 : q.box = r.box <;> simp [h1, h2]
theorem ne_wp {q r : Wp} {b : Bool} (h : (!decide (q = r)) = b) (w : World) : (binOp .neq 37 (.agg #[.int .i64 q.dev, .string (S q.box)]) (.agg #[.int .i64 r.dev, .string (S r.box)])).run Tryz.prog w = .ok (.bool b) w := by
 rw [← h, run_neq_struct, eqin_wp]; rfl
theorem list_ext_getD {α : Type} [Inhabited α] {a b : List α} (hl : a.length = b.length) (h : ∀ i, i < a.length → a.getD i default = b.getD i default) : a = b := by
 apply List.ext_getElem hl
 intro i h1 h2
 have := h i h1
 simpa [List.getD_eq_getElem?_getD, List.getElem?_eq_getElem h1, List.getElem?_eq_getElem h2] using this
theorem rc_eq {a b : Rc} : (a = b) ↔ (a.seq = b.seq ∧ a.prev = b.prev ∧ a.kind = b.kind ∧ a.dev = b.dev ∧ a.tag = b.tag ∧ a.wraps = b.wraps) := by
 cases a; cases b; simp only [Rc.mk.injEq]; exact ⟨fun ⟨a, b, c, d, e, f⟩ => ⟨a, b, c, d, f, e⟩, fun ⟨a, b, c, d, e, f⟩ => ⟨a, b, c, d, f, e⟩⟩

end Go.Proofs.Tryz
