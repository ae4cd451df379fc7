/- Contracts of this program's functions. -/
import Derived.Test.YtkdmgjjcjjeopaaDoorSL0
set_option maxHeartbeats 4000000
set_option maxRecDepth 100000
set_option linter.unusedVariables false
set_option linter.unusedSimpArgs false
namespace Go.Proofs.Tryd
open Go Go.Ot

def kid (ns : List UInt8) (n j : Nat) : List UInt8 := (ns.take (min ns.length (j + 1 + n / 15 % 5 + 1))).drop (j + 1)
def makeN (s : List UInt8) : Nat → List UInt8 → Wr
  | 0, _ => Wr.z
  | f + 1, ns => if ns.length = 0 then .mk 3 0 [] []
    else if (ns.getD 0 0).toNat % 3 = 0 then .mk 1 ((((ns.getD 0 0).toNat : Int) - 100) * (ns.getD 0 0).toNat * (ns.getD 0 0).toNat * 65537) [] []
    else if (ns.getD 0 0).toNat % 3 = 1 then .mk 2 0 (s.take (min s.length ((ns.getD 0 0).toNat / 3))) []
    else .mk 3 0 [] ((List.range (min (ns.length - 1) ((ns.getD 0 0).toNat / 3 % 5))).map fun j => makeN s f (kid ns (ns.getD 0 0).toNat j))
def kids (s : List UInt8) (f : Nat) (ns : List UInt8) (i : Nat) : List Wr := (List.range i).map fun j => makeN s f (kid ns (ns.getD 0 0).toNat j)
theorem kids_zero (s : List UInt8) (f : Nat) (ns : List UInt8) : kids s f ns 0 = [] := rfl
@[push_cast] theorem kids_len (s : List UInt8) (f : Nat) (ns : List UInt8) (i : Nat) : (kids s f ns i).length = i := by simp [kids]
theorem kids_next (s : List UInt8) (f : Nat) (ns : List UInt8) (i : Nat) : kids s f ns (i + 1) = kids s f ns i ++ [makeN s f (kid ns (ns.getD 0 0).toNat i)] := by simp [kids, List.range_succ]
theorem make_nil (s : List UInt8) (f : Nat) {ns : List UInt8} (h0 : ns.length = 0) : makeN s (f + 1) ns = .mk 3 0 [] [] := by rw [makeN, if_pos h0]
theorem make_0 {s : List UInt8} {f : Nat} {ns : List UInt8} {a : Nat} (ha : (ns.getD 0 0).toNat = a) (h0 : 0 < ns.length) (h : a % 3 = 0) : makeN s (f + 1) ns = .mk 1 (((a : Int) - 100) * a * a * 65537) [] [] := by rw [makeN, if_neg (by omega), ha, if_pos h]
theorem make_1 {s : List UInt8} {f : Nat} {ns : List UInt8} {a : Nat} (ha : (ns.getD 0 0).toNat = a) (h0 : 0 < ns.length) (h : a % 3 = 1) : makeN s (f + 1) ns = .mk 2 0 (s.take (min s.length (a / 3))) [] := by rw [makeN, if_neg (by omega), ha, if_neg (by omega), if_pos h]
theorem make_2 {s : List UInt8} {f : Nat} {ns : List UInt8} {a : Nat} (ha : (ns.getD 0 0).toNat = a) (h0 : 0 < ns.length) (h : a % 3 = 2) : makeN s (f + 1) ns = .mk 3 0 [] (kids s f ns (min (ns.length - 1) (a / 3 % 5))) := by rw [makeN, if_neg (by omega), ha, if_neg (by omega), if_neg (by omega), kids, ha]
theorem kid_T (ns : List UInt8) (n i : Nat) : T.sl (min ns.length (i + 1 + n / 15 % 5 + 1) - (i + 1)) ((((ns.drop (i + 1)).take (min ns.length (i + 1 + n / 15 % 5 + 1) - (i + 1))).map w8)) = T.sl (kid ns n i).length ((kid ns n i).map w8) := by
  have e : (ns.drop (i + 1)).take (min ns.length (i + 1 + n / 15 % 5 + 1) - (i + 1)) = kid ns n i := by rw [kid, List.drop_take]
  rw [e]
  congr 1
  simp only [kid, List.length_drop, List.length_take]; omega
@[push_cast] theorem cls_headZ {α : Type} {f : α → T} {l : List α} [Inhabited α] (h : 0 < l.length) : ((l.map f).map D.t).headD .bad = .t (f (l.getD 0 default)) := by
  have := cls_head (f := f) (l := l) (i := 0) h
  rwa [List.drop_zero] at this
theorem kid_len {ns : List UInt8} {n j : Nat} : (kid ns n j).length ≤ 5 ∧ (kid ns n j).length ≤ ns.length - 1 := by
  simp only [kid, List.length_drop, List.length_take]
  have : n / 15 % 5 < 5 := Nat.mod_lt _ (by omega)
  omega
def bnd : Nat → Nat
  | 0 => 1 | 1 => 1 | 2 => 2 | 3 => 5 | 4 => 16 | 5 => 65 | _ => 261
theorem bnd_mono : ∀ b, b ≤ 5 → ∀ a, a ≤ b → bnd a ≤ bnd b := by decide
theorem bnd_step (r : Nat) : 1 + min 4 r * bnd (min 5 r) ≤ bnd (r + 1) := by
  match r with
  | 0 | 1 | 2 | 3 | 4 => decide
  | r + 5 => simp [bnd, show min 4 (r + 5) = 4 from by omega, show min 5 (r + 5) = 5 from by omega]
theorem bnd_le (n : Nat) : bnd n ≤ 261 := by
  match n with
  | 0 | 1 | 2 | 3 | 4 | 5 => decide
  | n + 6 => exact Nat.le_refl _
theorem szL_map {f : Nat → Wr} {B : Nat} : ∀ (l : List Nat), (∀ j ∈ l, (f j).sz ≤ B) → Wr.szL (l.map f) ≤ l.length * B
  | [], _ => by simp [Wr.szL]
  | j :: l, h => by
    have h1 := h j (by simp)
    have h2 := szL_map l (fun j hj => h j (by simp [hj]))
    simp only [List.map_cons, Wr.szL, List.length_cons, Nat.succ_mul]
    omega
theorem bnd_pos (n : Nat) : 1 ≤ bnd n := by
  match n with
  | 0 | 1 | 2 | 3 | 4 | 5 => decide
  | n + 6 => show 1 ≤ 261; decide
theorem make_sz (s : List UInt8) : ∀ (f : Nat) (ns : List UInt8), (makeN s f ns).sz ≤ bnd ns.length
  | 0, ns => bnd_pos _
  | f + 1, ns => by
    have hp := bnd_pos ns.length
    rcases Nat.eq_zero_or_pos ns.length with h0 | h0
    · rw [make_nil s f h0]; simpa [Wr.sz, Wr.szL] using hp
    · obtain ⟨a, ha⟩ : ∃ a, (ns.getD 0 0).toNat = a := ⟨_, rfl⟩
      have h3 : a % 3 = 0 ∨ a % 3 = 1 ∨ a % 3 = 2 := by omega
      rcases h3 with h | h | h
      · rw [make_0 ha h0 h]; simpa [Wr.sz, Wr.szL] using hp
      · rw [make_1 ha h0 h]; simpa [Wr.sz, Wr.szL] using hp
      · rw [make_2 ha h0 h]
        have hk := szL_map (f := fun j => makeN s f (kid ns (ns.getD 0 0).toNat j)) (B := bnd (min 5 (ns.length - 1))) (List.range (min (ns.length - 1) (a / 3 % 5))) (fun j _ => by
          have h1 := make_sz s f (kid ns (ns.getD 0 0).toNat j)
          have h2 := kid_len (ns := ns) (n := (ns.getD 0 0).toNat) (j := j)
          exact Nat.le_trans h1 (bnd_mono _ (by omega) _ (by omega)))
        have hs := bnd_step (ns.length - 1)
        rw [show ns.length - 1 + 1 = ns.length from by omega] at hs
        rw [List.length_range] at hk
        have hm : min (ns.length - 1) (a / 3 % 5) * bnd (min 5 (ns.length - 1)) ≤ min 4 (ns.length - 1) * bnd (min 5 (ns.length - 1)) := Nat.mul_le_mul_right _ (by have : a / 3 % 5 < 5 := Nat.mod_lt _ (by omega); omega)
        simp only [Wr.sz, kids]
        omega
theorem make_put {s : List UInt8} (hs : s.length ≤ 80) : ∀ (f : Nat) (ns : List UInt8) (d : Nat), (putW d (makeN s f ns)).length ≤ 100 * (makeN s f ns).sz
  | 0, ns, d => by
    have h0 : ∀ (sub : Wr → List UInt8), (putS sub Wr.z).length ≤ 100 * Wr.z.sz := fun sub => putS_len (by omega) _ (by rw [Wr.z_eq, Wr.s_mk]; simp) (fun x hx => by rw [Wr.z_eq, Wr.l_mk] at hx; cases hx)
    cases d with
    | zero => exact h0 _
    | succ d => exact h0 _
  | f + 1, ns, d => by
    have key : ∀ sub : Wr → List UInt8, (∀ j, (sub (makeN s f (kid ns (ns.getD 0 0).toNat j))).length ≤ 100 * (makeN s f (kid ns (ns.getD 0 0).toNat j)).sz) → (putS sub (makeN s (f + 1) ns)).length ≤ 100 * (makeN s (f + 1) ns).sz := by
      intro sub hsub
      rcases Nat.eq_zero_or_pos ns.length with h0 | h0
      · rw [make_nil s f h0]; exact putS_len (by omega) _ (by rw [Wr.s_mk]; simp) (fun x hx => by rw [Wr.l_mk] at hx; cases hx)
      · obtain ⟨a, ha⟩ : ∃ a, (ns.getD 0 0).toNat = a := ⟨_, rfl⟩
        have h3 : a % 3 = 0 ∨ a % 3 = 1 ∨ a % 3 = 2 := by omega
        rcases h3 with h | h | h
        · rw [make_0 ha h0 h]; exact putS_len (by omega) _ (by rw [Wr.s_mk]; simp) (fun x hx => by rw [Wr.l_mk] at hx; cases hx)
        · rw [make_1 ha h0 h]; exact putS_len (by omega) _ (by rw [Wr.s_mk, List.length_take]; omega) (fun x hx => by rw [Wr.l_mk] at hx; cases hx)
        · rw [make_2 ha h0 h]
          refine putS_len (by omega) _ (by rw [Wr.s_mk]; simp) (fun x hx => ?_)
          rw [Wr.l_mk, kids, List.mem_map] at hx
          obtain ⟨j, _, rfl⟩ := hx
          exact hsub j
    cases d with
    | zero => exact key _ (fun j => by simp)
    | succ d => exact key _ (fun j => make_put hs f _ d)
theorem make_num : ∀ n : Nat, n < 256 → -9223372036854775808 ≤ ((n : Int) - 100) * n * n * 65537 ∧ ((n : Int) - 100) * n * n * 65537 ≤ 9223372036854775807 ∧ -1000000000 ≤ ((n : Int) - 100) * n ∧ ((n : Int) - 100) * n ≤ 1000000000 ∧ -1000000000 ≤ ((n : Int) - 100) * n * n ∧ ((n : Int) - 100) * n * n ≤ 1000000000 := by decide +kernel
theorem make_rng (s : List UInt8) : ∀ (f : Nat) (ns : List UInt8) (d : Nat), rangeW d (makeN s f ns)
  | 0, ns, d => by cases d <;> simp [rangeW, rangeS, makeN, Wr.z_eq]
  | f + 1, ns, d => by
    have key : ∀ sub : Wr → Prop, (∀ j, sub (makeN s f (kid ns (ns.getD 0 0).toNat j))) → rangeS sub (makeN s (f + 1) ns) := by
      intro sub hsub
      rcases Nat.eq_zero_or_pos ns.length with h0 | h0
      · rw [make_nil s f h0]; simp [rangeS]
      · obtain ⟨a, ha⟩ : ∃ a, (ns.getD 0 0).toNat = a := ⟨_, rfl⟩
        have h3 : a % 3 = 0 ∨ a % 3 = 1 ∨ a % 3 = 2 := by omega
        rcases h3 with h | h | h
        · rw [make_0 ha h0 h]
          have := make_num a (by rw [← ha]; exact UInt8.toNat_lt _)
          exact ⟨⟨this.1, this.2.1⟩, fun x hx => by cases hx⟩
        · rw [make_1 ha h0 h]; simp [rangeS]
        · rw [make_2 ha h0 h]
          refine ⟨by omega, fun x hx => ?_⟩
          rw [kids, List.mem_map] at hx
          obtain ⟨j, _, rfl⟩ := hx
          exact hsub j
    cases d with
    | zero => exact key _ (fun j => trivial)
    | succ d => exact key _ (fun j => make_rng s f _ d)
theorem make_small {s : List UInt8} (hs : s.length ≤ 80) (f : Nat) (ns : List UInt8) : (makeN s f ns).sz ≤ 261 ∧ (putW 6 (makeN s f ns)).length ≤ 26100 := by
  have h1 := make_sz s f ns
  have h2 := bnd_le ns.length
  have h3 := make_put hs f ns 6
  omega
theorem PutW_ne {w : Wr} (h : mayW 6 w = true) : PutW w ≠ [] := by
  intro e
  rw [PutW_t h] at e
  have := may_sz 6 w h
  have hp := w.sz_pos
  rw [e] at this
  simp at this; omega
theorem set_ne {l : List UInt8} {i : Nat} {b : UInt8} (hi : i < l.length) (hb : b ≠ 0) : l.set i (l.getD i 0 ^^^ b) ≠ l := by
  intro e
  have h1 : (l.set i (l.getD i 0 ^^^ b))[i]? = l[i]? := by rw [e]
  rw [List.getElem?_set_self hi, List.getElem?_eq_getElem hi] at h1
  have h2 : l.getD i 0 = l[i] := by simp [List.getD_eq_getElem?_getD, List.getElem?_eq_getElem hi]
  rw [h2] at h1
  have h3 : l[i] ^^^ b = l[i] := Option.some.inj h1
  exact hb (by
    have : l[i] ^^^ (l[i] ^^^ b) = l[i] ^^^ l[i] := by rw [h3]
    rwa [← UInt8.xor_assoc, UInt8.xor_self, UInt8.zero_xor] at this)
theorem got_more {w : Wr} {m : UInt8} (h : mayW 6 w = true) (hr : rangeW 6 w) : got (PutW w ++ [m]) = none := by
  rw [PutW_t h]
  have := getW_put 6 w [m] h hr
  exact got_2 this
theorem got_turn {w : Wr} {i : Nat} {b : UInt8} {y : Wr} (h : mayW 6 w = true) (hr : rangeW 6 w) (hi : i < (PutW w).length) (hb : b ≠ 0) (hy : got ((PutW w).set i ((PutW w).getD i 0 ^^^ b)) = some y) : sameW y w = false := by
  refine sameW_comm_false (fun e => ?_)
  subst e
  exact set_ne hi hb (got_inj hy (got_PutW h hr))

end Go.Proofs.Tryd
