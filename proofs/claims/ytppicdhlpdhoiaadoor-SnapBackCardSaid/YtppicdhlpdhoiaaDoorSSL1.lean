/- Contracts of this program's functions. -/
import Derived.Test.YtppicdhlpdhoiaaDoorSSL0
set_option maxHeartbeats 4000000
set_option maxRecDepth 100000
set_option linter.unusedVariables false
set_option linter.unusedSimpArgs false
namespace Go.Proofs.Tryd
open Go Go.Ot
/-! ### ops -/
structure Opx where
 kind : Int
 key : List UInt8
 item : List UInt8
 n : Int
instance : Inhabited Opx := ⟨⟨0, [], [], 0⟩⟩
def opP (o : Opx) : Prop := 1 ≤ o.kind ∧ o.kind ≤ 5 ∧ o.key.length ≤ 40 ∧ o.item.length ≤ 200 ∧ -1099511627776 ≤ o.n ∧ o.n ≤ 1099511627776
/-- Does a fact go by an op of a device? -/
def goB (f : Ft) (dev : Int) (o : Opx) : Bool :=
 f.key == o.key && (if o.kind = 1 then decide (f.kind = 1) else if o.kind = 2 ∨ o.kind = 3 then decide (f.kind = 2) && f.item == o.item else if o.kind = 4 then decide (f.kind = 3) && decide (f.dev = dev) else true)
def goL (s : Sa) (dev : Int) (o : Opx) (i : Nat) : List Ft := (s.fs.take i).filter fun f => goB f dev o
theorem goL_yes {s : Sa} {dev : Int} {o : Opx} {i : Nat} (h : i < s.fs.length) (hg : goB (s.fs.getD i default) dev o = true) : goL s dev o (i + 1) = goL s dev o i ++ [s.fs.getD i default] := by
 rw [goL, List.take_add_one, List.getElem?_eq_getElem h, List.filter_append, goL, getD_eq h] at *
 simp [hg]
theorem goL_not {s : Sa} {dev : Int} {o : Opx} {i : Nat} (h : i < s.fs.length) (hg : goB (s.fs.getD i default) dev o = false) : goL s dev o (i + 1) = goL s dev o i := by
 rw [goL, List.take_add_one, List.getElem?_eq_getElem h, List.filter_append, goL, getD_eq h] at *
 simp [hg]
def dtOf (l : List Ft) : List (Int × Int) := l.map fun f => (f.dev, f.n)
def suOf (n : Int) (l : List Ft) : Int := l.foldl (fun a f => a + f.m) n
theorem suOf_app (n : Int) (l : List Ft) (f : Ft) : suOf n (l ++ [f]) = suOf n l + f.m := by rw [suOf, List.foldl_append]; rfl
theorem dtOf_app (l : List Ft) (f : Ft) : dtOf (l ++ [f]) = dtOf l ++ [(f.dev, f.n)] := by simp [dtOf]
/-- The greatest number of a device's dots. -/
def laS (dev n : Int) (r : Rn) : Int := if r.dev = dev then max n r.to else n
def laF (l : List Rn) (dev : Int) : Int := l.foldl (laS dev) 0
theorem laF_next {l : List Rn} {dev : Int} {i : Nat} (h : i < l.length) : laF (l.take (i + 1)) dev = laS dev (laF (l.take i) dev) (l.getD i default) := by
 rw [List.take_add_one, List.getElem?_eq_getElem h, laF, List.foldl_append, getD_eq h]; rfl
theorem laF_le {dev M : Int} : ∀ {l : List Rn} {n : Int}, n ≤ M → (∀ r ∈ l, r.to ≤ M) → n ≤ l.foldl (laS dev) n ∧ l.foldl (laS dev) n ≤ M
 | [], n, h, _ => ⟨Int.le_refl _, h⟩
 | r :: l, n, h, hl => by
  have h1 := hl r (by simp)
  have h2 : n ≤ laS dev n r ∧ laS dev n r ≤ M := by rw [laS]; split <;> omega
  have := laF_le (dev := dev) (l := l) h2.2 (fun s hs => hl s (by simp [hs]))
  rw [List.foldl_cons]
  exact ⟨by omega, this.2⟩
def newF (s : Sa) (dev : Int) (o : Opx) (l : List Ft) : Ft := if o.kind = 4 then ⟨dev, laF s.seen dev + 1, o.key, 3, [], suOf o.n l⟩ else ⟨dev, laF s.seen dev + 1, o.key, o.kind, o.item, 0⟩
def endF (s : Sa) (d : Sa) : Sa × Int := if 400 < (joF s d).fs.length then (⟨[], []⟩, 4) else (d, 0)
def doF (s : Sa) (dev : Int) (o : Opx) : Sa × Int :=
 let l := goL s dev o s.fs.length
 if o.kind = 3 ∨ o.kind = 5 then (if l = [] then (⟨[], []⟩, 2) else endF s ⟨ofF (dtOf l), []⟩)
 else (if (newF s dev o l).n > 4503599627370496 ∨ (newF s dev o l).m < -1099511627776 ∨ (newF s dev o l).m > 1099511627776 then (⟨[], []⟩, 4)
  else endF s ⟨ofF (dtOf l ++ [(dev, (newF s dev o l).n)]), [newF s dev o l]⟩)
theorem goL_in {s : Sa} {dev : Int} {o : Opx} {i : Nat} {f : Ft} (h : f ∈ goL s dev o i) : f ∈ s.fs := List.mem_of_mem_take (List.mem_filter.1 h).1
theorem inv_do {M : Nat} {s : Sa} (hs : inv M s) {dev : Int} (h0 : 0 ≤ dev) (h4 : dev < 4) {o : Opx} (ho : opP o) (he : (doF s dev o).2 = 0) : inv ((M + 1 : Nat) : Int) (doF s dev o).1 := by
 have hdt : ∀ i, ∀ d ∈ dtOf (goL s dev o i), d.1 < 4 ∧ d.2 ≤ ((M + 1 : Nat) : Int) := fun i d hd => by
  obtain ⟨f, hf, rfl⟩ := List.mem_map.1 hd
  have := has_in hs.1 hs.2 (hs.3 f (goL_in hf)).2
  exact ⟨this.2.1, by show f.n ≤ _; omega⟩
 rw [doF] at he ⊢
 have hend : ∀ d, inv ((M + 1 : Nat) : Int) d → (endF s d).2 = 0 → inv ((M + 1 : Nat) : Int) (endF s d).1 := fun d hd he => by
  rw [endF] at he ⊢
  split
  ·rename_i h; rw [if_pos h] at he; cases he
  ·exact hd
 have hin0 : inM ((M + 1 : Nat) : Int) [] := fun r h => by cases h
 split
 ·rename_i hk
  rw [if_pos hk] at he
  split
  ·rename_i h; rw [if_pos h] at he; cases he
  ·rename_i h
   rw [if_neg h] at he
   exact hend _ ⟨ofF_ok _ mrP_nil, ofF_in _ mrP_nil hin0 (hdt _), fun f hf => (by cases hf), List.Pairwise.nil⟩ he
 ·rename_i hk
  rw [if_neg hk] at he
  split
  ·rename_i h; rw [if_pos h] at he; cases he
  ·rename_i h
   rw [if_neg h] at he
   obtain ⟨o1, o2, o3, o4, o5, o6⟩ := ho
   have hla := laF_le (dev := dev) (l := s.seen) (n := 0) (M := (M : Int)) (by omega) (fun r hr => (hs.2 r hr).2)
   have hd : (newF s dev o (goL s dev o s.fs.length)).dev = dev := by rw [newF]; split <;> rfl
   have hn : (newF s dev o (goL s dev o s.fs.length)).n = laF s.seen dev + 1 := by rw [newF]; split <;> rfl
   have hp : ftP (newF s dev o (goL s dev o s.fs.length)) := by
    by_cases h4' : o.kind = 4
    ·simp only [newF, if_pos h4'] at h ⊢
     exact ⟨o3, .inr ⟨rfl, rfl, (show -1099511627776 ≤ suOf o.n (goL s dev o s.fs.length) from by omega), (show suOf o.n (goL s dev o s.fs.length) ≤ 1099511627776 from by omega)⟩⟩
    ·simp only [newF, if_neg h4'] at h ⊢
     exact ⟨o3, .inl ⟨by show o.kind = 1 ∨ o.kind = 2; omega, o4, rfl⟩⟩
   generalize newF s dev o (goL s dev o s.fs.length) = f at *
   have hla2 : laF s.seen dev = s.seen.foldl (laS dev) 0 := rfl
   have hr : rnP (dtR (dev, f.n)) := ⟨h0, by show dev < 8; omega, by show 1 ≤ f.n; omega, Int.le_refl _, by show f.n ≤ 4503599627370496; omega⟩
   refine hend _ ⟨ofF_ok _ mrP_nil, ofF_in _ mrP_nil hin0 (fun d hd' => ?_), fun g hg => ?_, List.pairwise_singleton _ _⟩ he
   ·rcases List.mem_append.1 hd' with h1 | h1
    ·exact hdt _ d h1
    ·obtain rfl := List.mem_singleton.1 h1
     exact ⟨h4, by show f.n ≤ _; omega⟩
   ·obtain rfl := List.mem_singleton.1 hg
    refine ⟨hp, ?_⟩
    have := ofF_has hr (dtOf (goL s dev o s.fs.length) ++ [(dev, g.n)]) mrP_nil (by simp)
    rw [hd]; exact this
/-! ### states by numbers -/
def opN (a b : UInt8) : Opx := ⟨1 + (a.toNat % 5 : Nat), [UInt8.ofInt 107 + UInt8.ofInt ((a.toNat : Int) / 5 % 3)], [UInt8.ofInt 97 + UInt8.ofInt ((b.toNat : Int) % 5)], b.toNat - 100⟩
theorem opN_ok (a b : UInt8) : opP (opN a b) := by
 have := UInt8.toNat_lt b
 refine ⟨?_, ?_, ?_, ?_, ?_, ?_⟩ <;> simp [opN] <;> omega
def joS (s : Sa) (x : Sa × Int) : Sa := if x.2 = 0 then joF s x.1 else s
def mkN (ns : List UInt8) : Nat → Sa
 | 0 => ⟨[], []⟩
 | k + 1 => joS (mkN ns k) (doF (mkN ns k) ((ns.getD (2 * k) 0).toNat / 16 % 4 : Nat) (opN (ns.getD (2 * k) 0) (ns.getD (2 * k + 1) 0)))
def makF (ns : List UInt8) : Sa := mkN ns (min 40 (ns.length / 2))
theorem inv_joS {M : Nat} {s : Sa} (hs : inv M s) {dev : Int} (h0 : 0 ≤ dev) (h4 : dev < 4) {o : Opx} (ho : opP o) : inv ((M + 1 : Nat) : Int) (joS s (doF s dev o)) := by
 rw [joS]; split
 ·rename_i h; exact inv_join (inv_mono (by omega) hs) (inv_do hs h0 h4 ho h)
 ·exact inv_mono (by omega) hs
theorem inv_mkN (ns : List UInt8) : ∀ k : Nat, inv (k : Int) (mkN ns k)
 | 0 => inv_nil _
 | k + 1 => inv_joS (inv_mkN ns k) (by omega) (by omega) (opN_ok _ _)
theorem inv_makF (ns : List UInt8) : inv ((40 : Nat) : Int) (makF ns) := inv_mono (by omega) (inv_mkN ns (min 40 (ns.length / 2)))
def apS (l : List Sa) (a b c : UInt8) : List Sa :=
 if 160 ≤ a.toNat then l.set (a.toNat % 4) (joF (l.getD (a.toNat % 4) default) (l.getD (b.toNat % 4) default))
 else if (doF (l.getD (a.toNat % 4) default) (a.toNat % 4 : Nat) (opN b c)).2 = 0 then l.set (a.toNat % 4) (joF (l.getD (a.toNat % 4) default) (doF (l.getD (a.toNat % 4) default) (a.toNat % 4 : Nat) (opN b c)).1) else l
def apK (ns : List UInt8) : Nat → List Sa
 | 0 => List.replicate 4 ⟨[], []⟩
 | k + 1 => apS (apK ns k) (ns.getD (3 * k) 0) (ns.getD (3 * k + 1) 0) (ns.getD (3 * k + 2) 0)
def apF (ns : List UInt8) : List Sa := apK ns (min 40 (ns.length / 3))
theorem apS_ok {M : Nat} {l : List Sa} (h : l.length = 4 ∧ ∀ s ∈ l, inv (M : Int) s) (a b c : UInt8) : (apS l a b c).length = 4 ∧ ∀ s ∈ apS l a b c, inv ((M + 1 : Nat) : Int) s := by
 have hg : ∀ i, i < 4 → inv (M : Int) (l.getD i default) := fun i hi => by rw [getD_eq (by omega)]; exact h.2 _ (List.getElem_mem _)
 have h0 : ∀ s ∈ l, inv ((M + 1 : Nat) : Int) s := fun s hs => inv_mono (by omega) (h.2 s hs)
 have hset : ∀ i x, inv ((M + 1 : Nat) : Int) x → (l.set i x).length = 4 ∧ ∀ s ∈ l.set i x, inv ((M + 1 : Nat) : Int) s := fun i x hx => ⟨by simp [h.1], fun s hs => by
  rcases List.mem_or_eq_of_mem_set hs with h1 | rfl
  ·exact h0 s h1
  ·exact hx⟩
 have d4 : ∀ x : UInt8, x.toNat % 4 < 4 := fun x => by omega
 rw [apS]
 split
 ·exact hset _ _ (inv_mono (by omega) (inv_join (hg _ (d4 a)) (hg _ (d4 b))))
 ·split
  ·rename_i he
   exact hset _ _ (inv_join (inv_mono (by omega) (hg _ (d4 a))) (inv_do (hg _ (d4 a)) (by omega) (by omega) (opN_ok _ _) he))
  ·exact ⟨h.1, h0⟩
theorem apK_ok (ns : List UInt8) : ∀ k : Nat, (apK ns k).length = 4 ∧ ∀ s ∈ apK ns k, inv (k : Int) s
 | 0 => ⟨rfl, fun s hs => by rw [List.eq_of_mem_replicate hs]; exact inv_nil _⟩
 | k + 1 => apS_ok (apK_ok ns k) _ _ _
def allF (l : List Sa) : Sa := l.foldl joF ⟨[], []⟩
theorem allF_next {l : List Sa} {i : Nat} (h : i < l.length) : allF (l.take (i + 1)) = joF (allF (l.take i)) (l.getD i default) := by
 rw [List.take_add_one, List.getElem?_eq_getElem h, allF, List.foldl_append, getD_eq h]; rfl
theorem inv_all {M : Int} : ∀ (l : List Sa) {s : Sa}, inv M s → (∀ t ∈ l, inv M t) → inv M (l.foldl joF s)
 | [], _, h, _ => h
 | t :: l, _, h, hl => inv_all l (inv_join h (hl t (by simp))) (fun u hu => hl u (by simp [hu]))
theorem inv_apF (ns : List UInt8) : inv ((40 : Nat) : Int) (allF (apF ns)) := inv_all _ (inv_nil _) fun s hs => inv_mono (by omega) ((apK_ok ns (min 40 (ns.length / 3))).2 s hs)

end Go.Proofs.Tryd
