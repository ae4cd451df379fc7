/- Contracts of this program's functions. -/
import Derived.Test.YtppicdhlpdhoiaaDoorSSN4
set_option maxHeartbeats 4000000
set_option maxRecDepth 100000
set_option linter.unusedVariables false
set_option linter.unusedSimpArgs false
namespace Go.Proofs.Tryd
open Go Go.Ot
/-! ### runs, as they should stand -/
theorem getD_eq {α : Type} [Inhabited α] {l : List α} {i : Nat} (h : i < l.length) : l.getD i default = l[i] := by simp [List.getD_eq_getElem?_getD, List.getElem?_eq_getElem h]
def mrP (l : List Rn) : Prop := (∀ r ∈ l, rnP r) ∧ l.Pairwise nextP
theorem nextP_trans {p q r : Rn} (hq : rnP q) (h1 : nextP p q) (h2 : nextP q r) : nextP p r := by
 obtain ⟨_, _, _, q4, _⟩ := hq
 obtain ⟨a1, a2⟩ := h1
 obtain ⟨b1, b2⟩ := h2
 refine ⟨by omega, fun h => ?_⟩
 have := a2 (by omega)
 have := b2 (by omega)
 omega
theorem mrP_of {l : List Rn} (h : mrB l = true) : mrP l := by
 have hok := fun i (hi : i < l.length) => mrB_get h hi
 have hp : ∀ r ∈ l, rnP r := fun r hr => by
  obtain ⟨i, hi, rfl⟩ := List.mem_iff_getElem.1 hr
  have := (hok i hi).1
  rwa [getD_eq hi] at this
 refine ⟨hp, List.pairwise_iff_getElem.2 fun i j hi hj hij => ?_⟩
 have key : ∀ n, ∀ hn : i + 1 + n < l.length, nextP l[i] l[i + 1 + n] := by
  intro n
  induction n with
  | zero =>
   intro hn
   have := (hok (i + 1) hn).2 (by omega)
   rwa [Nat.add_sub_cancel, getD_eq hi, getD_eq hn] at this
  | succ n ih =>
   intro hn
   have h1 := ih (by omega)
   have h2 := (hok (i + 1 + n + 1) hn).2 (by omega)
   rw [Nat.add_sub_cancel, getD_eq (show i + 1 + n < l.length by omega), getD_eq (show i + 1 + n + 1 < l.length from hn)] at h2
   exact nextP_trans (hp _ (List.getElem_mem _)) h1 h2
 have := key (j - i - 1) (by omega)
 simpa [show i + 1 + (j - i - 1) = j from by omega] using this
theorem mrB_of {l : List Rn} (h : mrP l) : mrB l = true := mrB_yes fun i hi => by
 refine ⟨by rw [getD_eq hi]; exact h.1 _ (List.getElem_mem _), fun h0 => ?_⟩
 rw [getD_eq hi, getD_eq (show i - 1 < l.length by omega)]
 exact List.pairwise_iff_getElem.1 h.2 (i - 1) i (by omega) hi (by omega)
theorem hasB_iff {l : List Rn} {d n : Int} : hasB l d n = true ↔ ∃ r ∈ l, r.dev = d ∧ r.fr ≤ n ∧ n ≤ r.to := by
 simp [hasB, inRn, List.any_eq_true]
/-! ### marks -/
def ins (n : Int) : List Int → List Int
 | [] => [n]
 | a :: l => if a < n then a :: ins n l else if a = n then a :: l else n :: a :: l
theorem mem_ins {n x : Int} : ∀ {l : List Int}, x ∈ ins n l ↔ x = n ∨ x ∈ l
 | [] => by simp [ins]
 | a :: l => by
  have ih := @mem_ins n x l
  rw [ins]
  split
  ·simp only [List.mem_cons, ih]; exact ⟨fun h => by rcases h with h | h | h <;> simp [h], fun h => by rcases h with h | h | h <;> simp [h]⟩
  ·split
   ·rename_i h; subst h; simp
   ·simp
def up (l : List Int) : Prop := l.Pairwise (· < ·)
theorem up_ins {n : Int} : ∀ {l : List Int}, up l → up (ins n l)
 | [], _ => List.pairwise_singleton _ _
 | a :: l, h => by
  have h' := List.pairwise_cons.1 h
  rw [ins]
  split
  ·refine List.pairwise_cons.2 ⟨fun x hx => ?_, up_ins h'.2⟩
   rcases mem_ins.1 hx with rfl | hx
   ·assumption
   ·exact h'.1 x hx
  ·split
   ·exact h
   ·refine List.pairwise_cons.2 ⟨fun x hx => ?_, h⟩
    rcases List.mem_cons.1 hx with rfl | hx
    ·omega
    ·have := h'.1 x hx; omega
theorem ins_app {n : Int} : ∀ {p q : List Int}, (∀ x ∈ p, x < n) → ins n (p ++ q) = p ++ ins n q
 | [], _, _ => rfl
 | a :: p, q, h => by
  rw [List.cons_append, ins, if_pos (h a (by simp)), ins_app (fun x hx => h x (by simp [hx]))]; rfl
theorem ins_eq {n : Int} {q : List Int} : ins n (n :: q) = n :: q := by rw [ins, if_neg (by omega), if_pos rfl]
theorem ins_lt {n a : Int} {q : List Int} (h : n < a) : ins n (a :: q) = n :: a :: q := by rw [ins, if_neg (by omega), if_neg (by omega)]
def mkS (d : Int) (m : List Int) (r : Rn) : List Int := if r.dev = d then ins (r.to + 1) (ins r.fr m) else m
def mkF (d : Int) (l : List Rn) (m : List Int) : List Int := l.foldl (mkS d) m
theorem mkF_next {d : Int} {l : List Rn} {m : List Int} {i : Nat} (h : i < l.length) : mkF d (l.take (i + 1)) m = mkS d (mkF d (l.take i) m) (l.getD i default) := by
 rw [List.take_add_one, List.getElem?_eq_getElem h, mkF, List.foldl_append, getD_eq h]; rfl
theorem mkF_up {d : Int} : ∀ {l : List Rn} {m : List Int}, up m → up (mkF d l m)
 | [], _, h => h
 | r :: l, m, h => by
  refine mkF_up (l := l) (m := mkS d m r) ?_
  rw [mkS]; split
  ·exact up_ins (up_ins h)
  ·exact h
theorem mem_mkF {d x : Int} : ∀ {l : List Rn} {m : List Int}, x ∈ mkF d l m ↔ x ∈ m ∨ ∃ r ∈ l, r.dev = d ∧ (x = r.fr ∨ x = r.to + 1)
 | [], m => by simp [mkF]
 | r :: l, m => by
  rw [show mkF d (r :: l) m = mkF d l (mkS d m r) from rfl, mem_mkF, mkS]
  split
  ·rename_i h
   rw [mem_ins, mem_ins]
   constructor
   ·rintro ((h1 | h1 | h1) | ⟨s, hs, h1⟩)
    ·exact .inr ⟨r, by simp, h, .inr h1⟩
    ·exact .inr ⟨r, by simp, h, .inl h1⟩
    ·exact .inl h1
    ·exact .inr ⟨s, by simp [hs], h1⟩
   ·rintro (h1 | ⟨s, hs, h1, h2⟩)
    ·exact .inl (.inr (.inr h1))
    ·rcases List.mem_cons.1 hs with rfl | hs
     ·rcases h2 with h2 | h2
      ·exact .inl (.inr (.inl h2))
      ·exact .inl (.inl h2)
     ·exact .inr ⟨s, hs, h1, h2⟩
  ·rename_i h
   constructor
   ·rintro (h1 | ⟨s, hs, h1⟩)
    ·exact .inl h1
    ·exact .inr ⟨s, by simp [hs], h1⟩
   ·rintro (h1 | ⟨s, hs, h1, h2⟩)
    ·exact .inl h1
    ·rcases List.mem_cons.1 hs with rfl | hs
     ·exact absurd h1 h
     ·exact .inr ⟨s, hs, h1, h2⟩
/-! ### what either has, of one device -/
def stepO (d : Int) (p : Int → Bool) (o : List Rn) (a b : Int) : List Rn :=
 if p a = false then o else if 0 < o.length ∧ (o.getD (o.length - 1) default).to = a - 1 then o.set (o.length - 1) ⟨(o.getD (o.length - 1) default).dev, (o.getD (o.length - 1) default).fr, b - 1⟩ else o ++ [⟨d, a, b - 1⟩]
theorem stepO_no {d : Int} {p : Int → Bool} {o : List Rn} {a b : Int} (h : p a = false) : stepO d p o a b = o := if_pos h
theorem stepO_set {d : Int} {p : Int → Bool} {o : List Rn} {a b : Int} (h : p a = true) (h0 : 0 < o.length) (h1 : (o.getD (o.length - 1) default).to = a - 1) : stepO d p o a b = o.set (o.length - 1) ⟨(o.getD (o.length - 1) default).dev, (o.getD (o.length - 1) default).fr, b - 1⟩ := by rw [stepO, if_neg (by simp [h]), if_pos ⟨h0, h1⟩]
theorem stepO_app {d : Int} {p : Int → Bool} {o : List Rn} {a b : Int} (h : p a = true) (h1 : ¬ (0 < o.length ∧ (o.getD (o.length - 1) default).to = a - 1)) : stepO d p o a b = o ++ [⟨d, a, b - 1⟩] := by rw [stepO, if_neg (by simp [h]), if_neg h1]
def outS (d : Int) (p : Int → Bool) (m : List Int) : Nat → List Rn
 | 0 => []
 | i + 1 => stepO d p (outS d p m i) (m.getD i 0) (m.getD (i + 1) 0)
def both (a b : List Rn) (d n : Int) : Bool := hasB a d n || hasB b d n
def mkM (d : Int) (a b : List Rn) : List Int := mkF d b (mkF d a [])
def mixF (d : Int) (a b : List Rn) : List Rn := outS d (both a b d) (mkM d a b) ((mkM d a b).length - 1)
theorem mkM_up (d : Int) (a b : List Rn) : up (mkM d a b) := mkF_up (mkF_up List.Pairwise.nil)
theorem mem_mkM {d x : Int} {a b : List Rn} : x ∈ mkM d a b ↔ ∃ r, (r ∈ a ∨ r ∈ b) ∧ r.dev = d ∧ (x = r.fr ∨ x = r.to + 1) := by
 rw [mkM, mem_mkF, mem_mkF]
 constructor
 ·rintro ((h | ⟨r, h, h1⟩) | ⟨r, h, h1⟩)
  ·cases h
  ·exact ⟨r, .inl h, h1⟩
  ·exact ⟨r, .inr h, h1⟩
 ·rintro ⟨r, h | h, h1⟩
  ·exact .inl (.inr ⟨r, h, h1⟩)
  ·exact .inr ⟨r, h, h1⟩
/-- What is drawn up to a mark. -/
structure OutOk (d : Int) (m : List Int) (e : Int) (o : List Rn) : Prop where
 runs : ∀ r ∈ o, r.dev = d ∧ r.fr ∈ m ∧ r.fr ≤ r.to ∧ r.to + 1 ∈ m ∧ r.to < e
 pw : o.Pairwise nextP
theorem getD0 {l : List Int} {i : Nat} (h : i < l.length) : l.getD i 0 = l[i] := by simp [List.getD_eq_getElem?_getD, List.getElem?_eq_getElem h]
theorem up_get {m : List Int} (h : up m) {i j : Nat} (hij : i < j) (hj : j < m.length) : m.getD i 0 < m.getD j 0 := by
 rw [getD0 hj, getD0 (show i < m.length by omega)]
 exact List.pairwise_iff_getElem.1 h i j (by omega) hj hij
theorem last_split {o : List Rn} (h : 0 < o.length) : ∃ q, o = q ++ [o.getD (o.length - 1) default] := by
 refine ⟨o.take (o.length - 1), ?_⟩
 rw [getD_eq (show o.length - 1 < o.length by omega)]
 have := List.take_append_getElem (l := o) (i := o.length - 1) (by omega)
 rw [show o.length - 1 + 1 = o.length from by omega, List.take_of_length_le (Nat.le_refl _)] at this
 exact this.symm
theorem outS_ok {d : Int} {p : Int → Bool} {m : List Int} (hm : up m) : ∀ {i : Nat}, i < m.length → OutOk d m (m.getD i 0) (outS d p m i)
 | 0, _ => ⟨fun r hr => (by cases hr), List.Pairwise.nil⟩
 | i + 1, hi => by
  have ih := outS_ok (d := d) (p := p) hm (i := i) (by omega)
  have hlt := up_get hm (Nat.lt_succ_self i) hi
  have ma : m.getD i 0 ∈ m := by rw [getD0 (show i < m.length by omega)]; exact List.getElem_mem _
  have mb : m.getD (i + 1) 0 ∈ m := by rw [getD0 hi]; exact List.getElem_mem _
  rw [outS]
  generalize m.getD i 0 = a at *
  generalize m.getD (i + 1) 0 = b at *
  generalize outS d p m i = o at *
  rcases hp : p a with _ | _
  ·rw [stepO_no hp]
   exact ⟨fun r hr => by have := ih.runs r hr; exact ⟨this.1, this.2.1, this.2.2.1, this.2.2.2.1, by have := this.2.2.2.2; omega⟩, ih.pw⟩
  ·by_cases h2 : 0 < o.length ∧ (o.getD (o.length - 1) default).to = a - 1
   ·rw [stepO_set hp h2.1 h2.2]
    obtain ⟨q, hq⟩ := last_split h2.1
    generalize o.getD (o.length - 1) default = s at *
    subst hq
    rw [show (q ++ [s]).length - 1 = q.length from by simp, List.set_append_right _ _ (Nat.le_refl _), Nat.sub_self, List.set_cons_zero]
    have hs := ih.runs s (by simp)
    have hpw := List.pairwise_append.1 ih.pw
    refine ⟨fun r hr => ?_, List.pairwise_append.2 ⟨hpw.1, List.pairwise_singleton _ _, fun x hx y hy => ?_⟩⟩
    ·rcases List.mem_append.1 hr with hr | hr
     ·have := ih.runs r (by simp [hr])
      exact ⟨this.1, this.2.1, this.2.2.1, this.2.2.2.1, by have := this.2.2.2.2; omega⟩
     ·obtain rfl := List.mem_singleton.1 hr
      exact ⟨hs.1, hs.2.1, by show s.fr ≤ b - 1; have := hs.2.2.1; omega, by show b - 1 + 1 ∈ m; rwa [Int.sub_add_cancel], by show b - 1 < b; omega⟩
    ·obtain rfl := List.mem_singleton.1 hy
     exact hpw.2.2 x hx s (by simp)
   ·rw [stepO_app hp h2]
    refine ⟨fun r hr => ?_, List.pairwise_append.2 ⟨ih.pw, List.pairwise_singleton _ _, fun x hx y hy => ?_⟩⟩
    ·rcases List.mem_append.1 hr with hr | hr
     ·have := ih.runs r hr
      exact ⟨this.1, this.2.1, this.2.2.1, this.2.2.2.1, by have := this.2.2.2.2; omega⟩
     ·obtain rfl := List.mem_singleton.1 hr
      exact ⟨rfl, ma, by show a ≤ b - 1; omega, by show b - 1 + 1 ∈ m; rwa [Int.sub_add_cancel], by show b - 1 < b; omega⟩
    ·obtain rfl := List.mem_singleton.1 hy
     have hx1 := ih.runs x hx
     refine ⟨by show x.dev ≤ d; omega, fun _ => ?_⟩
     show x.to + 1 < a
     have h5 := hx1.2.2.2.2
     -- the last one ends ahead of the mark, and every other one ahead of the last
     have h0 : 0 < o.length := List.length_pos_of_mem hx
     obtain ⟨q, hq⟩ := last_split h0
     have hs := ih.runs _ (show o.getD (o.length - 1) default ∈ o by rw [hq]; simp [← hq])
     have hne : (o.getD (o.length - 1) default).to ≠ a - 1 := fun h => h2 ⟨h0, h⟩
     generalize o.getD (o.length - 1) default = s at *
     rw [hq] at hx
     rcases List.mem_append.1 hx with hx | hx
     ·have := (List.pairwise_append.1 (hq ▸ ih.pw)).2.2 x hx s (by simp)
      have := this.2 (by omega)
      omega
     ·obtain rfl := List.mem_singleton.1 hx
      omega
theorem outS_has {d : Int} {p : Int → Bool} {m : List Int} (hm : up m) {n : Int} : ∀ {i j : Nat}, i < m.length → j < i → p (m.getD j 0) = true → m.getD j 0 ≤ n → n < m.getD (j + 1) 0 → ∃ r ∈ outS d p m i, r.fr ≤ n ∧ n ≤ r.to
 | 0, _, _, h, _, _, _ => absurd h (by omega)
 | i + 1, j, hi, hj, hp, h1, h2 => by
  have hok := outS_ok (d := d) (p := p) hm (i := i) (by omega)
  have hlt := up_get hm (Nat.lt_succ_self i) hi
  rw [outS]
  by_cases hij : j = i
  ·subst hij
   generalize m.getD j 0 = a at *
   generalize m.getD (j + 1) 0 = b at *
   generalize outS d p m j = o at *
   by_cases h3 : 0 < o.length ∧ (o.getD (o.length - 1) default).to = a - 1
   ·rw [stepO_set hp h3.1 h3.2]
    have hs := hok.runs _ (show o.getD (o.length - 1) default ∈ o by rw [getD_eq (show o.length - 1 < o.length by omega)]; exact List.getElem_mem _)
    refine ⟨⟨(o.getD (o.length - 1) default).dev, (o.getD (o.length - 1) default).fr, b - 1⟩, ?_, ?_, ?_⟩
    ·exact List.mem_iff_getElem.2 ⟨o.length - 1, by simp; omega, by simp⟩
    ·show (o.getD (o.length - 1) default).fr ≤ n; omega
    ·show n ≤ b - 1; omega
   ·rw [stepO_app hp h3]
    exact ⟨⟨d, a, b - 1⟩, by simp, h1, by show n ≤ b - 1; omega⟩
  ·obtain ⟨r, hr, h3, h4⟩ := outS_has (d := d) (p := p) hm (n := n) (i := i) (j := j) (by omega) (by omega) hp h1 h2
   generalize m.getD i 0 = a at *
   generalize m.getD (i + 1) 0 = b at *
   generalize outS d p m i = o at *
   rcases hpa : p a with _ | _
   ·rw [stepO_no hpa]; exact ⟨r, hr, h3, h4⟩
   ·by_cases h5 : 0 < o.length ∧ (o.getD (o.length - 1) default).to = a - 1
    ·rw [stepO_set hpa h5.1 h5.2]
     obtain ⟨k, hk, rfl⟩ := List.mem_iff_getElem.1 hr
     by_cases hkl : k = o.length - 1
     ·subst hkl
      rw [← getD_eq hk] at h3 h4
      refine ⟨⟨(o.getD (o.length - 1) default).dev, (o.getD (o.length - 1) default).fr, b - 1⟩, List.mem_iff_getElem.2 ⟨o.length - 1, by simp; omega, by simp⟩, h3, ?_⟩
      show n ≤ b - 1; omega
     ·exact ⟨o[k], List.mem_iff_getElem.2 ⟨k, by simpa using hk, by rw [List.getElem_set_ne (by omega)]⟩, h3, h4⟩
    ·rw [stepO_app hpa h5]; exact ⟨r, by simp [hr], h3, h4⟩
/-- Between two marks there is one that has the number. -/
theorem marks_at : ∀ {m : List Int}, up m → ∀ {x y n : Int}, x ∈ m → y ∈ m → x ≤ n → n < y → ∃ j, j + 1 < m.length ∧ x ≤ m.getD j 0 ∧ m.getD j 0 ≤ n ∧ n < m.getD (j + 1) 0
 | [], _, x, y, n, hx, _, _, _ => by cases hx
 | [a], _, x, y, n, hx, hy, h1, h2 => by
  have e1 := List.mem_singleton.1 hx
  have e2 := List.mem_singleton.1 hy
  omega
 | a :: b :: m, h, x, y, n, hx, hy, h1, h2 => by
  have hp := List.pairwise_cons.1 h
  have hab := hp.1 b (by simp)
  by_cases hn : n < b
  ·have hxa : x = a := by
    rcases List.mem_cons.1 hx with e | e
    ·exact e
    ·rcases List.mem_cons.1 e with e | e
     ·omega
     ·have := (List.pairwise_cons.1 hp.2).1 x e; omega
   exact ⟨0, by simp, by simp; omega, by simp; omega, by simpa using hn⟩
  ·have hy' : y ∈ b :: m := by
    rcases List.mem_cons.1 hy with e | e
    ·omega
    ·exact e
   by_cases hxb : x ∈ b :: m
   ·obtain ⟨j, hj, h3, h4, h5⟩ := marks_at hp.2 hxb hy' h1 h2
    exact ⟨j + 1, by simpa using hj, by simpa using h3, by simpa using h4, by simpa using h5⟩
   ·obtain ⟨j, hj, h3, h4, h5⟩ := marks_at hp.2 (x := b) (by simp) hy' (by omega) h2
    have hxa : x = a := by
     rcases List.mem_cons.1 hx with e | e
     ·exact e
     ·exact absurd e hxb
    exact ⟨j + 1, by simpa using hj, by simp only [List.getD_cons_succ]; omega, by simpa using h4, by simpa using h5⟩
theorem mix_ok (d : Int) (a b : List Rn) : (∀ r ∈ mixF d a b, r.dev = d ∧ r.fr ∈ mkM d a b ∧ r.fr ≤ r.to ∧ r.to + 1 ∈ mkM d a b) ∧ (mixF d a b).Pairwise nextP := by
 rcases Nat.eq_zero_or_pos (mkM d a b).length with h | h
 ·rw [mixF, h]; exact ⟨fun r hr => (by cases hr), List.Pairwise.nil⟩
 ·have := outS_ok (d := d) (p := both a b d) (mkM_up d a b) (i := (mkM d a b).length - 1) (by omega)
  exact ⟨fun r hr => by have h := this.runs r hr; exact ⟨h.1, h.2.1, h.2.2.1, h.2.2.2.1⟩, this.pw⟩
theorem mix_has {d n : Int} {a b : List Rn} (h : both a b d n = true) : ∃ r ∈ mixF d a b, r.fr ≤ n ∧ n ≤ r.to := by
 rw [both, Bool.or_eq_true, hasB_iff, hasB_iff] at h
 obtain ⟨r, hr, hd, h1, h2⟩ : ∃ r, (r ∈ a ∨ r ∈ b) ∧ r.dev = d ∧ r.fr ≤ n ∧ n ≤ r.to := by
  rcases h with ⟨r, hr, h⟩ | ⟨r, hr, h⟩
  ·exact ⟨r, .inl hr, h⟩
  ·exact ⟨r, .inr hr, h⟩
 obtain ⟨j, hj, h3, h4, h5⟩ := marks_at (mkM_up d a b) (mem_mkM.2 ⟨r, hr, hd, .inl rfl⟩) (mem_mkM.2 ⟨r, hr, hd, .inr rfl⟩) h1 (by omega : n < r.to + 1)
 refine outS_has (mkM_up d a b) (j := j) (by omega) (by omega) ?_ h4 h5
 rw [both, Bool.or_eq_true, hasB_iff, hasB_iff]
 rcases hr with hr | hr
 ·exact .inl ⟨r, hr, hd, h3, by omega⟩
 ·exact .inr ⟨r, hr, hd, h3, by omega⟩
/-! ### what either has -/
def unK (a b : List Rn) (k : Nat) : List Rn := (List.range k).flatMap fun d : Nat => mixF (d : Int) a b
def unF (a b : List Rn) : List Rn := unK a b 8
theorem unK_next (a b : List Rn) (k : Nat) : unK a b (k + 1) = unK a b k ++ mixF (k : Int) a b := by simp [unK, List.range_succ]
/-- Runs within bounds. -/
def inM (M : Int) (l : List Rn) : Prop := ∀ r ∈ l, r.dev < 4 ∧ r.to ≤ M
theorem un_mem {a b : List Rn} {r : Rn} (h : r ∈ unF a b) : ∃ d : Nat, d < 8 ∧ r ∈ mixF (d : Int) a b := by
 obtain ⟨d, hd, h⟩ := List.mem_flatMap.1 h
 exact ⟨d, List.mem_range.1 hd, h⟩
theorem un_run {a b : List Rn} (ha : mrP a) (hb : mrP b) {r : Rn} (h : r ∈ unF a b) : rnP r := by
 obtain ⟨d, hd, h⟩ := un_mem h
 obtain ⟨h1, h2, h3, h4⟩ := (mix_ok (d : Int) a b).1 r h
 obtain ⟨s, hs, _, h5⟩ := mem_mkM.1 h2
 obtain ⟨t, ht, _, h6⟩ := mem_mkM.1 h4
 have ps : rnP s := hs.elim (ha.1 s) (hb.1 s)
 have pt : rnP t := ht.elim (ha.1 t) (hb.1 t)
 obtain ⟨_, _, s1, s2, s3⟩ := ps
 obtain ⟨_, _, t1, t2, t3⟩ := pt
 refine ⟨by omega, by omega, ?_, h3, ?_⟩
 ·rcases h5 with h5 | h5 <;> omega
 ·rcases h6 with h6 | h6 <;> omega
theorem un_ok {a b : List Rn} (ha : mrP a) (hb : mrP b) : mrP (unF a b) := by
 refine ⟨fun r h => un_run ha hb h, ?_⟩
 rw [unF, unK, List.pairwise_flatMap]
 refine ⟨fun d _ => (mix_ok (d : Int) a b).2, ?_⟩
 refine List.Pairwise.imp (R := (· < ·)) (fun {d e} hde x hx y hy => ?_) List.pairwise_lt_range
 have h1 := ((mix_ok (d : Int) a b).1 x hx).1
 have h2 := ((mix_ok (e : Int) a b).1 y hy).1
 exact ⟨by omega, fun h => by omega⟩
theorem un_in {a b : List Rn} {M : Int} (pa : mrP a) (pb : mrP b) (ha : inM M a) (hb : inM M b) : inM M (unF a b) := fun r h => by
 obtain ⟨d, hd, h⟩ := un_mem h
 obtain ⟨h1, h2, h3, h4⟩ := (mix_ok (d : Int) a b).1 r h
 obtain ⟨s, hs, e, h5⟩ := mem_mkM.1 h4
 have hs2 : (s.dev < 4 ∧ s.to ≤ M) ∧ rnP s := by
  rcases hs with hs | hs
  ·exact ⟨ha s hs, pa.1 s hs⟩
  ·exact ⟨hb s hs, pb.1 s hs⟩
 obtain ⟨⟨q1, q2⟩, _, _, _, q3, _⟩ := hs2
 exact ⟨by omega, by rcases h5 with h5 | h5 <;> omega⟩
theorem un_has {a b : List Rn} {d n : Int} (h0 : 0 ≤ d) (h8 : d < 8) (h : both a b d n = true) : hasB (unF a b) d n = true := by
 obtain ⟨r, hr, h1, h2⟩ := mix_has h
 obtain ⟨k, rfl⟩ := Int.eq_ofNat_of_zero_le h0
 have hd := ((mix_ok (k : Int) a b).1 r hr).1
 exact hasB_iff.2 ⟨r, List.mem_flatMap.2 ⟨k, List.mem_range.2 (by omega), hr⟩, hd, h1, h2⟩
theorem un_hasL {a b : List Rn} (ha : mrP a) {d n : Int} (h : hasB a d n = true) : hasB (unF a b) d n = true := by
 obtain ⟨r, hr, rfl, _⟩ := hasB_iff.1 h
 have := ha.1 r hr
 exact un_has this.1 this.2.1 (by rw [both, h]; rfl)
theorem un_hasR {a b : List Rn} (hb : mrP b) {d n : Int} (h : hasB b d n = true) : hasB (unF a b) d n = true := by
 obtain ⟨r, hr, rfl, _⟩ := hasB_iff.1 h
 have := hb.1 r hr
 exact un_has this.1 this.2.1 (by rw [both, h, Bool.or_true])
theorem mrP_nil : mrP [] := ⟨fun r h => (by cases h), List.Pairwise.nil⟩
theorem mrP_one {r : Rn} : mrP [r] ↔ rnP r := ⟨fun h => h.1 r (by simp), fun h => ⟨fun s hs => by obtain rfl := List.mem_singleton.1 hs; exact h, List.pairwise_singleton _ _⟩⟩
/-! ### dots as runs -/
def dtR (d : Int × Int) : Rn := ⟨d.1, d.2, d.2⟩
def ofS (o : List Rn) (d : Int × Int) : List Rn := if mrB [dtR d] = true then unF o [dtR d] else o
def ofF (l : List (Int × Int)) : List Rn := l.foldl ofS []
theorem ofF_next {l : List (Int × Int)} {i : Nat} (h : i < l.length) : ofF (l.take (i + 1)) = ofS (ofF (l.take i)) (l.getD i default) := by
 rw [List.take_add_one, List.getElem?_eq_getElem h, ofF, List.foldl_append, getD_eq h]; rfl
theorem ofS_ok {o : List Rn} (d : Int × Int) (h : mrP o) : mrP (ofS o d) := by
 rw [ofS]; split
 ·rename_i h1; exact un_ok h (mrP_of h1)
 ·exact h
theorem ofF_ok : ∀ (l : List (Int × Int)) {o : List Rn}, mrP o → mrP (l.foldl ofS o)
 | [], _, h => h
 | d :: l, _, h => ofF_ok l (ofS_ok d h)
theorem ofF_in {M : Int} : ∀ (l : List (Int × Int)) {o : List Rn}, mrP o → inM M o → (∀ d ∈ l, d.1 < 4 ∧ d.2 ≤ M) → inM M (l.foldl ofS o)
 | [], _, _, h, _ => h
 | d :: l, o, hp, h, hl => by
  refine ofF_in l (ofS_ok d hp) ?_ (fun e he => hl e (by simp [he]))
  rw [ofS]; split
  ·rename_i h1
   exact un_in hp (mrP_of h1) h (fun r hr => by obtain rfl := List.mem_singleton.1 hr; exact hl d (by simp))
  ·exact h
theorem ofF_keep {e n : Int} : ∀ (l : List (Int × Int)) {o : List Rn}, mrP o → hasB o e n = true → hasB (l.foldl ofS o) e n = true
 | [], _, _, h => h
 | d :: l, o, hp, h => by
  refine ofF_keep l (ofS_ok d hp) ?_
  rw [ofS]; split
  ·exact un_hasL hp h
  ·exact h
theorem ofF_has {d : Int × Int} (hd : rnP (dtR d)) : ∀ (l : List (Int × Int)) {o : List Rn}, mrP o → d ∈ l → hasB (l.foldl ofS o) d.1 d.2 = true
 | [], _, _, h => by cases h
 | e :: l, o, hp, h => by
  rcases List.mem_cons.1 h with rfl | h
  ·refine ofF_keep l (ofS_ok d hp) ?_
   have h1 : mrB [dtR d] = true := mrB_of (mrP_one.2 hd)
   rw [ofS, if_pos h1]
   exact un_hasR (mrP_one.2 hd) (hasB_iff.2 ⟨dtR d, by simp, rfl, Int.le_refl _, Int.le_refl _⟩)
  ·exact ofF_has hd l (ofS_ok e hp) h
/-! ### facts -/
def ltD (x y : Ft) : Prop := x.dev < y.dev ∨ (x.dev = y.dev ∧ x.n < y.n)
theorem ltD_trans {x y z : Ft} (h1 : ltD x y) (h2 : ltD y z) : ltD x z := by
 rcases h1 with h1 | ⟨h1, h1'⟩ <;> rcases h2 with h2 | ⟨h2, h2'⟩ <;> simp only [ltD] <;> omega
def cmF (x y : Ft) : Int := cmpD x.dev x.n y.dev y.n
theorem cmF_cases (x y : Ft) : (ltD x y ∧ cmF x y = -1) ∨ ((x.dev = y.dev ∧ x.n = y.n) ∧ cmF x y = 0) ∨ (ltD y x ∧ cmF x y = 1) := by
 by_cases h1 : ltD x y
 ·exact .inl ⟨h1, cmpD_l h1⟩
 ·by_cases h2 : ltD y x
  ·exact .inr (.inr ⟨h2, cmpD_g (h2.elim .inl (fun h => .inr ⟨h.1.symm, h.2⟩))⟩)
  ·refine .inr (.inl ?_)
   simp only [ltD] at h1 h2
   have e1 : x.dev = y.dev := by omega
   have e2 : x.n = y.n := by omega
   exact ⟨⟨e1, e2⟩, by rw [cmF, e1, e2, cmpD_e]⟩
/-- May a fact be? -/
def ftP (f : Ft) : Prop := f.key.length ≤ 40 ∧ (((f.kind = 1 ∨ f.kind = 2) ∧ f.item.length ≤ 200 ∧ f.m = 0) ∨ (f.kind = 3 ∧ f.item = [] ∧ -1099511627776 ≤ f.m ∧ f.m ≤ 1099511627776))
instance (f : Ft) : Decidable (ftP f) := inferInstanceAs (Decidable (_ ∧ _))
def ftB (f : Ft) : Bool := decide (ftP f)
theorem ftB_t {f : Ft} (h : ftP f) : ftB f = true := decide_eq_true h
theorem ftB_f {f : Ft} (h : ¬ ftP f) : ftB f = false := decide_eq_false h
structure Sa where
 seen : List Rn
 fs : List Ft
 deriving DecidableEq
instance : Inhabited Sa := ⟨⟨[], []⟩⟩
def faOk (s : Sa) (i : Nat) : Prop := ftP (s.fs.getD i default) ∧ hasB s.seen (s.fs.getD i default).dev (s.fs.getD i default).n = true ∧ (0 < i → cmF (s.fs.getD (i - 1) default) (s.fs.getD i default) < 0)
instance (s : Sa) (i : Nat) : Decidable (faOk s i) := inferInstanceAs (Decidable (_ ∧ _))
def saP (s : Sa) : Prop := (mrB s.seen = true ∧ s.fs.length ≤ 400) ∧ ∀ i, i < s.fs.length → faOk s i
def saB (s : Sa) : Bool := mrB s.seen && decide (s.fs.length ≤ 400) && (List.range s.fs.length).all fun i => decide (faOk s i)
theorem saB_iff {s : Sa} : saB s = true ↔ saP s := by
 simp [saB, saP, List.all_eq_true]
theorem saB_f {s : Sa} (h : ¬ saP s) : saB s = false := by
 rcases e : saB s with _ | _
 ·rfl
 ·exact absurd (saB_iff.1 e) h
/-- The same, in pairs. -/
structure saQ (s : Sa) : Prop where
 runs : mrP s.seen
 few : s.fs.length ≤ 400
 fts : ∀ f ∈ s.fs, ftP f ∧ hasB s.seen f.dev f.n = true
 up : s.fs.Pairwise ltD
theorem saQ_iff {s : Sa} : saP s ↔ saQ s := by
 constructor
 ·rintro ⟨⟨h1, h2⟩, h3⟩
  refine ⟨mrP_of h1, h2, fun f hf => ?_, List.pairwise_iff_getElem.2 fun i j hi hj hij => ?_⟩
  ·obtain ⟨i, hi, rfl⟩ := List.mem_iff_getElem.1 hf
   have := h3 i hi
   rw [faOk, getD_eq hi] at this
   exact ⟨this.1, this.2.1⟩
  ·have key : ∀ n, ∀ hn : i + 1 + n < s.fs.length, ltD s.fs[i] s.fs[i + 1 + n] := by
    have step : ∀ k, ∀ hk : k + 1 < s.fs.length, ltD s.fs[k] s.fs[k + 1] := fun k hk => by
     have := (h3 (k + 1) hk).2.2 (by omega)
     rw [Nat.add_sub_cancel, getD_eq hk, getD_eq (show k < s.fs.length by omega)] at this
     rcases cmF_cases s.fs[k] s.fs[k + 1] with ⟨h, _⟩ | ⟨_, h⟩ | ⟨_, h⟩
     ·exact h
     ·omega
     ·omega
    intro n
    induction n with
    | zero => exact step i
    | succ n ih => exact fun hn => ltD_trans (ih (by omega)) (step (i + 1 + n) hn)
   have := key (j - i - 1) (by omega)
   simpa [show i + 1 + (j - i - 1) = j from by omega] using this
 ·rintro ⟨h1, h2, h3, h4⟩
  refine ⟨⟨mrB_of h1, h2⟩, fun i hi => ?_⟩
  rw [faOk, getD_eq hi]
  have := h3 _ (List.getElem_mem hi)
  refine ⟨this.1, this.2, fun h0 => ?_⟩
  rw [getD_eq (show i - 1 < s.fs.length by omega)]
  have h5 := List.pairwise_iff_getElem.1 h4 (i - 1) i (by omega) hi (by omega)
  rw [cmF, cmpD_l h5]; omega
theorem saB_q {s : Sa} : saB s = true ↔ saQ s := saB_iff.trans saQ_iff
/-! ### two states as one -/
def mg (P Q : Ft → Bool) : List Ft → List Ft → List Ft
 | [], [] => []
 | x :: xs, [] => if P x then x :: mg P Q xs [] else mg P Q xs []
 | [], y :: ys => if Q y then y :: mg P Q [] ys else mg P Q [] ys
 | x :: xs, y :: ys => if cmF x y ≤ 0 then (if P x then x :: mg P Q xs (y :: ys) else mg P Q xs (y :: ys)) else (if Q y then y :: mg P Q (x :: xs) ys else mg P Q (x :: xs) ys)
 termination_by l m => l.length + m.length
theorem mem_mg {P Q : Ft → Bool} {z : Ft} : ∀ {l m : List Ft}, z ∈ mg P Q l m → z ∈ l ∨ (z ∈ m ∧ Q z = true)
 | [], [], h => by rw [mg] at h; cases h
 | x :: xs, [], h => by
  rw [mg] at h
  split at h
  ·rcases List.mem_cons.1 h with rfl | h
   ·exact .inl (by simp)
   ·rcases mem_mg h with h | h
    ·exact .inl (by simp [h])
    ·exact .inr h
  ·rcases mem_mg h with h | h
   ·exact .inl (by simp [h])
   ·exact .inr h
 | [], y :: ys, h => by
  rw [mg] at h
  split at h
  ·rename_i hq
   rcases List.mem_cons.1 h with rfl | h
   ·exact .inr ⟨by simp, hq⟩
   ·rcases mem_mg h with h | h
    ·exact .inl h
    ·exact .inr ⟨by simp [h.1], h.2⟩
  ·rcases mem_mg h with h | h
   ·exact .inl h
   ·exact .inr ⟨by simp [h.1], h.2⟩
 | x :: xs, y :: ys, h => by
  rw [mg] at h
  split at h
  ·split at h
   ·rcases List.mem_cons.1 h with rfl | h
    ·exact .inl (by simp)
    ·rcases mem_mg h with h | h
     ·exact .inl (by simp [h])
     ·exact .inr h
   ·rcases mem_mg h with h | h
    ·exact .inl (by simp [h])
    ·exact .inr h
  ·split at h
   ·rename_i hq
    rcases List.mem_cons.1 h with rfl | h
    ·exact .inr ⟨by simp, hq⟩
    ·rcases mem_mg h with h | h
     ·exact .inl h
     ·exact .inr ⟨by simp [h.1], h.2⟩
   ·rcases mem_mg h with h | h
    ·exact .inl h
    ·exact .inr ⟨by simp [h.1], h.2⟩
 termination_by l m => l.length + m.length
theorem mg_up {P Q : Ft → Bool} : ∀ {l m : List Ft}, l.Pairwise ltD → m.Pairwise ltD → (∀ x ∈ l, ∀ y ∈ m, x.dev = y.dev → x.n = y.n → Q y = false) → (mg P Q l m).Pairwise ltD
 | [], [], _, _, _ => by rw [mg]; exact List.Pairwise.nil
 | x :: xs, [], hl, hm, hq => by
  have hc := List.pairwise_cons.1 hl
  have ih := mg_up (P := P) (Q := Q) hc.2 hm (fun a ha => hq a (by simp [ha]))
  rw [mg]
  split
  ·refine List.pairwise_cons.2 ⟨fun z hz => ?_, ih⟩
   rcases mem_mg hz with hz | hz
   ·exact hc.1 z hz
   ·cases hz.1
  ·exact ih
 | [], y :: ys, hl, hm, hq => by
  have hc := List.pairwise_cons.1 hm
  have ih := mg_up (P := P) (Q := Q) hl hc.2 (fun a ha => by cases ha)
  rw [mg]
  split
  ·refine List.pairwise_cons.2 ⟨fun z hz => ?_, ih⟩
   rcases mem_mg hz with hz | hz
   ·cases hz
   ·exact hc.1 z hz.1
  ·exact ih
 | x :: xs, y :: ys, hl, hm, hq => by
  have hc := List.pairwise_cons.1 hl
  have hd := List.pairwise_cons.1 hm
  rw [mg]
  split
  ·rename_i hle
   have ih := mg_up (P := P) (Q := Q) hc.2 hm (fun a ha => hq a (by simp [ha]))
   split
   ·refine List.pairwise_cons.2 ⟨fun z hz => ?_, ih⟩
    rcases mem_mg hz with hz | ⟨hz, hz2⟩
    ·exact hc.1 z hz
    ·rcases cmF_cases x y with ⟨h, _⟩ | ⟨⟨h, h'⟩, _⟩ | ⟨_, h⟩
     ·rcases List.mem_cons.1 hz with rfl | hz
      ·exact h
      ·exact ltD_trans h (hd.1 z hz)
     ·rcases List.mem_cons.1 hz with rfl | hz
      ·rw [hq x (by simp) z (by simp) h h'] at hz2; cases hz2
      ·have := hd.1 z hz
       simp only [ltD] at this ⊢; omega
     ·omega
   ·exact ih
  ·rename_i hgt
   have ih := mg_up (P := P) (Q := Q) hl hd.2 (fun a ha b hb => hq a ha b (by simp [hb]))
   have hyx : ltD y x := by
    rcases cmF_cases x y with ⟨_, h⟩ | ⟨_, h⟩ | ⟨h, _⟩
    ·omega
    ·omega
    ·exact h
   split
   ·refine List.pairwise_cons.2 ⟨fun z hz => ?_, ih⟩
    rcases mem_mg hz with hz | ⟨hz, _⟩
    ·rcases List.mem_cons.1 hz with rfl | hz
     ·exact hyx
     ·exact ltD_trans hyx (hc.1 z hz)
    ·exact hd.1 z hz
   ·exact ih
 termination_by l m => l.length + m.length
/-- Has a state a fact of a dot? -/
def atB (l : List Ft) (d n : Int) : Bool := l.any fun f => decide (f.dev = d ∧ f.n = n)
def jP (b : Sa) (f : Ft) : Bool := !hasB b.seen f.dev f.n || atB b.fs f.dev f.n
def jQ (a : Sa) (f : Ft) : Bool := !hasB a.seen f.dev f.n
def joF (a b : Sa) : Sa := ⟨unF a.seen b.seen, mg (jP b) (jQ a) a.fs b.fs⟩
/-- A state of few devices, few deeds. -/
structure inv (M : Int) (s : Sa) : Prop where
 runs : mrP s.seen
 lim : inM M s.seen
 fts : ∀ f ∈ s.fs, ftP f ∧ hasB s.seen f.dev f.n = true
 up : s.fs.Pairwise ltD
theorem inv_mono {M N : Int} (h : M ≤ N) {s : Sa} (hs : inv M s) : inv N s := ⟨hs.1, fun r hr => ⟨(hs.2 r hr).1, (by have := (hs.2 r hr).2; omega)⟩, hs.3, hs.4⟩
theorem inv_nil (M : Int) : inv M ⟨[], []⟩ := ⟨mrP_nil, fun r h => (by cases h), fun f h => (by cases h), List.Pairwise.nil⟩
theorem inv_join {M : Int} {a b : Sa} (ha : inv M a) (hb : inv M b) : inv M (joF a b) := by
 refine ⟨un_ok ha.1 hb.1, un_in ha.1 hb.1 ha.2 hb.2, fun f hf => ?_, mg_up ha.4 hb.4 (fun x hx y _ h1 h2 => ?_)⟩
 ·rcases mem_mg hf with h | ⟨h, _⟩
  ·exact ⟨(ha.3 f h).1, un_hasL ha.1 (ha.3 f h).2⟩
  ·exact ⟨(hb.3 f h).1, un_hasR hb.1 (hb.3 f h).2⟩
 ·rw [jQ, ← h1, ← h2, (ha.3 x hx).2]; rfl
/-- What stands strictly in order, within bounds, is not long. -/
theorem few_of {α : Type} {v : α → Int} : ∀ {l : List α} {lo hi : Int}, l.Pairwise (fun x y => v x < v y) → (∀ x ∈ l, lo ≤ v x ∧ v x < hi) → (l.length : Int) ≤ max 0 (hi - lo)
 | [], lo, hi, _, _ => by simp; omega
 | x :: l, lo, hi, h, hb => by
  have hc := List.pairwise_cons.1 h
  have h1 := hb x (by simp)
  have := few_of (lo := v x + 1) (hi := hi) hc.2 (fun y hy => ⟨by have := hc.1 y hy; omega, (hb y (by simp [hy])).2⟩)
  simp only [List.length_cons] at *
  omega
theorem has_in {M : Int} {l : List Rn} (hp : mrP l) (h : inM M l) {d n : Int} (hd : hasB l d n = true) : 0 ≤ d ∧ d < 4 ∧ 1 ≤ n ∧ n ≤ M := by
 obtain ⟨r, hr, rfl, h1, h2⟩ := hasB_iff.1 hd
 have h3 := h r hr
 obtain ⟨p1, _, p2, p3, _⟩ := hp.1 r hr
 omega
theorem inv_few {M : Nat} {s : Sa} (h : inv M s) : s.fs.length ≤ 4 * (M + 1) ∧ s.seen.length ≤ 4 * (M + 1) := by
 have e : ∀ d : Int, 0 ≤ d → d < 4 → 0 ≤ d * ((M : Int) + 1) ∧ d * ((M : Int) + 1) ≤ 3 * ((M : Int) + 1) := fun d h0 h4 => ⟨Int.mul_nonneg h0 (by omega), Int.mul_le_mul_of_nonneg_right (by omega) (by omega)⟩
 have lt : ∀ d e x y : Int, d < e → x ≤ M → 0 ≤ y → d * ((M : Int) + 1) + x < e * ((M : Int) + 1) + y := fun d e x y hde hx hy => by
  have := Int.mul_le_mul_of_nonneg_right (show d + 1 ≤ e by omega) (show (0 : Int) ≤ (M : Int) + 1 by omega)
  rw [Int.add_mul, Int.one_mul] at this
  omega
 constructor
 ·have hin : ∀ f ∈ s.fs, 0 ≤ f.dev ∧ f.dev < 4 ∧ 1 ≤ f.n ∧ f.n ≤ M := fun f hf => has_in h.1 h.2 (h.3 f hf).2
  have := few_of (v := fun f : Ft => f.dev * ((M : Int) + 1) + f.n) (l := s.fs) (lo := 0) (hi := 4 * ((M : Int) + 1)) ?_ ?_
  ·omega
  ·refine List.Pairwise.imp_of_mem (fun {x y} hx hy hxy => ?_) h.4
   have hx := hin x hx
   have hy := hin y hy
   rcases hxy with h1 | ⟨h1, h2⟩
   ·exact lt _ _ _ _ h1 hx.2.2.2 (by omega)
   ·rw [h1]; omega
  ·intro f hf
   have h1 := hin f hf
   have h2 := e f.dev h1.1 h1.2.1
   omega
 ·have hin : ∀ r ∈ s.seen, (0 ≤ r.dev ∧ r.dev < 4) ∧ (1 ≤ r.fr ∧ r.fr ≤ r.to) ∧ r.to ≤ M := fun r hr => ⟨⟨(h.1.1 r hr).1, (h.2 r hr).1⟩, ⟨(h.1.1 r hr).2.2.1, (h.1.1 r hr).2.2.2.1⟩, (h.2 r hr).2⟩
  have := few_of (v := fun r : Rn => r.dev * ((M : Int) + 1) + r.to) (l := s.seen) (lo := 0) (hi := 4 * ((M : Int) + 1)) ?_ ?_
  ·omega
  ·refine List.Pairwise.imp_of_mem (fun {x y} hx hy hxy => ?_) h.1.2
   have hx := hin x hx
   have hy := hin y hy
   rcases Int.lt_or_le x.dev y.dev with h1 | h1
   ·exact lt _ _ _ _ h1 hx.2.2 (by omega)
   ·have e1 : x.dev = y.dev := by have := hxy.1; omega
    have := hxy.2 e1.symm
    show x.dev * ((M : Int) + 1) + x.to < y.dev * ((M : Int) + 1) + y.to
    rw [e1]; omega
  ·intro r hr
   have h1 := hin r hr
   have h2 := e r.dev h1.1.1 h1.1.2
   omega
theorem inv_may {M : Nat} (hM : M ≤ 90) {s : Sa} (h : inv M s) : saQ s := ⟨h.1, by have := (inv_few h).1; omega, h.3, h.4⟩

end Go.Proofs.Tryd
