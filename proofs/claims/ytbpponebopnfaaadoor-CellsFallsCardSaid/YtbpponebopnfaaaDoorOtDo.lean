/- The walk, step by step. -/
import Derived.Test.YtbpponebopnfaaaDoorOtWalk
set_option linter.unusedVariables false
set_option linter.unusedSimpArgs false
namespace Go.Ot
section
variable {Γ : Gl} {P : Program} {Q : Exit → St → Prop} {X : St}

def seqK (Γ : Gl) (P : Program) (b : Code) (Q : Exit → St → Prop) (e : Exit) (Z : St) : Prop := match e with | .normal => ∃ Z', Le Γ Z Z' ∧ wpK Γ P b Q Z' | e => Q e Z
def blockK (id : Nat) (Q : Exit → St → Prop) (e : Exit) (Z : St) : Prop := match e with | .exit id' => if id' = id then Q .normal Z else Q (.exit id') Z | e => Q e Z
def loopK (Γ : Gl) (I : St → Prop) (μ : St → Nat) (n : Nat) (Q : Exit → St → Prop) (e : Exit) (Z : St) : Prop := match e with | .normal => ∃ Z', Le Γ Z Z' ∧ I Z' ∧ μ Z' < n | e => Q e Z
def regK (ops : Array Oper) (draw : Bool) (Q : Exit → St → Prop) (Z : St) (ms : List Meta) : Prop := (draw = true → regOk ops ms = true) ∧ Q .normal Z

theorem k_skip (h : Q .normal X) : wpK Γ P .skip Q X := h
theorem k_label {l : Nat} (h : Q .normal X) : wpK Γ P (.label l) Q X := h
theorem k_exit {id : Nat} (h : Q (.exit id) X) : wpK Γ P (.exit id) Q X := h
theorem k_ret (h : Q .ret X) : wpK Γ P .ret Q X := h
theorem k_seq {a b : Code} (h : wpK Γ P a (seqK Γ P b Q) X) : wpK Γ P (.seq a b) Q X := h
theorem k_block {id : Nat} {c : Code} (h : wpK Γ P c (blockK id Q) X) : wpK Γ P (.block id c) Q X := h
theorem k_region {id : Nat} {ops : Array Oper} {draw : Bool} {l : List Oper} (hl : ops.toList = l) (h : wpS Γ P ops id 0 l X [] (regK ops draw Q)) : wpK Γ P (.region id ops draw) Q X := by subst hl; exact h
theorem k_if {c : Operand} {x y : Code} (b : Bool) (hb : ev X c = .t (.v (.bool b))) (h : b = true → wpK Γ P x Q X) (h' : b = false → wpK Γ P y Q X) : wpK Γ P (.cond c x y) Q X := ⟨b, hb, h, h'⟩
theorem k_true {c : Operand} {x y : Code} (hb : ev X c = .t (.v (.bool true))) (h : wpK Γ P x Q X) : wpK Γ P (.cond c x y) Q X := ⟨true, hb, fun _ => h, fun h => nomatch h⟩
theorem k_false {c : Operand} {x y : Code} (hb : ev X c = .t (.v (.bool false))) (h : wpK Γ P y Q X) : wpK Γ P (.cond c x y) Q X := ⟨false, hb, (fun h => nomatch h), fun _ => h⟩
theorem k_loop {c : Code} (I : St → Prop) (μ : St → Nat) {X' : St} (h0 : Le Γ X X') (h1 : I X') (h : ∀ Y, I Y → wpK Γ P c (loopK Γ I μ (μ Y) Q) Y) : wpK Γ P (.loop c) Q X := ⟨I, μ, ⟨X', h0, h1⟩, h⟩
theorem q_next {b : Code} (h : wpK Γ P b Q X) : seqK Γ P b Q .normal X := ⟨X, Le.refl Γ X, h⟩
theorem q_weak {b : Code} {X' : St} (hle : Le Γ X X') (h : wpK Γ P b Q X') : seqK Γ P b Q .normal X := ⟨X', hle, h⟩
theorem q_seq_exit {b : Code} {id : Nat} (h : Q (.exit id) X) : seqK Γ P b Q (.exit id) X := h
theorem q_seq_ret {b : Code} (h : Q .ret X) : seqK Γ P b Q .ret X := h
theorem q_block {id : Nat} (h : Q .normal X) : blockK id Q .normal X := h
theorem q_block_ret {id : Nat} (h : Q .ret X) : blockK id Q .ret X := h
theorem q_block_exit {id : Nat} (h : Q .normal X) : blockK id Q (.exit id) X := by simp only [blockK, if_true]; exact h
theorem q_block_pass {id id' : Nat} (hne : id' ≠ id) (h : Q (.exit id') X) : blockK id Q (.exit id') X := by simp only [blockK, if_neg hne]; exact h
theorem q_loop {I : St → Prop} {μ : St → Nat} {n : Nat} {Z' : St} (h1 : Le Γ X Z') (h2 : I Z') (h3 : μ Z' < n) : loopK Γ I μ n Q .normal X := ⟨Z', h1, h2, h3⟩
theorem q_loop_exit {I : St → Prop} {μ : St → Nat} {n : Nat} {id : Nat} (h : Q (.exit id) X) : loopK Γ I μ n Q (.exit id) X := h
theorem q_loop_ret {I : St → Prop} {μ : St → Nat} {n : Nat} (h : Q .ret X) : loopK Γ I μ n Q .ret X := h
theorem r_false {ops : Array Oper} {ms : List Meta} (h : Q .normal X) : regK ops false Q X ms := ⟨(fun h => nomatch h), h⟩
theorem r_true {ops : Array Oper} {ms : List Meta} (h0 : regOk ops ms = true) (h : Q .normal X) : regK ops true Q X ms := ⟨fun _ => h0, h⟩

variable {ops : Array Oper} {rid i : Nat} {o : Oper} {os : List Oper} {acc : List Meta} {K : St → List Meta → Prop}
theorem s_nil (h : K X acc) : wpS Γ P ops rid i [] X acc K := h
theorem s_op (hg : o.guard = none) {r : Rec} {c : Prop} (hs : stepF P rid i X o = some (r, c)) (hc : c) {X' : St} (hX : X.app o.dst r = X') {ms : Meta} (hm : r.info = ms) {i' : Nat} (hi : i + 1 = i') (h : wpS Γ P ops rid i' os X' (acc ++ [ms]) K) : wpS Γ P ops rid i (o :: os) X acc K := by
  subst hX hm hi
  simp only [wpS, hg, hs]
  exact ⟨hc, h⟩
theorem s_by (hg : o.guard = none) (hs : stepF P rid i X o = none) {r : Rec} (ho : OpSpec Γ P o X r) (ht : Tidy r) {X' : St} (hX : X.app o.dst r = X') {ms : Meta} (hm : r.info = ms) {i' : Nat} (hi : i + 1 = i') (h : wpS Γ P ops rid i' os X' (acc ++ [ms]) K) : wpS Γ P ops rid i (o :: os) X acc K := by
  subst hX hm hi
  simp only [wpS, hg, hs]
  exact ⟨r, ho, ht, h⟩
theorem s_op_if {g : Nat} {want : Bool} (hg : o.guard = some (g, want)) (hb : wantIs (gslot ops X g) want = some true) {r : Rec} {c : Prop} (hs : stepF P rid i X o = some (r, c)) (hc : c) {X' : St} (hX : X.app o.dst r = X') {ms : Meta} (hm : r.info = ms) {i' : Nat} (hi : i + 1 = i') (h : wpS Γ P ops rid i' os X' (acc ++ [ms]) K) : wpS Γ P ops rid i (o :: os) X acc K := by
  subst hX hm hi
  simp only [wpS, hg, hs]
  exact ⟨true, hb, fun _ => ⟨hc, h⟩, fun e => by cases e⟩
theorem s_by_if {g : Nat} {want : Bool} (hg : o.guard = some (g, want)) (hb : wantIs (gslot ops X g) want = some true) (hs : stepF P rid i X o = none) {r : Rec} (ho : OpSpec Γ P o X r) (ht : Tidy r) {X' : St} (hX : X.app o.dst r = X') {ms : Meta} (hm : r.info = ms) {i' : Nat} (hi : i + 1 = i') (h : wpS Γ P ops rid i' os X' (acc ++ [ms]) K) : wpS Γ P ops rid i (o :: os) X acc K := by
  subst hX hm hi
  simp only [wpS, hg, hs]
  exact ⟨true, hb, fun _ => ⟨r, ho, ht, h⟩, fun e => by cases e⟩
theorem s_skip {g : Nat} {want : Bool} (hg : o.guard = some (g, want)) (hb : wantIs (gslot ops X g) want = some false) {X' : St} (hX : X.app o.dst { val := udf } = X') {i' : Nat} (hi : i + 1 = i') (h : wpS Γ P ops rid i' os X' (acc ++ [⟨[], [], false⟩]) K) : wpS Γ P ops rid i (o :: os) X acc K := by
  subst hX hi
  simp only [wpS, hg]
  exact ⟨false, hb, (fun e => by cases e), fun _ => h⟩
def Mle (a b : Meta) : Prop := (∀ m, m ∈ a.ws → m ∈ b.ws) ∧ (∀ m, m ∈ a.fs → m ∈ b.fs) ∧ (a.bar = true → b.bar = true)
def Msle : List Meta → List Meta → Prop
  | [], [] => True
  | a :: x, b :: y => Mle a b ∧ Msle x y
  | _, _ => False
theorem Mle.refl (a : Meta) : Mle a a := ⟨fun _ h => h, fun _ h => h, fun h => h⟩
theorem Msle.refl : ∀ x : List Meta, Msle x x
  | [] => trivial
  | a :: x => ⟨Mle.refl a, Msle.refl x⟩
theorem Msle.snoc {a b : Meta} (h : Mle a b) : ∀ {x y : List Meta}, Msle x y → Msle (x ++ [a]) (y ++ [b])
  | [], [], _ => ⟨h, trivial⟩
  | c :: x, d :: y, ⟨h1, h2⟩ => ⟨h1, Msle.snoc h h2⟩
theorem Msle.get : ∀ {x y : List Meta}, Msle x y → ∀ {i : Nat} {a : Meta}, x[i]? = some a → ∃ b, y[i]? = some b ∧ Mle a b
  | c :: x, d :: y, ⟨h1, h2⟩, i, a, h => by
    cases i with
    | zero => simp at h; subst h; exact ⟨d, by simp, h1⟩
    | succ i => simpa using Msle.get h2 (i := i) (by simpa using h)
theorem Msle.get_none : ∀ {x y : List Meta}, Msle x y → ∀ {i : Nat}, x[i]? = none → y[i]? = none
  | [], [], _, i, h => by simp
  | c :: x, d :: y, ⟨h1, h2⟩, i, h => by
    cases i with
    | zero => simp at h
    | succ i => simpa using Msle.get_none h2 (i := i) (by simpa using h)
theorem clash_mono {ops : Array Oper} {oi oj : Oper} {a b a' b' : Meta} (h : Mle a a') (k : Mle b b') (hc : clash ops oi oj a b = true) : clash ops oi oj a' b' = true := by
  obtain ⟨h1, h2, h3⟩ := h
  obtain ⟨k1, k2, k3⟩ := k
  simp only [clash, Bool.or_eq_true, List.any_eq_true, List.contains_iff_mem] at hc ⊢
  rcases hc with ((((hc | hc) | hc) | hc) | ⟨m, hm, hc⟩) | ⟨m, hm, hc⟩
  · exact .inl (.inl (.inl (.inl (.inl (h3 hc)))))
  · exact .inl (.inl (.inl (.inl (.inr (k3 hc)))))
  · exact .inl (.inl (.inl (.inr hc)))
  · exact .inl (.inl (.inr hc))
  · exact .inl (.inr ⟨m, h1 m hm, hc.elim (fun e => .inl (k2 m e)) (fun e => .inr (k1 m e))⟩)
  · exact .inr ⟨m, k1 m hm, h2 m hc⟩
theorem regOk_mono {ops : Array Oper} {x y : List Meta} (h : Msle x y) (hr : regOk ops y = true) : regOk ops x = true := by
  simp only [regOk, Bool.and_eq_true, List.all_eq_true, List.mem_range] at hr ⊢
  refine ⟨hr.1, fun j hj i hi => ?_⟩
  have := hr.2 j hj i hi
  split at this
  · rename_i oi oj mi mj h1 h2 h3 h4
    cases e1 : x[i]? with
    | none => rw [h.get_none e1] at h3; cases h3
    | some mi' =>
      cases e2 : x[j]? with
      | none => rw [h.get_none e2] at h4; cases h4
      | some mj' =>
        obtain ⟨b1, g1, g2⟩ := h.get e1
        obtain ⟨b2, g3, g4⟩ := h.get e2
        rw [h3] at g1
        rw [h4] at g3
        cases g1
        cases g3
        simp only [h1, h2, Bool.or_eq_true, Bool.not_eq_true'] at this ⊢
        rcases this with this | this
        · left
          cases e : clash ops oi oj mi' mj' with
          | false => rfl
          | true => rw [clash_mono g2 g4 e] at this; cases this
        · exact .inr this
  · cases this

theorem wpS_acc {Γ : Gl} {P : Program} {ops ops' : Array Oper} {rid : Nat} {draw : Bool} {Q : Exit → St → Prop} : ∀ (os : List Oper) (i : Nat) (X : St) (acc acc' : List Meta), Msle acc' acc → wpS Γ P ops rid i os X acc (regK ops' draw Q) → wpS Γ P ops rid i os X acc' (regK ops' draw Q)
  | [], i, X, acc, acc', hl, h => ⟨fun e => regOk_mono hl (h.1 e), h.2⟩
  | o :: os, i, X, acc, acc', hl, h => by
    have run : (match stepF P rid i X o with
      | some (r, c) => c ∧ wpS Γ P ops rid (i + 1) os (X.app o.dst r) (acc ++ [r.info]) (regK ops' draw Q)
      | none => ∃ r, OpSpec Γ P o X r ∧ Tidy r ∧ wpS Γ P ops rid (i + 1) os (X.app o.dst r) (acc ++ [r.info]) (regK ops' draw Q)) → (match stepF P rid i X o with
      | some (r, c) => c ∧ wpS Γ P ops rid (i + 1) os (X.app o.dst r) (acc' ++ [r.info]) (regK ops' draw Q)
      | none => ∃ r, OpSpec Γ P o X r ∧ Tidy r ∧ wpS Γ P ops rid (i + 1) os (X.app o.dst r) (acc' ++ [r.info]) (regK ops' draw Q)) := by
      intro h
      split at h
      · exact ⟨h.1, wpS_acc os _ _ _ _ (hl.snoc (Mle.refl _)) h.2⟩
      · obtain ⟨r, h1, h2, h3⟩ := h
        exact ⟨r, h1, h2, wpS_acc os _ _ _ _ (hl.snoc (Mle.refl _)) h3⟩
    unfold wpS at h ⊢
    cases hg : o.guard with
    | none =>
      rw [hg] at h
      exact run h
    | some gw =>
      obtain ⟨g, want⟩ := gw
      rw [hg] at h
      obtain ⟨b, h1, h2, h3⟩ := h
      exact ⟨b, h1, fun e => run (h2 e), fun e => wpS_acc os _ _ _ _ (hl.snoc (Mle.refl _)) (h3 e)⟩
theorem Mle_nil (F : List Nm) : Mle ⟨[], [], false⟩ ⟨[], F, false⟩ := ⟨fun _ h => h, (fun _ h => nomatch h), fun h => h⟩

/-- A guarded operation that changes nothing but its slot, whichever way the guard goes. -/
theorem s_may {ops' : Array Oper} {draw : Bool} {Q : Exit → St → Prop} {g : Nat} {want b : Bool} (hg : o.guard = some (g, want)) (hb : wantIs (gslot ops X g) want = some b) {v : D} {F : List Nm} {c : Prop} (hs : b = true → stepF P rid i X o = some ({ val := v, F := F }, c)) (hc : b = true → c)
    {X' : St} (hX : X.app o.dst { val := if b = true then v else udf } = X') {i' : Nat} (hi : i + 1 = i') (h : wpS Γ P ops rid i' os X' (acc ++ [⟨[], F, false⟩]) (regK ops' draw Q)) : wpS Γ P ops rid i (o :: os) X acc (regK ops' draw Q) := by
  subst hX hi
  simp only [wpS, hg]
  refine ⟨b, hb, fun e => ?_, fun e => ?_⟩
  · simp only [hs e]
    refine ⟨hc e, ?_⟩
    rw [if_pos e] at h
    exact h
  · rw [if_neg (by rw [e]; simp)] at h
    exact wpS_acc _ _ _ _ _ ((Msle.refl acc).snoc (Mle_nil F)) h
theorem s_by_may {ops' : Array Oper} {draw : Bool} {Q : Exit → St → Prop} {g : Nat} {want b : Bool} (hg : o.guard = some (g, want)) (hb : wantIs (gslot ops X g) want = some b) {v : D} {F : List Nm} (hs : b = true → stepF P rid i X o = none) (hc : b = true → OpSpec Γ P o X { val := v, F := F })
    {X' : St} (hX : X.app o.dst { val := if b = true then v else udf } = X') {i' : Nat} (hi : i + 1 = i') (h : wpS Γ P ops rid i' os X' (acc ++ [⟨[], F, false⟩]) (regK ops' draw Q)) : wpS Γ P ops rid i (o :: os) X acc (regK ops' draw Q) := by
  subst hX hi
  simp only [wpS, hg]
  refine ⟨b, hb, fun e => ?_, fun e => ?_⟩
  · simp only [hs e]
    refine ⟨_, hc e, fun _ => rfl, ?_⟩
    rw [if_pos e] at h
    exact h
  · rw [if_neg (by rw [e]; simp)] at h
    exact wpS_acc _ _ _ _ _ ((Msle.refl acc).snoc (Mle_nil F)) h
theorem wpS_any {Γ : Gl} {P : Program} {ops ops' : Array Oper} {rid : Nat} {Q : Exit → St → Prop} : ∀ (os : List Oper) (i : Nat) (X : St) (acc acc' : List Meta), wpS Γ P ops rid i os X acc (regK ops' false Q) → wpS Γ P ops rid i os X acc' (regK ops' false Q)
  | [], i, X, acc, acc', h => ⟨(fun e => nomatch e), h.2⟩
  | o :: os, i, X, acc, acc', h => by
    have run : (match stepF P rid i X o with
      | some (r, c) => c ∧ wpS Γ P ops rid (i + 1) os (X.app o.dst r) (acc ++ [r.info]) (regK ops' false Q)
      | none => ∃ r, OpSpec Γ P o X r ∧ Tidy r ∧ wpS Γ P ops rid (i + 1) os (X.app o.dst r) (acc ++ [r.info]) (regK ops' false Q)) → (match stepF P rid i X o with
      | some (r, c) => c ∧ wpS Γ P ops rid (i + 1) os (X.app o.dst r) (acc' ++ [r.info]) (regK ops' false Q)
      | none => ∃ r, OpSpec Γ P o X r ∧ Tidy r ∧ wpS Γ P ops rid (i + 1) os (X.app o.dst r) (acc' ++ [r.info]) (regK ops' false Q)) := by
      intro h
      split at h
      · exact ⟨h.1, wpS_any os _ _ _ _ h.2⟩
      · obtain ⟨r, h1, h2, h3⟩ := h
        exact ⟨r, h1, h2, wpS_any os _ _ _ _ h3⟩
    unfold wpS at h ⊢
    cases hg : o.guard with
    | none =>
      rw [hg] at h
      exact run h
    | some gw =>
      obtain ⟨g, want⟩ := gw
      rw [hg] at h
      obtain ⟨b, h1, h2, h3⟩ := h
      exact ⟨b, h1, fun e => run (h2 e), fun e => wpS_any os _ _ _ _ (h3 e)⟩
section
variable {ops' : Array Oper} {Q : Exit → St → Prop}
theorem s_op0 (hg : o.guard = none) {r : Rec} {c : Prop} (hs : stepF P rid i X o = some (r, c)) (hc : c) {X' : St} (hX : X.app o.dst r = X') {i' : Nat} (hi : i + 1 = i') (h : wpS Γ P ops rid i' os X' [] (regK ops' false Q)) : wpS Γ P ops rid i (o :: os) X [] (regK ops' false Q) :=
  s_op hg hs hc hX rfl hi (wpS_any _ _ _ _ _ h)
theorem s_by0 (hg : o.guard = none) (hs : stepF P rid i X o = none) {r : Rec} (ho : OpSpec Γ P o X r) (ht : Tidy r) {X' : St} (hX : X.app o.dst r = X') {i' : Nat} (hi : i + 1 = i') (h : wpS Γ P ops rid i' os X' [] (regK ops' false Q)) : wpS Γ P ops rid i (o :: os) X [] (regK ops' false Q) :=
  s_by hg hs ho ht hX rfl hi (wpS_any _ _ _ _ _ h)
theorem s_op_if0 {g : Nat} {want : Bool} (hg : o.guard = some (g, want)) (hb : wantIs (gslot ops X g) want = some true) {r : Rec} {c : Prop} (hs : stepF P rid i X o = some (r, c)) (hc : c) {X' : St} (hX : X.app o.dst r = X') {i' : Nat} (hi : i + 1 = i') (h : wpS Γ P ops rid i' os X' [] (regK ops' false Q)) : wpS Γ P ops rid i (o :: os) X [] (regK ops' false Q) :=
  s_op_if hg hb hs hc hX rfl hi (wpS_any _ _ _ _ _ h)
theorem s_by_if0 {g : Nat} {want : Bool} (hg : o.guard = some (g, want)) (hb : wantIs (gslot ops X g) want = some true) (hs : stepF P rid i X o = none) {r : Rec} (ho : OpSpec Γ P o X r) (ht : Tidy r) {X' : St} (hX : X.app o.dst r = X') {i' : Nat} (hi : i + 1 = i') (h : wpS Γ P ops rid i' os X' [] (regK ops' false Q)) : wpS Γ P ops rid i (o :: os) X [] (regK ops' false Q) :=
  s_by_if hg hb hs ho ht hX rfl hi (wpS_any _ _ _ _ _ h)
theorem s_skip0 {g : Nat} {want : Bool} (hg : o.guard = some (g, want)) (hb : wantIs (gslot ops X g) want = some false) {X' : St} (hX : X.app o.dst { val := udf } = X') {i' : Nat} (hi : i + 1 = i') (h : wpS Γ P ops rid i' os X' [] (regK ops' false Q)) : wpS Γ P ops rid i (o :: os) X [] (regK ops' false Q) :=
  s_skip hg hb hX hi (wpS_any _ _ _ _ _ h)
theorem s_may0 {g : Nat} {want b : Bool} (hg : o.guard = some (g, want)) (hb : wantIs (gslot ops X g) want = some b) {v : D} {F : List Nm} {c : Prop} (hs : b = true → stepF P rid i X o = some ({ val := v, F := F }, c)) (hc : b = true → c)
    {X' : St} (hX : X.app o.dst { val := if b = true then v else udf } = X') {i' : Nat} (hi : i + 1 = i') (h : wpS Γ P ops rid i' os X' [] (regK ops' false Q)) : wpS Γ P ops rid i (o :: os) X [] (regK ops' false Q) :=
  s_may hg hb hs hc hX hi (wpS_any _ _ _ _ _ h)
theorem s_by_may0 {g : Nat} {want b : Bool} (hg : o.guard = some (g, want)) (hb : wantIs (gslot ops X g) want = some b) {v : D} {F : List Nm} (hs : b = true → stepF P rid i X o = none) (hc : b = true → OpSpec Γ P o X { val := v, F := F })
    {X' : St} (hX : X.app o.dst { val := if b = true then v else udf } = X') {i' : Nat} (hi : i + 1 = i') (h : wpS Γ P ops rid i' os X' [] (regK ops' false Q)) : wpS Γ P ops rid i (o :: os) X [] (regK ops' false Q) :=
  s_by_may hg hb hs hc hX hi (wpS_any _ _ _ _ _ h)
end
theorem wantIs_bool {b want : Bool} : wantIs (.t (.v (.bool b))) want = some (b == want) := rfl
theorem wantIs_udf {want : Bool} : wantIs udf want = some false := rfl
theorem wantIs_if {c b want : Bool} : wantIs (if c = true then .t (.v (.bool b)) else udf) want = some (c && (b == want)) := by cases c <;> rfl
theorem if_not {b : Bool} {x y : D} : (if (!b) = true then x else y) = if b = true then y else x := by cases b <;> rfl
theorem if_if2 {b : Bool} {x y z : D} : (if b = true then x else (if b = true then y else z)) = if b = true then x else z := by cases b <;> rfl
theorem beq_t {b : Bool} : (b == true) = b := by cases b <;> rfl
theorem beq_f {b : Bool} : (b == false) = !b := by cases b <;> rfl
/-- A choice between plain values. -/
theorem if_bool {b : Bool} {x y : Bool} : (if b = true then D.t (.v (.bool x)) else D.t (.v (.bool y))) = .t (.v (.bool (if b then x else y))) := by cases b <;> rfl
theorem if_int {b : Bool} {k : IntKind} {x y : Int} : (if b = true then D.t (.v (.int k x)) else D.t (.v (.int k y))) = .t (.v (.int k (if b then x else y))) := by cases b <;> rfl
theorem if_text {b : Bool} {x y : ByteArray} : (if b = true then D.t (.v (.string x)) else D.t (.v (.string y))) = .t (.v (.string (if b then x else y))) := by cases b <;> rfl
theorem if_if {b : Bool} {x y z : D} : (if b = true then (if b = true then x else y) else z) = if b = true then x else z := by cases b <;> rfl
theorem if_if' {b : Bool} {x y z : D} : (if b = true then x else (if b = false then y else z)) = if b = true then x else y := by cases b <;> rfl
theorem if_and {b x : Bool} : (if b = true then x else false) = (b && x) := by cases b <;> rfl
theorem if_or {b x : Bool} : (if b = true then true else x) = (b || x) := by cases b <;> rfl
end

/-! ### names, which is whose -/
def srcL : List (Nm × Nm) → Nm → Option Nm
  | [], _ => none
  | (a, b) :: r, m => if a = m then some b else srcL r m
def notIn : List (Nm × Nm) → Nm → Prop
  | [], _ => True
  | (_, b) :: r, m => b ≠ m ∧ notIn r m
def ObsVw (S : List (Nm × Nm)) (LZ : List (Nm × Ob)) : List (Nm × Ob) → Prop
  | [] => True
  | (m, ob') :: r => (match srcL S m with
    | none => ob'.row = true ∧ ob'.cells = []
    | some m0 => match look LZ m0 with
      | some ob => ob'.ty = ob.ty ∧ rowOk m0 ob' ob ∧ (ob'.own = true → ob.own = true) ∧ VwL (srcL S) (look LZ) (notIn S) ob'.cells ob.cells
      | none => False) ∧ ObsVw S LZ r
def pOk : Nm → Nm → Prop
  | .p k, b => b = .p k
  | _, _ => True
def SrcOk (LF : List (Nm × Ob)) : List (Nm × Nm) → Prop
  | [] => True
  | (a, b) :: r => (look LF a).isSome = true ∧ srcL r a = none ∧ notIn r b ∧ pOk a b ∧ SrcOk LF r

theorem srcL_some : ∀ {S : List (Nm × Nm)} {m m0 : Nm}, srcL S m = some m0 → (m, m0) ∈ S
  | [], m, m0, h => by cases h
  | (a, b) :: r, m, m0, h => by
    simp only [srcL] at h
    split at h
    · rename_i e; subst e; cases h; simp
    · exact List.mem_cons_of_mem _ (srcL_some h)
theorem notIn_no : ∀ {S : List (Nm × Nm)} {m m0 : Nm}, (m, m0) ∈ S → ¬ notIn S m0
  | (a, b) :: r, m, m0, h, ⟨h1, h2⟩ => by
    rcases List.mem_cons.1 h with h | h
    · cases h; exact h1 rfl
    · exact notIn_no h h2
theorem SrcOk.mem {LF : List (Nm × Ob)} : ∀ {S : List (Nm × Nm)}, SrcOk LF S → ∀ {m m0}, (m, m0) ∈ S → (look LF m).isSome = true ∧ pOk m m0
  | (a, b) :: r, ⟨h1, h2, h3, h4, h5⟩, m, m0, h => by
    rcases List.mem_cons.1 h with h | h
    · cases h; exact ⟨h1, h4⟩
    · exact h5.mem h
theorem SrcOk.inj {LF : List (Nm × Ob)} : ∀ {S : List (Nm × Nm)}, SrcOk LF S → ∀ {m m' m0}, (m, m0) ∈ S → (m', m0) ∈ S → m = m'
  | (a, b) :: r, ⟨h1, h2, h3, h4, h5⟩, m, m', m0, h, h' => by
    rcases List.mem_cons.1 h with h | h <;> rcases List.mem_cons.1 h' with h' | h'
    · cases h; cases h'; rfl
    · cases h; exact absurd h3 (notIn_no h')
    · cases h'; exact absurd h3 (notIn_no h)
    · exact h5.inj h h'
theorem ObsVw.mem {S : List (Nm × Nm)} {LZ : List (Nm × Ob)} : ∀ {LF : List (Nm × Ob)}, ObsVw S LZ LF → ∀ {m ob'}, look LF m = some ob' →
    (srcL S m = none ∧ ob'.row = true ∧ ob'.cells = []) ∨ ∃ m0 ob, srcL S m = some m0 ∧ look LZ m0 = some ob ∧ ob'.ty = ob.ty ∧ rowOk m0 ob' ob ∧ (ob'.own = true → ob.own = true) ∧ VwL (srcL S) (look LZ) (notIn S) ob'.cells ob.cells
  | [], _, m, ob', h => by cases h
  | (a, o) :: r, ⟨h1, h2⟩, m, ob', h => by
    simp only [look] at h
    split at h
    · rename_i e
      subst e
      cases h
      split at h1
      · rename_i hs; exact .inl ⟨hs, h1⟩
      · rename_i m0 hs
        split at h1
        · rename_i ob hm; exact .inr ⟨m0, ob, hs, hm, h1⟩
        · exact h1.elim
    · exact h2.mem h
theorem hpVw_of {S : List (Nm × Nm)} {LZ LF : List (Nm × Ob)} (h : ObsVw S LZ LF) (hs : SrcOk LF S) : HpVw (srcL S) (notIn S) (look LZ) (look LF) :=
  ⟨fun m ob' hm => h.mem hm, (fun m m0 hm e => by have := (hs.mem (srcL_some hm)).1; rw [e] at this; exact nomatch this), fun m m' m0 h1 h2 => hs.inj (srcL_some h1) (srcL_some h2), fun m m0 ob' h1 h2 _ => absurd h2 (notIn_no (srcL_some h1))⟩
theorem pOk_p {k : Nat} {b : Nm} (h : pOk (.p k) b) : b = .p k := h
theorem le_of {Γ : Gl} {sl sl' : List D} {LZ LF : List (Nm × Ob)} (S : List (Nm × Nm)) (h1 : VwL (srcL S) (look LZ) (notIn S) sl' sl) (h2 : ObsVw S LZ LF) (h3 : SrcOk LF S) : Le Γ ⟨sl, look LZ⟩ ⟨sl', look LF⟩ := by
  refine View.le (src := srcL S) (len := notIn S) ⟨h1, hpVw_of h2 h3, fun k m0 hk => pOk_p (h3.mem (srcL_some hk)).2, fun k ob' hk hr => ?_⟩
  rcases h2.mem hk with ⟨_, h4, _⟩ | ⟨m0, ob, h4, _⟩
  · rw [h4] at hr; cases hr
  · rw [h4, pOk_p (h3.mem (srcL_some h4)).2]
/-- Names unchanged. -/
theorem le_same {Γ : Gl} {sl sl' : List D} {LZ LF : List (Nm × Ob)} (h1 : VwL (srcL (LF.map fun p => (p.1, p.1))) (look LZ) (notIn (LF.map fun p => (p.1, p.1))) sl' sl) (h2 : ObsVw (LF.map fun p => (p.1, p.1)) LZ LF) (h3 : SrcOk LF (LF.map fun p => (p.1, p.1))) : Le Γ ⟨sl, look LZ⟩ ⟨sl', look LF⟩ := le_of _ h1 h2 h3

def setAll : List D → List (Nat × D) → List D
  | sl, [] => sl
  | sl, (s, d) :: r => setAll (sl.set s d) r
def loopF {α : Type} (Γ : Gl) (F : α → St) (hI : α → Prop) (μ : α → Nat) (n : Nat) (Q : Exit → St → Prop) (e : Exit) (Z : St) : Prop := match e with | .normal => ∃ a, Le Γ Z (F a) ∧ hI a ∧ μ a < n | e => Q e Z
theorem seqK_mono {Γ : Gl} {P : Program} : ∀ (c : Code) {Q Q' : Exit → St → Prop}, (∀ e Z, Q e Z → Q' e Z) → ∀ X, wpK Γ P c Q X → wpK Γ P c Q' X
  | .skip, _, _, hQ, X, h => hQ _ _ h
  | .region id ops draw, _, _, hQ, X, h => by
    have key : ∀ (os : List Oper) (i : Nat) (X : St) (acc : List Meta) {K K' : St → List Meta → Prop}, (∀ Z ms, K Z ms → K' Z ms) → wpS Γ P ops id i os X acc K → wpS Γ P ops id i os X acc K' := by
      intro os
      induction os with
      | nil => intro i X acc K K' hK h; exact hK _ _ h
      | cons o os ih =>
        intro i X acc K K' hK h
        have run : (match stepF P id i X o with
          | some (r, c) => c ∧ wpS Γ P ops id (i + 1) os (X.app o.dst r) (acc ++ [r.info]) K
          | none => ∃ r, OpSpec Γ P o X r ∧ Tidy r ∧ wpS Γ P ops id (i + 1) os (X.app o.dst r) (acc ++ [r.info]) K) → (match stepF P id i X o with
          | some (r, c) => c ∧ wpS Γ P ops id (i + 1) os (X.app o.dst r) (acc ++ [r.info]) K'
          | none => ∃ r, OpSpec Γ P o X r ∧ Tidy r ∧ wpS Γ P ops id (i + 1) os (X.app o.dst r) (acc ++ [r.info]) K') := by
          intro h
          split at h
          · exact ⟨h.1, ih _ _ _ hK h.2⟩
          · obtain ⟨r, h1, h2, h3⟩ := h
            exact ⟨r, h1, h2, ih _ _ _ hK h3⟩
        unfold wpS at h ⊢
        cases hg : o.guard with
        | none => rw [hg] at h; exact run h
        | some gw =>
          obtain ⟨g, want⟩ := gw
          rw [hg] at h
          obtain ⟨b, h1, h2, h3⟩ := h
          exact ⟨b, h1, fun e => run (h2 e), fun e => ih _ _ _ hK (h3 e)⟩
    exact key _ _ _ _ (fun Z ms h => ⟨h.1, hQ _ _ h.2⟩) h
  | .seq a b, Q, Q', hQ, X, h => seqK_mono a (fun e Z h => by
      cases e with
      | normal => exact ⟨_, h.choose_spec.1, seqK_mono b hQ _ h.choose_spec.2⟩
      | exit id => exact hQ _ _ h
      | goto l => exact hQ _ _ h
      | ret => exact hQ _ _ h
      | panic ch => exact hQ _ _ h
      | outgrown => exact hQ _ _ h) X h
  | .cond c x y, _, _, hQ, X, ⟨b, h1, h2, h3⟩ => ⟨b, h1, fun e => seqK_mono x hQ X (h2 e), fun e => seqK_mono y hQ X (h3 e)⟩
  | .block id c, Q, Q', hQ, X, h => seqK_mono c (fun e Z h => by
      cases e with
      | exit id' =>
        simp only at h ⊢
        split
        · rename_i e; rw [if_pos e] at h; exact hQ _ _ h
        · rename_i e; rw [if_neg e] at h; exact hQ _ _ h
      | normal => exact hQ _ _ h
      | goto l => exact hQ _ _ h
      | ret => exact hQ _ _ h
      | panic ch => exact hQ _ _ h
      | outgrown => exact hQ _ _ h) X h
  | .loop c, Q, Q', hQ, X, ⟨I, μ, h1, h2⟩ => ⟨I, μ, h1, fun Y hI => seqK_mono c (fun e Z h => by
      cases e with
      | normal => exact h
      | exit id => exact hQ _ _ h
      | goto l => exact hQ _ _ h
      | ret => exact hQ _ _ h
      | panic ch => exact hQ _ _ h
      | outgrown => exact hQ _ _ h) Y (h2 Y hI)⟩
  | .exit id, _, _, hQ, X, h => hQ _ _ h
  | .label l, _, _, hQ, X, h => hQ _ _ h
  | .goto l, _, _, hQ, X, h => hQ _ _ h
  | .ret, _, _, hQ, X, h => hQ _ _ h
  | .scope c, _, _, hQ, X, h => h.elim
  | .rangeFunc f ps as b, _, _, hQ, X, h => h.elim
  | .refuse why, _, _, hQ, X, h => h.elim

theorem least (p : Nat → Prop) : (∃ n, p n) → ∃ n, p n ∧ ∀ k, p k → n ≤ k := by
  rintro ⟨n, h⟩
  induction n using Nat.strongRecOn with
  | _ n ih =>
    by_cases e : ∃ k, k < n ∧ p k
    · obtain ⟨k, h1, h2⟩ := e
      exact ih k h1 h2
    · exact ⟨n, h, fun k hk => Nat.le_of_not_lt fun hlt => e ⟨k, hlt, hk⟩⟩
open Classical in
theorem k_loopF {Γ : Gl} {P : Program} {Q : Exit → St → Prop} {c : Code} {α : Type} {sl : List D} {L : List (Nm × Ob)} (F : List D → List (Nm × Ob) → α → St) (hI : α → Prop) (μ : α → Nat) (a0 : α) (h0 : Le Γ ⟨sl, look L⟩ (F sl L a0)) (h1 : hI a0)
    (h : ∀ a, hI a → wpK Γ P c (loopF Γ (F sl L) hI μ (μ a) Q) (F sl L a)) : wpK Γ P (.loop c) Q ⟨sl, look L⟩ := by
  let G := F sl L
  let ex (Y : St) : Prop := ∃ n a, hI a ∧ G a = Y ∧ μ a = n
  let m (Y : St) : Nat := if hY : ex Y then (least _ hY).choose else 0
  refine ⟨fun Y => ∃ a, hI a ∧ Y = G a, m, ⟨G a0, h0, a0, h1, rfl⟩, ?_⟩
  rintro Y ⟨a1, ha1, rfl⟩
  have hY : ex (G a1) := ⟨_, a1, ha1, rfl, rfl⟩
  obtain ⟨a, ha, hGa, hμ⟩ := (least _ hY).choose_spec.1
  have hm : m (G a1) = μ a := by
    show (if hY : ex (G a1) then (least _ hY).choose else 0) = μ a
    rw [dif_pos hY, hμ]
  have := h a ha
  change wpK Γ P c (loopF Γ G hI μ (μ a) Q) (G a) at this
  rw [hGa] at this
  refine seqK_mono c (fun e Z h => ?_) _ this
  cases e with
  | normal =>
    obtain ⟨a', h2, h3, h4⟩ := h
    refine ⟨G a', h2, ⟨a', h3, rfl⟩, ?_⟩
    have hY' : ex (G a') := ⟨_, a', h3, rfl, rfl⟩
    have : m (G a') ≤ μ a' := by
      show (if hY : ex (G a') then (least _ hY).choose else 0) ≤ μ a'
      rw [dif_pos hY']
      exact (least _ hY').choose_spec.2 _ ⟨a', h3, rfl, rfl⟩
    rw [hm]
    omega
  | exit id => exact h
  | goto l => exact h
  | ret => exact h
  | panic ch => exact h
  | outgrown => exact h
theorem q_loopF {α : Type} {Γ : Gl} {F : α → St} {hI : α → Prop} {μ : α → Nat} {n : Nat} {Q : Exit → St → Prop} {X : St} (a : α) (h1 : Le Γ X (F a)) (h2 : hI a) (h3 : μ a < n) : loopF Γ F hI μ n Q .normal X := ⟨a, h1, h2, h3⟩
theorem q_loopF_exit {α : Type} {Γ : Gl} {F : α → St} {hI : α → Prop} {μ : α → Nat} {n id : Nat} {Q : Exit → St → Prop} {X : St} (h : Q (.exit id) X) : loopF Γ F hI μ n Q (.exit id) X := h
theorem q_loopF_ret {α : Type} {Γ : Gl} {F : α → St} {hI : α → Prop} {μ : α → Nat} {n : Nat} {Q : Exit → St → Prop} {X : St} (h : Q .ret X) : loopF Γ F hI μ n Q .ret X := h
/-- Both ways out of a piece meet in a state. -/
def meetK (Γ : Gl) (M : St) (Q : Exit → St → Prop) (e : Exit) (Z : St) : Prop := match e with | .normal => Le Γ Z M | e => Q e Z
theorem q_meet {Γ : Gl} {M X : St} {Q : Exit → St → Prop} (h : Le Γ X M) : meetK Γ M Q .normal X := h
theorem q_meet_exit {Γ : Gl} {M X : St} {Q : Exit → St → Prop} {id : Nat} (h : Q (.exit id) X) : meetK Γ M Q (.exit id) X := h
theorem q_meet_ret {Γ : Gl} {M X : St} {Q : Exit → St → Prop} (h : Q .ret X) : meetK Γ M Q .ret X := h
theorem k_meet {Γ : Gl} {P : Program} {Q : Exit → St → Prop} {a b : Code} {X : St} (M : St) (h : wpK Γ P a (meetK Γ M Q) X) (h' : wpK Γ P b Q M) : wpK Γ P (.seq a b) Q X :=
  seqK_mono a (fun e Z h => by
    cases e with
    | normal => exact ⟨M, h, h'⟩
    | exit id => exact h
    | goto l => exact h
    | ret => exact h
    | panic ch => exact h
    | outgrown => exact h) X h

/-! ### the end of a function -/
theorem HpRes_nil : HpRes [] [] = fun _ => none := by funext m; cases m <;> rfl
/-- Nothing handed over, nothing made: the result is read off. -/
theorem ret_trees {P : Program} {fn : Func} {Z : St} {r d : D} (h : resD P Z fn.results.toList = some d) (hv : Vw (fun _ => none) Z.hp (fun _ => True) r d) : RetOk P fn Z r [] [] :=
  ⟨d, fun _ => none, fun _ => True, h, hv, by rw [HpRes_nil]; exact ⟨by simp, by simp, by simp, by simp⟩, by rw [HpRes_nil]; simp⟩
theorem mapM_nil' {α β : Type} (f : α → Option β) : List.mapM f [] = some [] := rfl
theorem mapM_cons' {α β : Type} (f : α → Option β) (a : α) (l : List α) : List.mapM f (a :: l) = (f a).bind fun b => (List.mapM f l).bind fun bs => some (b :: bs) := by
  rw [List.mapM_cons]; rfl
def resP : Nat → List (Option Ob) → List (Nm × Ob)
  | _, [] => []
  | k, none :: r => resP (k + 1) r
  | k, some o :: r => (.p k, o) :: resP (k + 1) r
def resN : Nat → List Ob → List (Nm × Ob)
  | _, [] => []
  | k, o :: r => (.n k, o) :: resN (k + 1) r
theorem look_resP : ∀ (ps : List (Option Ob)) (k : Nat) (L : List (Nm × Ob)) (j : Nat), (∀ i, look L (.p i) = none) → look (resP k ps ++ L) (.p j) = if k ≤ j then (ps[j - k]?).join else none
  | [], k, L, j, hL => by simp [resP, hL]
  | none :: r, k, L, j, hL => by
    rw [resP, look_resP r (k + 1) L j hL]
    by_cases e : k ≤ j
    · rw [if_pos e]
      by_cases e' : j = k
      · subst e'; rw [if_neg (by omega)]; simp
      · rw [if_pos (by omega), show j - k = (j - (k + 1)) + 1 from by omega]; simp
    · rw [if_neg e, if_neg (by omega)]
  | some o :: r, k, L, j, hL => by
    simp only [resP, List.cons_append, look]
    by_cases e' : j = k
    · subst e'; simp
    · rw [if_neg (by simpa using fun h => e' h.symm), look_resP r (k + 1) L j hL]
      by_cases e : k ≤ j
      · rw [if_pos e, if_pos (by omega), show j - k = (j - (k + 1)) + 1 from by omega]; simp
      · rw [if_neg e, if_neg (by omega)]
theorem look_resN : ∀ (ns : List Ob) (k j : Nat), look (resN k ns) (.n j) = if k ≤ j then ns[j - k]? else none
  | [], k, j => by simp [resN, look]
  | o :: r, k, j => by
    simp only [resN, look]
    by_cases e' : j = k
    · subst e'; simp
    · rw [if_neg (by simpa using fun h => e' h.symm), look_resN r (k + 1) j]
      by_cases e : k ≤ j
      · rw [if_pos e, if_pos (by omega), show j - k = (j - (k + 1)) + 1 from by omega]; simp
      · rw [if_neg e, if_neg (by omega)]
theorem look_resN_p : ∀ (ns : List Ob) (k j : Nat), look (resN k ns) (.p j) = none
  | [], k, j => rfl
  | o :: r, k, j => by simp [resN, look, look_resN_p r]
theorem look_resN_r : ∀ (ns : List Ob) (k a b c : Nat), look (resN k ns) (.r a b c) = none
  | [], k, a, b, c => rfl
  | o :: r, k, a, b, c => by simp [resN, look, look_resN_r r]
theorem look_resP_o : ∀ (ps : List (Option Ob)) (k : Nat) (L : List (Nm × Ob)) (m : Nm), (∀ i, m ≠ .p i) → look (resP k ps ++ L) m = look L m
  | [], k, L, m, h => rfl
  | none :: r, k, L, m, h => look_resP_o r (k + 1) L m h
  | some o :: r, k, L, m, h => by simp only [resP, List.cons_append, look]; rw [if_neg (fun e => h k e.symm), look_resP_o r (k + 1) L m h]
theorem HpRes_look (ps' : List (Option Ob)) (ns : List Ob) : HpRes ps' ns = look (resP 0 ps' ++ resN 0 ns) := by
  funext m
  cases m with
  | p k => rw [look_resP _ _ _ _ (look_resN_p ns 0)]; simp [HpRes]
  | n k => rw [look_resP_o _ _ _ _ (by simp), look_resN]; simp [HpRes]
  | r a b c => rw [look_resP_o _ _ _ _ (by simp), look_resN_r]; rfl
theorem HpOf_look (ps : List Ob) : HpOf ps = look (resP 0 (ps.map some)) := by
  have := HpRes_look (ps.map some) []
  simp only [resN, List.append_nil] at this
  rw [← this]
  funext m
  cases m with
  | p k => simp [HpOf, HpRes]; cases ps[k]? <;> rfl
  | n k => rfl
  | r a b c => rfl
/-- The result and the objects, read off. -/
theorem ret_of {P : Program} {fn : Func} {sl : List D} {LZ : List (Nm × Ob)} {r d : D} {ps' : List (Option Ob)} {ns : List Ob} (S : List (Nm × Nm)) (h : resD P ⟨sl, look LZ⟩ fn.results.toList = some d) (h1 : Vw (srcL S) (look LZ) (notIn S) r d) (h2 : ObsVw S LZ (resP 0 ps' ++ resN 0 ns)) (h3 : SrcOk (resP 0 ps' ++ resN 0 ns) S) : RetOk P fn ⟨sl, look LZ⟩ r ps' ns := by
  refine ⟨d, srcL S, notIn S, h, h1, by rw [HpRes_look]; exact hpVw_of h2 h3, fun k ob' hk hr => ?_⟩
  rw [HpRes_look] at hk
  rcases h2.mem hk with ⟨_, h4, _⟩ | ⟨m0, ob, h4, _⟩
  · rw [h4] at hr; cases hr
  · rw [h4, pOk_p (h3.mem (srcL_some h4)).2]
/-- An empty slice may be nil, or not. -/
theorem good_empty {Γ : Gl} {P : Program} {f : FuncId} {pre post : List D} {ps : List Ob} {r : D} {ps' : List (Option Ob)} {ns : List Ob} (h : ∀ A c, c ≤ maxLen → Good Γ P f (pre ++ .t (.v (.slice A 0 c)) :: post) ps r ps' ns) : Good Γ P f (pre ++ .t (.sl 0 []) :: post) ps r ps' ns := by
  intro w A η vals h1 h2 h3 h4 h5 h6 h7
  have key : ∀ (pre : List D) (vals : List Value), RepsA w (Mx (HpOf ps) η A) η (pre ++ .t (.sl 0 []) :: post) vals → ∃ B c, c ≤ maxLen ∧ RepsA w (Mx (HpOf ps) η A) η (pre ++ .t (.v (.slice B 0 c)) :: post) vals := by
    intro pre
    induction pre with
    | nil =>
      intro vals h
      obtain ⟨u, us, rfl, ⟨B, c, rfl, _, h8, _⟩, h9⟩ := h
      exact ⟨B, c, h8, _, us, rfl, rfl, h9⟩
    | cons d pre ih =>
      intro vals h
      obtain ⟨u, us, rfl, h8, h9⟩ := h
      obtain ⟨B, c, h10, h11⟩ := ih us h9
      exact ⟨B, c, h10, u, us, rfl, h8, h11⟩
  obtain ⟨B, c, h8, h9⟩ := key pre vals h7
  exact h B c h8 w A η vals h1 h2 h3 h4 h5 h6 h9

/-! ### reckoning with views -/
section
variable {src : Nm → Option Nm} {hp : Nm → Option Ob} {len : Nm → Prop}
theorem VwL_nil {ds : List D} : VwL src hp len [] ds ↔ ds = [] := Iff.rfl
theorem VwL_cons {c d : D} {cs ds : List D} : VwL src hp len (c :: cs) (d :: ds) ↔ Vw src hp len c d ∧ VwL src hp len cs ds := by
  constructor
  · rintro ⟨d', ds', h, h1, h2⟩; cases h; exact ⟨h1, h2⟩
  · rintro ⟨h1, h2⟩; exact ⟨d, ds, rfl, h1, h2⟩
theorem Vw_bad {d : D} : Vw src hp len .bad d ↔ True := Iff.rfl
theorem Vw_t {x : T} {d : D} : Vw src hp len (.t x) d ↔ VwT hp len x d := Iff.rfl
theorem Vw_ptr {m m' : Nm} {off off' : Nat} : Vw src hp len (.ptr m off) (.ptr m' off') ↔ src m = some m' ∧ off' = off := by
  constructor
  · rintro ⟨m0, h, h'⟩; cases h'; exact ⟨h, rfl⟩
  · rintro ⟨h, rfl⟩; exact ⟨m', h, rfl⟩
theorem Vw_msl {m m' : Nm} {off off' n n' sz sz' : Nat} : Vw src hp len (.msl m off n sz) (.msl m' off' n' sz') ↔ src m = some m' ∧ off' = off ∧ n' = n ∧ sz' = sz := by
  constructor
  · rintro (⟨m0, h, h'⟩ | ⟨_, h'⟩)
    · cases h'; exact ⟨h, rfl, rfl, rfl⟩
    · cases h'
  · rintro ⟨h, rfl, rfl, rfl⟩; exact .inl ⟨m', h, rfl⟩
theorem Vw_nilmsl {m : Nm} {off n sz : Nat} : Vw src hp len (.msl m off n sz) (.t (.v (.slice none 0 0))) ↔ n = 0 := by
  constructor
  · rintro (⟨m0, h, h'⟩ | ⟨h, _⟩)
    · cases h'
    · exact h
  · rintro rfl; exact .inr ⟨rfl, rfl⟩
theorem Vw_rop {cs : List T} : Vw src hp len (.rop cs) (.rop cs) ↔ True := ⟨fun _ => trivial, fun _ => .inl rfl⟩
theorem Vw_agg {cs ds : List D} : Vw src hp len (.agg cs) (.agg ds) ↔ VwL src hp len cs ds := by
  constructor
  · rintro ⟨ds', h, h1⟩; cases h; exact h1
  · intro h; exact ⟨ds, rfl, h⟩
theorem Vw_tup {cs ds : List D} : Vw src hp len (.tup cs) (.tup ds) ↔ VwL src hp len cs ds := by
  constructor
  · rintro ⟨ds', h, h1⟩; cases h; exact h1
  · intro h; exact ⟨ds, rfl, h⟩
theorem Vw_ifc {t t' : TypeId} {c d : D} : Vw src hp len (.ifc t c) (.ifc t' d) ↔ t' = t ∧ Vw src hp len c d := by
  constructor
  · rintro ⟨d', h, h1⟩; cases h; exact ⟨rfl, h1⟩
  · rintro ⟨rfl, h⟩; exact ⟨d, rfl, h⟩
theorem VwT_msl {n n' off sz : Nat} {m : Nm} {cs : List T} : VwT hp len (.sl n cs) (.msl m off n' sz) ↔ n' = n ∧ len m ∧ ∃ ob, hp m = some ob ∧ off + n * sz ≤ ob.cells.length ∧ VwTs hp len cs ((ob.cells.drop off).take (n * sz)) := by
  constructor
  · rintro (h | ⟨m', off', sz', ob, h, h1, h2, h3, h4⟩ | ⟨_, _, h⟩)
    · cases h
    · cases h; exact ⟨rfl, h1, ob, h2, h3, h4⟩
    · cases h
  · rintro ⟨rfl, h1, ob, h2, h3, h4⟩; exact .inr (.inl ⟨m, off, sz, ob, rfl, h1, h2, h3, h4⟩)
theorem VwT_agg {cs : List T} {ds : List D} : VwT hp len (.agg cs) (.agg ds) ↔ VwTs hp len cs ds := by
  constructor
  · rintro (h | ⟨ds', h, h1⟩)
    · cases h
    · cases h; exact h1
  · intro h; exact .inr ⟨ds, rfl, h⟩
theorem VwT_v {x y : Value} : VwT hp len (.v x) (.t (.v y)) ↔ y = x := ⟨fun h => by cases h; rfl, fun h => by cases h; rfl⟩
theorem VwT_sl {n n' : Nat} {cs cs' : List T} (h1 : n' = n) (h2 : cs' = cs) : VwT hp len (.sl n cs) (.t (.sl n' cs')) := by subst h1 h2; exact VwT_refl _ _ _
theorem VwT_nil {n : Nat} {cs : List T} : VwT hp len (.sl n cs) (.t (.v (.slice none 0 0))) ↔ n = 0 ∧ cs = [] := by
  constructor
  · rintro (h | ⟨m', off', sz', ob, h, _⟩ | ⟨h, h', _⟩)
    · cases h
    · cases h
    · exact ⟨h, h'⟩
  · rintro ⟨rfl, rfl⟩; exact .inr (.inr ⟨rfl, rfl, rfl⟩)
theorem VwTs_cons {c : T} {d : D} {cs : List T} {ds : List D} : VwTs hp len (c :: cs) (d :: ds) ↔ VwT hp len c d ∧ VwTs hp len cs ds := by
  constructor
  · rintro ⟨d', ds', h, h1, h2⟩; cases h; exact ⟨h1, h2⟩
  · rintro ⟨h1, h2⟩; exact ⟨d, ds, rfl, h1, h2⟩
theorem VwTs_app : ∀ {a b : List T} {ds : List D}, VwTs hp len (a ++ b) (a.map D.t ++ ds) ↔ VwTs hp len b ds
  | [], b, ds => Iff.rfl
  | c :: a, b, ds => by
    simp only [List.cons_append, List.map_cons, VwTs_cons, VwTs_app, VwT_refl, true_and]
theorem VwTs_nil {ds : List D} : VwTs hp len [] ds ↔ ds = [] := Iff.rfl
theorem VwL_refl_map : ∀ cs : List T, VwL src hp len (cs.map .t) (cs.map .t)
  | [] => rfl
  | c :: cs => ⟨_, _, rfl, VwT_refl hp len c, VwL_refl_map cs⟩
end
theorem renL_map_t (ρ : Nm → Nm) : ∀ cs : List T, D.renL ρ (cs.map .t) = cs.map .t
  | [] => rfl
  | c :: cs => by simp [D.renL, D.ren, renL_map_t ρ cs]
theorem flatL_map_t : ∀ cs : List T, D.flatL (cs.map .t) = T.flatL cs
  | [] => rfl
  | c :: cs => by simp [D.flatL, T.flatL, D.flat, flatL_map_t cs]
theorem flatL_map {α : Type} (f : α → T) (h : ∀ a, (f a).flat = true) : ∀ l : List α, T.flatL (l.map f) = true
  | [] => rfl
  | a :: l => by simp [T.flatL, h a, flatL_map f h l]
theorem srcOf_nil : srcOf [] = fun _ => none := by funext m; cases m <;> simp [srcOf]
theorem HpOf_nil' : HpOf [] = fun _ => none := by funext m; cases m <;> rfl
/-- A call of a function that is handed no object. -/
theorem spec_call0 {Γ : Gl} {P : Program} {o : Oper} {X : St} (g : Operand) (args : Array Operand) (tys : Array TypeId) (h : o.op = .call { callee := .value g, args := args, argTypes := tys }) {f : FuncId} {caps : List D} (hg : ev X g = .fn f caps) (hc : callOk P f = true)
    (len : List Nm) {cargs : List D} {r : D} {ns : List Ob} (hG : Good Γ P f cargs [] r [] ns)
    (hv : VwL (fun _ => none) X.hp (· ∈ len) cargs (args.toList.map (ev X) ++ caps)) (hlex : ∀ m ∈ len, X.hp m ≠ none)
    (rid i : Nat) (hnew : ∀ k, k < ns.length → X.hp (.r rid i k) = none) (sh : Bool) (hsh : sh = false → r.flat = true ∧ (∀ ob ∈ ns, D.flatL ob.cells = true)) :
    OpSpec Γ P o X (callRec X [] r [] ns rid i sh len []) := by
  refine spec_call g args tys h hg hc [] len hG (by rw [srcOf_nil]; exact hv) (by rw [srcOf_nil, HpOf_nil']; exact ⟨by simp, by simp, by simp, by simp⟩) rfl rfl (by simp) rid i hnew sh (fun e => ⟨(hsh e).1, (hsh e).2, by simp⟩) [] (by simp) (by simp) hlex (by simp) (by simp)
/-! ### numbers -/
theorem wrapi {n : Int} (h1 : -9223372036854775808 ≤ n) (h2 : n ≤ 9223372036854775807) : IntKind.i64.wrap n = n := by rw [IntKind.wrap_i64]; omega
theorem wrapu8 {n : Int} (h1 : 0 ≤ n) (h2 : n ≤ 255) : IntKind.u8.wrap n = n := by simp [IntKind.wrap, IntKind.bits, IntKind.signed]; omega
theorem wrapu16 {n : Int} (h1 : 0 ≤ n) (h2 : n ≤ 65535) : IntKind.u16.wrap n = n := by simp [IntKind.wrap, IntKind.bits, IntKind.signed]; omega
theorem wrapu32 {n : Int} (h1 : 0 ≤ n) (h2 : n ≤ 4294967295) : IntKind.u32.wrap n = n := by simp [IntKind.wrap, IntKind.bits, IntKind.signed]; omega
theorem wrapu64 {n : Int} (h1 : 0 ≤ n) (h2 : n ≤ 18446744073709551615) : IntKind.u64.wrap n = n := by simp [IntKind.wrap, IntKind.bits, IntKind.signed]; omega
/-! ### lists that were mapped -/
theorem head_drop {α : Type} [Inhabited α] {f : α → T} {l : List α} {i : Nat} (h : i < l.length) : (((l.map f).drop i).map D.t).headD .bad = .t (f (l.getD i default)) := by
  rw [← List.map_drop, List.drop_eq_getElem_cons h]
  simp [List.getD_eq_getElem?_getD, List.getElem?_eq_getElem h]
theorem len_drop {α : Type} {f : α → T} {l : List α} {i : Nat} : ((l.map f).drop i).length = l.length - i := by simp
/-! ### what an append leaves of the rest -/
theorem poi_st (m : Nm) (sl : List D) (L : List (Nm × Ob)) : St.poi m ⟨sl, look L⟩ = ⟨sl.map (D.poi m), look (L.map fun p => (p.1, p.2.poi m))⟩ := by simp only [St.poi, poi_look]
theorem poi_map_t (m : Nm) (cs : List T) : (cs.map D.t).map (D.poi m) = cs.map D.t := by simp [D.poi, D.has]
theorem poi_bytesD (m : Nm) (l : List UInt8) : (bytesD l).map (D.poi m) = bytesD l := by rw [bytesD_T, poi_map_t]
theorem Nm_beq (m m' : Nm) : (m == m') = decide (m = m') := rfl
theorem dec_t {p : Prop} {h : Decidable p} : (@decide p h = true) = p := propext ⟨fun e => of_decide_eq_true e, fun e => decide_eq_true e⟩
theorem dec_f {p : Prop} {h : Decidable p} : (@decide p h = false) = ¬ p := propext ⟨fun e => of_decide_eq_false e, fun e => decide_eq_false e⟩
theorem bound_pos {n : Int} (h : 0 ≤ n) : (if 0 ≤ n then some n.toNat else none) = some n.toNat := if_pos h
theorem sl_from {α : Type} {f : α → T} {l : List α} {K : Nat} : T.sl (l.length - K) (((l.map f).drop K).take (l.length - K)) = T.sl (l.drop K).length ((l.drop K).map f) := by
  rw [List.take_of_length_le (by simp), List.map_drop, List.length_drop]
theorem sl_to {α : Type} {f : α → T} {l : List α} {R : Nat} (h : R ≤ l.length) : T.sl R ((l.map f).take R) = T.sl (l.take R).length ((l.take R).map f) := by
  rw [List.map_take, List.length_take, Nat.min_eq_left h]
theorem sl_mid {α : Type} {f : α → T} {l : List α} {K R : Nat} (h : R ≤ l.length) : T.sl (R - K) (((l.map f).drop K).take (R - K)) = T.sl ((l.take R).drop K).length (((l.take R).drop K).map f) := by
  rw [List.map_drop, List.map_take, List.length_drop, List.length_take, Nat.min_eq_left h, List.drop_take]
theorem take_min {α : Type} {xs : List α} {k : Nat} : xs.take (min (xs.length : Int) (k : Int)).toNat = xs.take k := by
  by_cases e : xs.length ≤ k
  · rw [List.take_of_length_le (by omega), List.take_of_length_le e]
  · rw [show (min (xs.length : Int) (k : Int)).toNat = k from by omega]
theorem take_min' {α : Type} {xs : List α} {k : Nat} : xs.take (min (k : Int) (xs.length : Int)).toNat = xs.take k := by rw [Int.min_comm, take_min]
theorem text_msl {Γ : Gl} {P : Program} {o : Oper} {X : St} (src dst : TypeId) (x : Operand) (h : o.op = .convert src dst x) {e : TypeId} (hs : P.underlying src = some (.slice e)) (hd : P.underlying dst = some .string) (he : P.underlying e = some (.int .u8)) (l : List UInt8) {m : Nm} {off n : Nat} {ob : Ob}
    (hx : ev X x = .msl m off n 1) (hm : X.hp m = some ob) (hl : (ob.cells.drop off).take n = bytesD l) (hle : off + n ≤ ob.cells.length) : OpSpec Γ P o X { val := .t (.v (.string (S l))), F := [m] } :=
  spec_conv_text src dst x h hs hd he l (.inl ⟨m, off, n, ob, hx, hm, hl, hle⟩) [m] (fun m' off' n' sz' h' => by rw [hx] at h'; cases h'; simp)
theorem text_sl {Γ : Gl} {P : Program} {o : Oper} {X : St} (src dst : TypeId) (x : Operand) (h : o.op = .convert src dst x) {e : TypeId} (hs : P.underlying src = some (.slice e)) (hd : P.underlying dst = some .string) (he : P.underlying e = some (.int .u8)) (l : List UInt8) {n : Nat}
    (hx : ev X x = .t (.sl n (l.map fun b => .v (.int .u8 b.toNat)))) (hn : n = l.length) : OpSpec Γ P o X { val := .t (.v (.string (S l))) } :=
  spec_conv_text src dst x h hs hd he l (.inr (.inl ⟨n, hx, hn⟩)) [] (fun m' off' n' sz' h' => by rw [hx] at h'; cases h')
theorem tmod_nn {a b : Int} (h : 0 ≤ a) : a.tmod b = a % b := Int.tmod_eq_emod_of_nonneg h
theorem tdiv_nn {a b : Int} (h : 0 ≤ a) : a.tdiv b = a / b := Int.tdiv_eq_ediv_of_nonneg h
theorem mkS (l : List UInt8) : ByteArray.mk (List.toArray l) = S l := rfl
/-! ### the set -/
theorem look_nil (m : Nm) : look [] m = none := rfl
theorem look_cons (m m' : Nm) (o : Ob) (r : List (Nm × Ob)) : look ((m, o) :: r) m' = if m = m' then some o else look r m' := rfl
attribute [push_cast] look_nil look_cons
theorem putL_nil (m : Nm) (o : Ob) : putL m o [] = [(m, o)] := rfl
theorem putL_cons (m m' : Nm) (o o' : Ob) (r : List (Nm × Ob)) : putL m o ((m', o') :: r) = if m' = m then (m, o) :: r else (m', o') :: putL m o r := rfl
theorem delL_nil (m : Nm) : delL m [] = [] := rfl
theorem delL_cons (m m' : Nm) (o' : Ob) (r : List (Nm × Ob)) : delL m ((m', o') :: r) = if m' = m then delL m r else (m', o') :: delL m r := rfl
theorem setAt_nil (cs : List D) (off : Nat) : setAt cs off [] = cs := rfl
theorem setAt_cons (cs : List D) (off : Nat) (d : D) (ds : List D) : setAt cs off (d :: ds) = setAt (cs.set off d) (off + 1) ds := rfl
theorem updL_nil (h : Nm → Option Ob) : updL h [] = h := rfl
theorem updL_cons (h : Nm → Option Ob) (m : Nm) (o : Option Ob) (r : List (Nm × Option Ob)) : updL h ((m, o) :: r) = updL (upd h m o) r := rfl
theorem poiL_nil (X : St) : X.poiL [] = X := rfl
theorem poiL_cons (X : St) (m : Nm) (r : List Nm) : X.poiL (m :: r) = (X.poi m).poiL r := rfl
theorem zerosOf_zero (z : List D) : zerosOf z 0 = [] := rfl
theorem zerosOf_lit (z : List D) (n : Nat) : zerosOf z (n + 1) = z ++ zerosOf z n := rfl
theorem fillD_nil (place : Nat → Option (Nat × Nat)) (cells : List D) : fillD place cells [] = some cells := rfl
theorem fillD_cons (place : Nat → Option (Nat × Nat)) (cells : List D) (i : Nat) (d : D) (r : List (Nat × D)) : fillD place cells ((i, d) :: r) = match place i, d.cells with
    | some (off, size), some ds => if ds.length = size ∧ off + size ≤ cells.length then fillD place (setAt cells off ds) r else none
    | _, _ => none := rfl
theorem toT_t (x : T) : D.toT (.t x) = some x := rfl
theorem toT_agg (ds : List D) : D.toT (.agg ds) = (D.toTs ds).map .agg := rfl
theorem toT_ptr (m : Nm) (o : Nat) : D.toT (.ptr m o) = none := rfl
theorem toT_rop (cs : List T) : D.toT (.rop cs) = none := rfl
theorem toT_msl (m : Nm) (a b c : Nat) : D.toT (.msl m a b c) = none := rfl
theorem toT_bad : D.toT .bad = none := rfl
theorem toT_fn (f : FuncId) (c : List D) : D.toT (.fn f c) = none := rfl
theorem toTs_nil : D.toTs [] = some [] := rfl
theorem toTs_cons (d : D) (ds : List D) : D.toTs (d :: ds) = match D.toT d, D.toTs ds with
    | some x, some xs => some (x :: xs)
    | _, _ => none := rfl
theorem toTs_map : ∀ cs : List T, D.toTs (cs.map D.t) = some cs
  | [] => rfl
  | c :: cs => by rw [List.map_cons, toTs_cons, toT_t, toTs_map cs]
theorem has_t (m : Nm) (x : T) : D.has m (.t x) = false := rfl
theorem has_bad (m : Nm) : D.has m .bad = false := rfl
theorem has_agg (m : Nm) (cs : List D) : D.has m (.agg cs) = D.hasL m cs := rfl
theorem has_tup (m : Nm) (cs : List D) : D.has m (.tup cs) = D.hasL m cs := rfl
theorem has_ifc (m : Nm) (t : TypeId) (d : D) : D.has m (.ifc t d) = D.has m d := rfl
theorem has_ptr (m m' : Nm) (o : Nat) : D.has m (.ptr m' o) = decide (m = m') := rfl
theorem has_rop (m : Nm) (cs : List T) : D.has m (.rop cs) = false := rfl
theorem has_msl (m m' : Nm) (a b c : Nat) : D.has m (.msl m' a b c) = decide (m = m') := rfl
theorem has_fn (m : Nm) (f : FuncId) (c : List D) : D.has m (.fn f c) = D.hasL m c := rfl
theorem hasL_nil (m : Nm) : D.hasL m [] = false := rfl
theorem hasL_cons (m : Nm) (d : D) (ds : List D) : D.hasL m (d :: ds) = (D.has m d || D.hasL m ds) := rfl
theorem ren_t (ρ : Nm → Nm) (x : T) : D.ren ρ (.t x) = .t x := rfl
theorem ren_bad (ρ : Nm → Nm) : D.ren ρ .bad = .bad := rfl
theorem ren_agg (ρ : Nm → Nm) (cs : List D) : D.ren ρ (.agg cs) = .agg (D.renL ρ cs) := rfl
theorem ren_tup (ρ : Nm → Nm) (cs : List D) : D.ren ρ (.tup cs) = .tup (D.renL ρ cs) := rfl
theorem ren_ifc (ρ : Nm → Nm) (t : TypeId) (d : D) : D.ren ρ (.ifc t d) = .ifc t (D.ren ρ d) := rfl
theorem ren_ptr (ρ : Nm → Nm) (m : Nm) (o : Nat) : D.ren ρ (.ptr m o) = .ptr (ρ m) o := rfl
theorem ren_rop (ρ : Nm → Nm) (cs : List T) : D.ren ρ (.rop cs) = .rop cs := rfl
theorem ren_msl (ρ : Nm → Nm) (m : Nm) (a b c : Nat) : D.ren ρ (.msl m a b c) = .msl (ρ m) a b c := rfl
theorem ren_fn (ρ : Nm → Nm) (f : FuncId) (c : List D) : D.ren ρ (.fn f c) = .fn f (D.renL ρ c) := rfl
theorem renL_nil (ρ : Nm → Nm) : D.renL ρ [] = [] := rfl
theorem renL_cons (ρ : Nm → Nm) (d : D) (ds : List D) : D.renL ρ (d :: ds) = D.ren ρ d :: D.renL ρ ds := rfl
attribute [push_cast] putL_nil putL_cons delL_nil delL_cons setAt_nil setAt_cons updL_nil updL_cons poiL_nil poiL_cons zerosOf_zero zerosOf_lit fillD_nil fillD_cons toT_t toT_agg toT_ptr toT_rop toT_msl toT_bad toT_fn toTs_nil toTs_cons toTs_map has_t has_bad has_agg has_tup has_ifc has_ptr has_rop has_msl has_fn hasL_nil hasL_cons ren_t ren_bad ren_agg ren_tup ren_ifc ren_ptr ren_rop ren_msl ren_fn renL_nil renL_cons
attribute [push_cast] beq_self_eq_true wantIs_bool wantIs_udf wantIs_if if_not if_if2 beq_t beq_f if_bool if_int if_text if_if if_if' if_and if_or stepF callF lenF mmF binV unV ev evc bound D.cells D.ofCells mkIfc Option.map_some Option.map_none List.map_cons List.map_nil List.getD_cons_zero List.getD_cons_succ List.getD_nil List.getElem?_cons_zero List.getElem?_cons_succ List.set_cons_zero List.set_cons_succ List.set_nil List.drop_succ_cons List.drop_zero List.take_succ_cons List.take_zero List.headD_cons List.length_cons List.length_nil List.all_cons List.all_nil Value.oneCell' Bool.and_true Bool.true_and Bool.and_self Bool.and_false Bool.false_and Bool.false_eq_true Bool.true_eq_false Bool.not_true Bool.not_false Bool.not_not decide_true decide_false and_true true_and and_self not_true_eq_false not_false_eq_true if_true if_false Nm.r.injEq Nm.p.injEq Nm.n.injEq Nat.zero_add Nat.add_zero Nat.mul_one Nat.one_mul Nat.one_ne_zero Nat.zero_ne_one S_l Int.toNat_natCast false_and and_false Option.isSome_some Nat.lt_add_one Nat.le_refl implies_true not_false_iff Option.isNone_none Option.isNone_some List.toList_toArray List.getElem?_toArray wrapi wrapu8 wrapu16 wrapu32 wrapu64 head_drop len_drop List.length_map bound_pos Nat.sub_zero tmod_nn tdiv_nn mkS Int.cast_ofNat_Int appF srcF zerosOf_one maxLen Nm_beq hasL_map_t hasL_append hasL_bytesD Bool.or_self Bool.or_false Bool.false_or List.nil_append List.append_nil List.cons_append List.map_append List.length_append St.app poi_st D.poi Ob.poi poi_map_t poi_bytesD putSl upd_look_some upd_look_none callRec callUpd renOf Ob.ren renL_map_t List.zip_cons_cons List.zip_nil_left List.zip_nil_right List.zipIdx_cons List.zipIdx_nil Ob.frz List.isEmpty_nil List.isEmpty_cons
end Go.Ot
