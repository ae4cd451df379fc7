/- Contracts of this program's functions. -/
import Derived.Test.YtnliecfmadifkaaDoorSAs
import Derived.Test.YtnliecfmadifkaaDoorOtE
set_option maxHeartbeats 4000000
set_option maxRecDepth 100000
set_option linter.unusedVariables false
set_option linter.unusedSimpArgs false
namespace Go.Proofs.Tryd
open Go Go.Ot

theorem bdec_pos {p : Prop} [Decidable p] (h : p) : decide p = true := decide_eq_true h
theorem bdec_neg {p : Prop} [Decidable p] (h : ¬ p) : decide p = false := decide_eq_false h
attribute [push_cast] bdec_pos bdec_neg
abbrev St4 := Nat → List UInt8
def upd (s : St4) (i : Nat) (x : List UInt8) : St4 := fun j => if j = i then x else s j
@[push_cast] theorem upd_00 (s : St4) (x : List UInt8) : upd s 0 x 0 = x := rfl
@[push_cast] theorem upd_11 (s : St4) (x : List UInt8) : upd s 1 x 1 = x := rfl
@[push_cast] theorem upd_22 (s : St4) (x : List UInt8) : upd s 2 x 2 = x := rfl
@[push_cast] theorem upd_33 (s : St4) (x : List UInt8) : upd s 3 x 3 = x := rfl
@[push_cast] theorem upd_01 (s : St4) (x : List UInt8) : upd s 0 x 1 = s 1 := rfl
@[push_cast] theorem upd_02 (s : St4) (x : List UInt8) : upd s 0 x 2 = s 2 := rfl
@[push_cast] theorem upd_03 (s : St4) (x : List UInt8) : upd s 0 x 3 = s 3 := rfl
@[push_cast] theorem upd_10 (s : St4) (x : List UInt8) : upd s 1 x 0 = s 0 := rfl
@[push_cast] theorem upd_12 (s : St4) (x : List UInt8) : upd s 1 x 2 = s 2 := rfl
@[push_cast] theorem upd_13 (s : St4) (x : List UInt8) : upd s 1 x 3 = s 3 := rfl
@[push_cast] theorem upd_20 (s : St4) (x : List UInt8) : upd s 2 x 0 = s 0 := rfl
@[push_cast] theorem upd_21 (s : St4) (x : List UInt8) : upd s 2 x 1 = s 1 := rfl
@[push_cast] theorem upd_23 (s : St4) (x : List UInt8) : upd s 2 x 3 = s 3 := rfl
@[push_cast] theorem upd_30 (s : St4) (x : List UInt8) : upd s 3 x 0 = s 0 := rfl
@[push_cast] theorem upd_31 (s : St4) (x : List UInt8) : upd s 3 x 1 = s 1 := rfl
@[push_cast] theorem upd_32 (s : St4) (x : List UInt8) : upd s 3 x 2 = s 2 := rfl
/-- An error of what was asked. -/
def erC (n : Int) (q : List UInt8) : T := .ifc 71 (.agg [txt q, .ifc 69 (.agg [num n])])
@[push_cast] theorem erC_eq (n : Int) (q : List UInt8) : erC n q = .ifc 71 (.agg [txt q, .ifc 69 (.agg [num n])]) := rfl
theorem erC_plain (n : Int) (q : List UInt8) : (erC n q).plain = some (wv (.agg #[.int .i64 n]) [q]) := by simp [erC, T.plain, T.plains, txt, num, wv, wvT, wvV]
/-- Changes, cell by cell. -/
abbrev Chs := List (Nat × List UInt8)
def chL : Chs → List T
  | [] => []
  | x :: l => num (x.1 : Int) :: txt x.2 :: chL l
theorem chL_len : ∀ l, (chL l).length = l.length * 2
  | [] => rfl
  | x :: l => by simp [chL, chL_len l]; omega
@[simp, push_cast] theorem chL_flat : ∀ l, T.flatL (chL l) = true
  | [] => rfl
  | x :: l => by simp [chL, T.flatL, T.flat, num, txt, chL_flat l]
theorem chL_app : ∀ (l m : Chs), chL (l ++ m) = chL l ++ chL m
  | [], _ => rfl
  | x :: l, m => by simp [chL, chL_app l m]
theorem chL_at : ∀ (l : Chs) (i : Nat), i < l.length → ((chL l).drop (i * 2)).take 2 = [num ((l.getD i default).1 : Int), txt (l.getD i default).2]
  | x :: l, 0, _ => rfl
  | x :: l, i + 1, h => by
    have := chL_at l i (by simpa using h)
    rw [show (i + 1) * 2 = i * 2 + 1 + 1 from by omega, chL, List.drop_succ_cons, List.drop_succ_cons, this]
    simp
def wr (s : St4) (x : Nat × List UInt8) : St4 := upd s x.1 x.2
def nowF (s : St4) (l : Chs) : St4 := l.foldl wr s
theorem nowF_nil (s : St4) : nowF s [] = s := rfl
theorem nowF_snoc (s : St4) (l : Chs) (i : Nat) (h : i < l.length) : nowF s (l.take (i + 1)) = upd (nowF s (l.take i)) (l.getD i default).1 (l.getD i default).2 := by
  rw [List.take_add_one, List.getElem?_eq_getElem h, nowF, List.foldl_append]
  simp [nowF, wr, List.getD_eq_getElem?_getD, List.getElem?_eq_getElem h]
@[push_cast] theorem chL_len' (l : Chs) : (chL l).length = l.length * 2 := chL_len l
@[push_cast] theorem chL_at1 {l : Chs} {i : Nat} (h : i < l.length) : (((chL l).drop (i * 2)).map D.t).take 2 = [.t (num ((l.getD i default).1 : Int)), .t (txt (l.getD i default).2)] := by
  rw [← List.map_take, chL_at l i h]; rfl
@[push_cast] theorem chL_at2 {l : Chs} {i : Nat} (h : i < l.length) : (((chL l).drop (i * 2)).take 2).map D.t = [.t (num ((l.getD i default).1 : Int)), .t (txt (l.getD i default).2)] := by
  rw [chL_at l i h]; rfl
@[push_cast] theorem chL_at3 {l : Chs} {i : Nat} (h : i < l.length) : (((chL l).map D.t).drop (i * 2)).take 2 = [.t (num ((l.getD i default).1 : Int)), .t (txt (l.getD i default).2)] := by
  rw [← List.map_drop]; exact chL_at1 h
def chO (l : Chs) : Ob := ⟨(chL l).map D.t, 64, true, true⟩

end Go.Proofs.Tryd
