/- Data in abstract terms: numbers, texts, lists, rows; how they are read, written, cut. -/
import Derived.Test.YtbpponebopnfaaaDoorOtBits
set_option linter.unusedVariables false
set_option linter.unusedSimpArgs false
namespace Go.Ot
def num (n : Int) : T := .v (.int .i64 n)
def bol (b : Bool) : T := .v (.bool b)
def txt (l : List UInt8) : T := .v (.string (S l))
def w8 (x : UInt8) : T := .v (.int .u8 x.toNat)
def w16 (x : UInt16) : T := .v (.int .u16 x.toNat)
def w32 (x : UInt32) : T := .v (.int .u32 x.toNat)
def w64 (x : UInt64) : T := .v (.int .u64 x.toNat)
def lst {α : Type} (f : α → T) (l : List α) : T := .sl l.length (l.map f)
/-- Cells of a row or an array. -/
def cls {α : Type} (f : α → T) (l : List α) : List D := (l.map f).map .t
def rowO {α : Type} (ty : TypeId) (f : α → T) (l : List α) : Ob := ⟨cls f l, ty, true, true⟩
def boxO (ty : TypeId) (cs : List D) : Ob := ⟨cs, ty, false, true⟩
def setBad : List D → List Nat → List D
  | sl, [] => sl
  | sl, s :: r => setBad (sl.set s .bad) r
theorem setBad_nil (sl : List D) : setBad sl [] = sl := rfl
theorem setBad_cons (sl : List D) (s : Nat) (r : List Nat) : setBad sl (s :: r) = setBad (sl.set s .bad) r := rfl
theorem setAll_nil (sl : List D) : setAll sl [] = sl := rfl
theorem setAll_cons (sl : List D) (s : Nat) (d : D) (r : List (Nat × D)) : setAll sl ((s, d) :: r) = setAll (sl.set s d) r := rfl
attribute [push_cast] num bol txt w8 w16 w32 w64 lst cls rowO boxO setBad_nil setBad_cons setAll_nil setAll_cons
section
variable {α : Type} {f : α → T} {l : List α} {i n : Nat}
theorem cls_len : ((l.map f).map D.t).length = l.length := by simp
theorem cls_take : ((l.map f).map D.t).take n = ((l.take n).map f).map D.t := by simp
theorem cls_drop : ((l.map f).map D.t).drop n = ((l.drop n).map f).map D.t := by simp
theorem cls_get [Inhabited α] (h : i < l.length) : ((l.map f).map D.t).getD i .bad = .t (f (l.getD i default)) := by
  simp [List.getD_eq_getElem?_getD, List.getElem?_eq_getElem h]
theorem cls_head [Inhabited α] (h : i < l.length) : (((l.drop i).map f).map D.t).headD .bad = .t (f (l.getD i default)) := by
  rw [List.drop_eq_getElem_cons h]
  simp only [List.map_cons, List.headD_cons, List.getD_eq_getElem?_getD, List.getElem?_eq_getElem h, Option.getD_some]
theorem cls_head1 [Inhabited α] (h : i < l.length) : ((((l.drop i).take 1).map f).map D.t).headD .bad = .t (f (l.getD i default)) := by
  rw [List.drop_eq_getElem_cons h]
  simp only [List.map_cons, List.take_succ_cons, List.headD_cons, List.getD_eq_getElem?_getD, List.getElem?_eq_getElem h, Option.getD_some]
theorem cls_head0 [Inhabited α] (h : 0 < l.length) : (((l.take 1).map f).map D.t).headD .bad = .t (f (l.getD 0 default)) := by
  have := cls_head1 (f := f) (i := 0) h
  simpa using this
theorem flat_w8 {l : List UInt8} : T.flatL (l.map w8) = true := flatL_map _ (fun _ => rfl) l
theorem flat_w16 {l : List UInt16} : T.flatL (l.map w16) = true := flatL_map _ (fun _ => rfl) l
theorem flat_w32 {l : List UInt32} : T.flatL (l.map w32) = true := flatL_map _ (fun _ => rfl) l
theorem flat_num {l : List Int} : T.flatL (l.map num) = true := flatL_map _ (fun _ => rfl) l
theorem flat_txt {l : List (List UInt8)} : T.flatL (l.map txt) = true := flatL_map _ (fun _ => rfl) l
theorem flat_bol {l : List Bool} : T.flatL (l.map bol) = true := flatL_map _ (fun _ => rfl) l
attribute [push_cast] flat_w8 flat_w16 flat_w32 flat_num flat_txt flat_bol
theorem cls_all (h : l.length ≤ n) : ((l.map f).map D.t).take n = (l.map f).map D.t := List.take_of_length_le (by simpa using h)
theorem cls_rep (x : α) : ((List.replicate n x).map f).map D.t = List.replicate n (.t (f x)) := by simp
end
theorem set_w8 {l : List UInt8} {i : Nat} {x : UInt8} : ((l.map w8).map D.t).set i (.t (.v (.int .u8 (x.toNat : Int)))) = ((l.set i x).map w8).map D.t := by simp [List.map_set]; rfl
theorem set_w32 {l : List UInt32} {i : Nat} {x : UInt32} : ((l.map w32).map D.t).set i (.t (.v (.int .u32 (x.toNat : Int)))) = ((l.set i x).map w32).map D.t := by simp [List.map_set]; rfl
theorem set_num {l : List Int} {i : Nat} {x : Int} : ((l.map num).map D.t).set i (.t (.v (.int .i64 x))) = ((l.set i x).map num).map D.t := by simp [List.map_set]; rfl
theorem set_txt {l : List (List UInt8)} {i : Nat} {x : List UInt8} : ((l.map txt).map D.t).set i (.t (.v (.string (S x)))) = ((l.set i x).map txt).map D.t := by simp [List.map_set]; rfl
theorem set_bol {l : List Bool} {i : Nat} {x : Bool} : ((l.map bol).map D.t).set i (.t (.v (.bool x))) = ((l.set i x).map bol).map D.t := by simp [List.map_set]; rfl
theorem dfl_u8 : (default : UInt8) = 0 := rfl
theorem dfl_u16 : (default : UInt16) = 0 := rfl
theorem dfl_u32 : (default : UInt32) = 0 := rfl
theorem dfl_u64 : (default : UInt64) = 0 := rfl
theorem dfl_nat : (default : Nat) = 0 := rfl
theorem dfl_int : (default : Int) = 0 := rfl
theorem dfl_bool : (default : Bool) = false := rfl
theorem dfl_list {α : Type} : (default : List α) = [] := rfl
attribute [push_cast] Int.zero_sub dfl_u8 dfl_u16 dfl_u32 dfl_u64 dfl_nat dfl_int dfl_bool dfl_list
theorem getD_set_self {α : Type} {l : List α} {i : Nat} {x d : α} (h : i < l.length) : (l.set i x).getD i d = x := by
  simp [List.getD_eq_getElem?_getD, List.getElem?_set_self h]
attribute [push_cast] getD_set_self List.set_set
def un (n : Nat) : T := .v (.int .u64 n)
attribute [push_cast] un false_imp_iff true_imp_iff
/-- Cells written over all that there is. -/
theorem setAt_all : ∀ {cs ds pre : List D}, ds.length = cs.length → setAt (pre ++ cs) pre.length ds = pre ++ ds
  | [], [], pre, _ => by simp [setAt]
  | [], d :: ds, pre, h => by simp at h
  | c :: cs, [], pre, h => by simp at h
  | c :: cs, d :: ds, pre, h => by
    have ih := setAt_all (cs := cs) (ds := ds) (pre := pre ++ [d]) (by simpa using h)
    simp only [List.length_append, List.length_cons, List.length_nil, Nat.zero_add, List.append_assoc, List.cons_append, List.nil_append] at ih
    simp only [setAt]
    rw [List.set_append_right _ _ (Nat.le_refl _), Nat.sub_self, List.set_cons_zero]
    exact ih
theorem setAt_cls {α : Type} {f : α → T} {cs : List D} {l : List α} (h : l.length = cs.length) : setAt cs 0 ((l.map f).map D.t) = (l.map f).map D.t := by
  simpa using setAt_all (cs := cs) (ds := (l.map f).map D.t) (pre := []) (by simpa using h)
theorem bytesD_cls (l : List UInt8) : bytesD l = (l.map w8).map D.t := by rw [bytesD_T]; rfl
attribute [push_cast] cls_len cls_get cls_head cls_head1 cls_head0 cls_all set_w8 set_w32 set_num set_txt set_bol setAt_cls bytesD_cls sl_mid List.take_of_length_le List.take_length List.length_replicate List.length_set
theorem rep_w8 (n : Nat) : List.replicate n (D.t (.v (.int .u8 0))) = ((List.replicate n (0 : UInt8)).map w8).map D.t := by rw [List.map_replicate, List.map_replicate]; rfl
theorem rep_w32 (n : Nat) : List.replicate n (D.t (.v (.int .u32 0))) = ((List.replicate n (0 : UInt32)).map w32).map D.t := by rw [List.map_replicate, List.map_replicate]; rfl
theorem rep_num (n : Nat) : List.replicate n (D.t (.v (.int .i64 0))) = ((List.replicate n (0 : Int)).map num).map D.t := by rw [List.map_replicate, List.map_replicate]; rfl
theorem rep_txt (n : Nat) : List.replicate n (D.t (.v (.string ⟨#[]⟩))) = ((List.replicate n ([] : List UInt8)).map txt).map D.t := by rw [List.map_replicate, List.map_replicate]; rfl
attribute [push_cast] rep_w8 rep_w32 rep_num rep_txt
theorem placeOf_arr {P : Program} {t e : TypeId} {n : Nat} (h : P.underlying t = some (.array n e)) (i : Nat) : placeOf P t i = some (i * P.cellsOf e, P.cellsOf e) := by unfold placeOf; rw [h]
/-! ### bytes read off cells -/
def unb : D → UInt8
  | .t (.v (.int .u8 n)) => UInt8.ofInt n
  | _ => 0
def okb : D → Prop
  | .t (.v (.int .u8 n)) => 0 ≤ n ∧ n ≤ 255
  | _ => False
theorem ofInt_toNat (x : UInt8) : UInt8.ofInt (x.toNat : Int) = x := by
  have h := wi8 (x.toNat : Int)
  have h2 := wu8 x.toNat
  rw [h2] at h
  have h3 : x.toNat % 2 ^ 8 = x.toNat := Nat.mod_eq_of_lt (UInt8.toNat_lt x)
  rw [h3] at h
  exact (UInt8.toNat_inj.1 (by exact_mod_cast h)).symm
theorem unb_ok : ∀ {ds : List D}, (∀ d ∈ ds, okb d) → bytesD (ds.map unb) = ds
  | [], _ => rfl
  | d :: ds, h => by
    have hd := h d (by simp)
    have ih := unb_ok (ds := ds) (fun e he => h e (by simp [he]))
    unfold okb at hd
    split at hd
    · rename_i n
      have : (UInt8.ofInt n).toNat = n.toNat := by
        have := wi8 n
        rw [show IntKind.u8.wrap n = n % 256 from by simp [IntKind.wrap, IntKind.bits, IntKind.signed]] at this
        omega
      simp only [bytesD, List.map_cons, unb] at ih ⊢
      rw [ih, this, Int.toNat_of_nonneg hd.1]
    · exact hd.elim
theorem unb_cls (l : List UInt8) : ((l.map w8).map D.t).map unb = l := by
  induction l with
  | nil => rfl
  | cons a l ih => simp only [List.map_cons, ih]; rw [show unb (D.t (w8 a)) = a from ofInt_toNat a]
theorem okb_cls (l : List UInt8) : ∀ d ∈ (l.map w8).map D.t, okb d := by
  intro d hd
  simp only [List.mem_map] at hd
  obtain ⟨_, ⟨x, _, rfl⟩, rfl⟩ := hd
  have := UInt8.toNat_lt x
  exact ⟨by omega, by omega⟩
def okbs : List D → Prop
  | [] => True
  | d :: ds => okb d ∧ okbs ds
theorem okbs_mem : ∀ {ds : List D}, okbs ds → ∀ d ∈ ds, okb d
  | d :: ds, ⟨h1, h2⟩, e, he => by
    rcases List.mem_cons.1 he with rfl | he
    · exact h1
    · exact okbs_mem h2 e he
theorem okbs_of : ∀ {ds : List D}, (∀ d ∈ ds, okb d) → okbs ds
  | [], _ => trivial
  | d :: ds, h => ⟨h d (by simp), okbs_of fun e he => h e (by simp [he])⟩
theorem okbs_cls (l : List UInt8) : okbs ((l.map w8).map D.t) ↔ True := ⟨fun _ => trivial, fun _ => okbs_of (okb_cls l)⟩
theorem okbs_app {a b : List D} : okbs (a ++ b) ↔ okbs a ∧ okbs b := by
  induction a with
  | nil => simp [okbs]
  | cons x a ih => simp only [List.cons_append, okbs, ih, and_assoc]
theorem okbs_nil : okbs [] ↔ True := Iff.rfl
theorem okbs_cons {d : D} {ds : List D} : okbs (d :: ds) ↔ okb d ∧ okbs ds := Iff.rfl
theorem okb_w8 (x : UInt8) : okb (.t (.v (.int .u8 (x.toNat : Int)))) ↔ True := ⟨fun _ => trivial, fun _ => by have := UInt8.toNat_lt x; exact ⟨by omega, by omega⟩⟩
theorem okb_int (n : Int) : okb (.t (.v (.int .u8 n))) ↔ 0 ≤ n ∧ n ≤ 255 := Iff.rfl
theorem unb_int (n : Int) : unb (.t (.v (.int .u8 n))) = UInt8.ofInt n := rfl
theorem unb_map_nil : List.map unb [] = [] := rfl
theorem unb_map_cons (d : D) (ds : List D) : List.map unb (d :: ds) = unb d :: List.map unb ds := rfl
theorem unb_map_app (a b : List D) : List.map unb (a ++ b) = List.map unb a ++ List.map unb b := List.map_append
attribute [push_cast] ofInt_toNat unb_cls okbs_cls okbs_app okbs_nil okbs_cons okb_w8 unb_int cls_take cls_drop
theorem VwL_app {src : Nm → Option Nm} {hp : Nm → Option Ob} {len : Nm → Prop} : ∀ {a : List T} {b c : List D}, VwL src hp len (a.map .t ++ b) (a.map .t ++ c) ↔ VwL src hp len b c
  | [], b, c => Iff.rfl
  | x :: a, b, c => by
    simp only [List.map_cons, List.cons_append, VwL_cons, VwL_app]
    exact ⟨fun h => h.2, fun h => ⟨VwT_refl hp len x, h⟩⟩
attribute [simp] VwL_app VwL_cons VwL_nil Vw_bad Vw_t Vw_ptr Vw_msl Vw_rop Vw_agg Vw_tup Vw_ifc VwT_refl VwL_refl_map Vw_nilmsl VwT_msl VwT_agg VwT_v VwT_nil VwTs_cons VwTs_nil VwTs_refl VwTs_app srcL notIn ObsVw SrcOk pOk Go.Ot.look resP resN setBad setAll
section
variable {Γ : Gl} {P : Program} {X : St} {ops ops' : Array Oper} {rid i : Nat} {o : Oper} {os : List Oper} {acc : List Meta} {Q : Exit → St → Prop} {K : St → List Meta → Prop} {draw : Bool}
theorem spec_text_msl (src dst : TypeId) (x : Operand) (h : o.op = .convert src dst x) {e : TypeId} (hs : P.underlying src = some (.slice e)) (hd : P.underlying dst = some .string) (he : P.underlying e = some (.int .u8)) {m : Nm} {off n : Nat} {ob : Ob} {l : List UInt8}
    (hx : ev X x = .msl m off n 1) (hm : X.hp m = some ob) (hok : okbs ((ob.cells.drop off).take n)) (hl : ((ob.cells.drop off).take n).map unb = l) (hle : off + n ≤ ob.cells.length) : OpSpec Γ P o X { val := .t (.v (.string (S l))), F := [m] } :=
  text_msl src dst x h hs hd he l hx hm (by rw [← hl]; exact (unb_ok (okbs_mem hok)).symm) hle
theorem spec_text_sl (src dst : TypeId) (x : Operand) (h : o.op = .convert src dst x) {e : TypeId} (hs : P.underlying src = some (.slice e)) (hd : P.underlying dst = some .string) (he : P.underlying e = some (.int .u8)) {l : List UInt8}
    (hx : ev X x = .t (.sl l.length (l.map w8))) : OpSpec Γ P o X { val := .t (.v (.string (S l))) } := text_sl src dst x h hs hd he l hx rfl
end
end Go.Ot
