/- From a law's contract to its row where the row lists package-level variables. -/
import Derived.Test.YtbpponebopnfaaaDoorOtArg
import Derived.LaidLaws
import Derived.LaidHandle
import Derived.Handed
import Derived.FnData
import Derived.Lib.LaidTab
set_option linter.unusedVariables false
set_option linter.unusedSimpArgs false
namespace Go.Ot
open Go.ChangeShapes Go.WideShapes Go.ChangeAt Go.RowKit

/-- What holds all along: a package-level variable reads as it does at the start. -/
def Γv (P : Program) (n : String) (g : Nat) (hg : P.globalNamed n = some g) (cs : Array Value) : Gl := ⟨fun w => w.var? P n = some cs, g + 1, fun w w' h hw => by
  simp only [World.var?, hg, Option.bind_some] at hw ⊢
  rw [h g (Nat.lt_succ_self g)]
  exact hw⟩
theorem var_lt {P : Program} {w : World} {n : String} {g : Nat} {cs : Array Value} (hg : P.globalNamed n = some g) (h : w.var? P n = some cs) : g + 1 ≤ w.heap.size := by
  simp only [World.var?, hg, Option.bind_some] at h
  split at h
  · rename_i e; exact (Array.getElem?_eq_some_iff.1 e).1
  · cases h
theorem law_walkG {Γ : Gl} {P : Program} {f : FuncId} {args : List D} {vals : List Value} {w : World} (hG : Good Γ P f args [] (.t (.v (.bool true))) [] []) (hw : Γ.G w) (hgs : Γ.gs ≤ w.heap.size) (h : RepsA w (Mx (HpOf []) none0 no) none0 args vals) :
    Calls P f vals.toArray w fun e w' => e = .returned (.bool true) ∧ Below w.heap.size w w' := by
  have hok : HpOk w no (HpOf []) none0 := by
    rw [HpOf_nil']
    exact ⟨(fun m ob hm => nomatch hm), (fun m q hq => nomatch hq), (fun m m' b s s' hm => nomatch hm), (fun m b s hm => nomatch hm)⟩
  have hmut : ∀ b, Mut (HpOf []) none0 b → Γ.gs ≤ b := fun b hb => by
    obtain ⟨m, ob, s, h, _⟩ := hb
    rw [HpOf_nil'] at h; cases h
  refine (hG w no none0 vals hw hgs (fun b hb => hb.elim) hok (fun m q hq => nomatch hq) hmut h).mono (fun e w' he => ?_)
  obtain ⟨v, η', rfl, h1, _, h2, h3, _, _, _, h4, h5, h6⟩ := he
  have h1 : v = .bool true := h1
  subst h1
  exact ⟨rfl, h4, h5, h6, h2, fun k hk => h3 k hk (fun ⟨m, ob, s, h, _⟩ => by rw [HpOf_nil'] at h; cases h)⟩
theorem laid_var {P : Program} {W : World} {r : List (String × DataW Unit)} {ps : List MemPlace} {n : String} {k : IntKind} {zs : List Int} {g : Nat} {t e : TypeId} {m : Nat}
    (hg : P.globalNamed n = some g) (hty : (P.globals[g]?).map (·.type) = some t) (ht : P.underlying t = some (.array m e)) (he : P.underlying e = some (.int k)) (hce : P.cellsOf e = 1) (hct : P.cellsOf t = m)
    (h : DataW.LaidVars P W ((n, Lib.tabData k zs) :: r) ps) : Lib.TabIs P W n k zs := by
  obtain ⟨g', t', cs, fuel, p, q, hg', ht', hvar, hd, _, _⟩ := h
  obtain rfl := Option.some.inj (hg.symm.trans hg')
  obtain rfl := Option.some.inj (hty.symm.trans ht')
  unfold Lib.TabIs
  rw [hvar, ← Lib.cells_of_tab ht he hce hct hd]
theorem laid_tail {P : Program} {W : World} {x : String × DataW Unit} {r : List (String × DataW Unit)} {ps : List MemPlace} (h : DataW.LaidVars P W (x :: r) ps) : ∃ q, DataW.LaidVars P W r q := by
  obtain ⟨g', t', cs, fuel, p, q, _, _, _, _, hr, _⟩ := h
  exact ⟨q, hr⟩
end Go.Ot
