/- Proved: the given statement on 'deaddroplaw23.CellsRuns': at every input that its row lets in the call returns true, and its arguments read as before. -/
import Derived.Test.YtnliecfmadifkaaDoorRows
import Derived.Test.YtnliecfmadifkaaDoorSX4
import Derived.Test.YtnliecfmadifkaaDoorSCA
import Derived.Test.YtnliecfmadifkaaDoorCards
import Derived.Test.YtnliecfmadifkaaDoorTie
import Derived.Test.YtnliecfmadifkaaDoorOtF
import Derived.SevenTiedAt
set_option maxHeartbeats 4000000
set_option linter.unusedVariables false
namespace Go.Proofs.YtnliecfmadifkaaDoor.CellsRunsDone
open Go.ChangeShapes Go.WideShapes Go.ChangeAt Go.RowKit Go.Ot Go.Proofs.Tryd
open Go.ChangeMaps (open_string shut_string)

noncomputable def laidW (os : Os) : World :=
  let w0 := World.holding Tryd.prog os ⟨#[], #[], []⟩
  { w0 with heap := w0.heap.modify 0 fun
      | .cells _ t frozen => .cells #[.iface 87 (.agg #[.pointer (some ⟨1, 59, none⟩)])] t frozen
      | o => o }
theorem laidW_met (os : Os) (args : Array Value) : laidMetH Tryd.prog Rows.cellsRunsRow.laid ((laidW os).forCall (fun _ _ => 0) ⟨#[], args, []⟩).memory :=
  laidMetH_of_parts (laidMet_nil _ _) (by kernel_rfl)
theorem gE : Tryd.prog.globalNamed "errors.errorType" = some 0 := by kernel_rfl
theorem rtE : (Tryd.prog.cutTypes.find? (·.1 == "internal/reflectlite.rtype")).map (·.2) = some 87 := by kernel_rfl
theorem oneRow : ((List.range 129).filter fun t => Tryd.prog.rowNamed t [101, 114, 114, 111, 114]) = [59] := by kernel_rfl
theorem sizeT : Tryd.prog.types.size = 129 := by kernel_rfl
noncomputable def Γd : Gl := Γv Tryd.prog "errors.errorType" 0 gE #[.iface 87 (.agg #[.pointer (some ⟨1, 59, none⟩)])]
theorem egd : EG Γd := ⟨fun w h => by simpa using World.var?_cell gE h 0, Nat.lt_succ_self _⟩
theorem met {W : World} (h : laidMetH Tryd.prog Rows.cellsRunsRow.laid W) : Γd.G W ∧ Γd.gs ≤ W.heap.size := by
  have h' : laidMet Tryd.prog [] W ∧ handlesMet Tryd.prog Rows.cellsRunsRow.laid W := h
  obtain ⟨name, u, ty, e1, e2, e3, e4, e5⟩ := h'.2 _ (List.mem_singleton.2 rfl)
  have en : name = [101, 114, 114, 111, 114] := (Option.some.inj e1).symm
  subst en
  obtain rfl := Option.some.inj (rtE.symm.trans e2)
  have hm : ty ∈ (List.range 129).filter fun t => Tryd.prog.rowNamed t [101, 114, 114, 111, 114] := List.mem_filter.2 ⟨List.mem_range.2 (by rw [← sizeT]; exact e3), e4⟩
  rw [oneRow] at hm
  obtain rfl := List.mem_singleton.1 hm
  have hh : typeHandle Tryd.prog 59 = .pointer (some ⟨1, 59, none⟩) := by kernel_rfl
  rw [hh] at e5
  exact ⟨e5, var_lt gE e5⟩
theorem own : ownKnob Tryd.prog.godebug = none := by kernel_rfl
theorem laidOut : laidOutB Tryd.prog = true := by kernel_rfl
set_option maxRecDepth 100000 in
theorem lifted (os : Os) (started : os.Started) (H : Type) (enc : TypeId × Value → H) :
    ReturnsInHanded {} Tryd.checked os 5 .any (fun w args => (Rows.cellsRunsSpec.pre enc Tryd.prog Tryd.f5 Rows.cellsRunsRow.domain false w args ∧ laidMetH Tryd.prog Rows.cellsRunsRow.laid w) ∧ sizedMet enc Tryd.prog Tryd.f5 (OpenSpec.ofChange Rows.cellsRunsSpec) false w args) (Rows.cellsRunsSpec.post enc Tryd.prog Tryd.f5 false true false false) := by
  refine returnsInHanded_of_change_and (C := Tryd.checked) (X := fun w _ => laidMetH Tryd.prog Rows.cellsRunsRow.laid w) (fun _ _ _ hh h => h.of_heap hh) own started (by kernel_rfl) Tryd.func5
    (ChangeSpec.witness_at (enc := enc) (C := Tryd.checked) (os := os) (X := fun w _ => laidMetH Tryd.prog Rows.cellsRunsRow.laid w) false (laidW os) #[.agg #[.int .i64 0, .slice none 0 0], .slice none 0 0] 8 rfl (by kernel_rfl) (by kernel_rfl) (by kernel_rfl) (by kernel_rfl) (by kernel_rfl) (laidW_met os _)) ?_
  intro W base args ds gs before hval0 hW hcnd _ hL _
  obtain ⟨hGw, hgs⟩ := met hL
  have hval : ∀ (j : Nat) t v, Tryd.f5.params[j]? = some t → args[j]? = some v → Value.okWide Tryd.prog W .any base t v := hval0
  have hW' := hW
  obtain ⟨p, q, hA0, hV, rfl, hfz, hnd⟩ := hW
  have hA : DataW.TrodAll enc Tryd.prog W 0 (fun _ => true) true Tryd.f5.params.toList args.toList ds p := hA0
  rw [Tryd.params5] at hA hval
  obtain ⟨v0, vs0, d0, ds0, p0, q0, hargs, rfl, rfl, h0, r0⟩ := trodAll_cons hA
  obtain ⟨v1, vs1, d1, ds1, p1, q1, rfl, rfl, rfl, h1, r1⟩ := trodAll_cons r0
  obtain ⟨rfl, rfl, rfl⟩ := trodAll_nil r1
  obtain rfl : args = #[v0, v1] := by cases args; simp_all
  obtain ⟨rfl, rfl⟩ := trodVars_none hV
  have lt0 : ∀ x ∈ p0, x.block < W.heap.size := by obtain ⟨m, hm⟩ := h0; exact DataW.trod_lt m _ _ _ hm
  have lt1 : ∀ x ∈ p1, x.block < W.heap.size := by obtain ⟨m, hm⟩ := h1; exact DataW.trod_lt m _ _ _ hm
  obtain ⟨q0, k0, cs0, hv0, rr0, bc0, bk0⟩ := arg_pl (by kernel_rfl) (hval 0 29 v0 rfl rfl) h0
  obtain ⟨l1, y1, bl1, bp1⟩ := arg_acs (by kernel_rfl) (hval 1 40 v1 rfl rfl) h1
  clear hA0 hval0
  have hG : Go.Ot.Good Γd prog 5 [.agg [.t (num q0), .t (lst bol k0)], .t (.sl l1.length (l1.flatMap acT))] [] (.t (bol true)) [] [] := runs_good Γd egd q0 k0 l1 bc0 bp1 bk0 bl1
  have hR : RepsA W (Mx (HpOf []) none0 no) none0 [.agg [.t (num q0), .t (lst bol k0)], .t (.sl l1.length (l1.flatMap acT))] [v0, v1] := ⟨v0, _, rfl, (by rw [hv0]; exact rep_agg rr0), v1, _, rfl, rep_t y1, rfl⟩
  refine (law_walkG hG hGw hgs hR).mono fun e W' ⟨he, bel⟩ => ?_
  subst he
  exact ⟨_, rfl, _, _, _, [], _, [], hW', trodAll_mk1 (shut_bool Tryd.underlying4 _), (trodAll_cons_mk (Below.trod laidOut (by kernel_rfl) (of_decide_eq_true (by kernel_rfl)) h0 bel lt0) (trodAll_cons_mk (Below.trod laidOut (by kernel_rfl) (of_decide_eq_true (by kernel_rfl)) h1 bel lt1) trodAll_mk0)), rfl, bel.frame _, fun h => by cases h⟩

theorem over : Rows.cellsRunsRow.holds Tryd.pinned (OpenSpec.ofChange Rows.cellsRunsSpec) :=
  OpenClaim.holds_of_wide 5 Tryd.f5 rfl rfl rfl rfl rfl rfl rfl ⟨rfl, rfl, rfl, rfl, rfl⟩ rfl rfl rfl rfl rfl (by kernel_rfl) Tryd.func5 (by kernel_rfl)
    (of_decide_eq_true (by kernel_rfl)) (by unfold Func.isWrapper; first | (rw [if_pos (by decide +kernel)]; kernel_rfl) | (rw [if_neg (by decide +kernel)]; exact ⟨rfl, rfl⟩))
    (fun os started H enc _ => lifted os started H enc)

theorem proved : Rows.CellsRunsCardSaid :=
  Claim7.holds_tied_plain_at .later [] [.handle] true (true, "1685b9f3ef339d900634bb47aa6d102547dc1d4cb13639953e0edd84f0f6fd7e") true
    over (fun _ h => by cases h) (by kernel_rfl) (fun _ h => by cases h) cellsRuns_row_tie rfl ⟨rfl, rfl⟩ (by kernel_rfl) rfl
    (fun f fn hf hfn => by
      obtain rfl : f = 5 := Option.some.inj ((show Tryd.prog.funcNamed "deaddrop/deaddroplaw23.CellsRuns" = some 5 by kernel_rfl).symm.trans hf) |>.symm
      obtain rfl : fn = Tryd.f5 := (Option.some.inj (Tryd.func5.symm.trans hfn)).symm
      exact ⟨by kernel_rfl, fun j t ht => by
        rw [Tryd.params5] at ht
        have hm : t ∈ [29, 40] := by simpa using Array.mem_of_getElem? ht
        have hall : ([29, 40].all fun u => !Tryd.prog.wantsStandIn u) = true := by kernel_rfl
        exact (show Tryd.prog.wantsStandIn t = false by simpa using List.all_eq_true.1 hall t hm)⟩)
    (by kernel_rfl)
#print axioms proved
end Go.Proofs.YtnliecfmadifkaaDoor.CellsRunsDone
