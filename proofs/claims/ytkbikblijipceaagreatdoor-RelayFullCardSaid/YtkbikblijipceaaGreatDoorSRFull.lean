/- Proved: the given statement on 'deaddrop/deaddroplaw22.RelayFull': at every input that its row lets in the call returns true, and its arguments read as before. -/
import Derived.Test.YtkbikblijipceaaGreatDoorRows
import Derived.Test.YtkbikblijipceaaGreatDoorSRG1
import Derived.Test.YtkbikblijipceaaGreatDoorCards
import Derived.Test.YtkbikblijipceaaGreatDoorTie
import Derived.Test.YtkbikblijipceaaGreatDoorOtF
import Derived.SevenTiedAt
set_option maxHeartbeats 4000000
set_option linter.unusedVariables false
namespace Go.Proofs.YtkbikblijipceaaGreatDoor.RelayFullDone
open Go.ChangeShapes Go.WideShapes Go.ChangeAt Go.RowKit Go.Ot Go.Proofs.Tryz
open Go.ChangeMaps (open_string shut_string)
noncomputable def laidW (os : Os) : World :=
 let w0 := World.holding Tryz.prog os ⟨#[], #[], []⟩
 { w0 with heap := w0.heap.modify 0 fun
   | .cells _ t frozen => .cells #[.iface 188 (.agg #[.pointer (some ⟨2, 81, none⟩)])] t frozen
   | o => o }
theorem yEa (os : Os) (args : Array Value) : laidMetH Tryz.prog Rows.relayFullRow.laid ((laidW os).forCall (fun _ _ => 0) ⟨#[], args, []⟩).memory :=
 laidMetH_of_parts (laidMet_nil _ _) (by kernel_rfl)
theorem gE : Tryz.prog.globalNamed "errors.errorType" = some 0 := by kernel_rfl
theorem rtE : (Tryz.prog.cutTypes.find? (·.1 == "internal/reflectlite.rtype")).map (·.2) = some 188 := by kernel_rfl
theorem oneRow : ((List.range 297).filter fun t => Tryz.prog.rowNamed t [101, 114, 114, 111, 114]) = [81] := by kernel_rfl
theorem sizeT : Tryz.prog.types.size = 297 := by kernel_rfl
noncomputable def Γd : Gl := Γv Tryz.prog "errors.errorType" 0 gE #[.iface 188 (.agg #[.pointer (some ⟨2, 81, none⟩)])]
theorem egd : EG Γd := ⟨fun w h => by simpa using World.var?_cell gE h 0, Nat.lt_succ_self _⟩
theorem met {W : World} (h : laidMetH Tryz.prog Rows.relayFullRow.laid W) : Γd.G W ∧ Γd.gs ≤ W.heap.size := by
 have h' : laidMet Tryz.prog [] W ∧ handlesMet Tryz.prog Rows.relayFullRow.laid W := h
 obtain ⟨name, u, ty, e1, e2, e3, e4, e5⟩ := h'.2 _ (List.mem_singleton.2 rfl)
 have en : name = [101, 114, 114, 111, 114] := (Option.some.inj e1).symm
 subst en
 obtain rfl := Option.some.inj (rtE.symm.trans e2)
 have hm : ty ∈ (List.range 297).filter fun t => Tryz.prog.rowNamed t [101, 114, 114, 111, 114] := List.mem_filter.2 ⟨List.mem_range.2 (by rw [← sizeT]; exact e3), e4⟩
 rw [oneRow] at hm
 obtain rfl := List.mem_singleton.1 hm
 have hh : typeHandle Tryz.prog 81 = .pointer (some ⟨2, 81, none⟩) := by kernel_rfl
 rw [hh] at e5
 exact ⟨e5, var_lt gE e5⟩
theorem own : ownKnob Tryz.prog.godebug = none := by kernel_rfl
theorem laidOut : laidOutB Tryz.prog = true := by kernel_rfl
set_option maxRecDepth 100000 in
theorem lifted (os : Os) (started : os.Started) (H : Type) (enc : TypeId × Value → H) :
  ReturnsInHanded {} Tryz.checked os 5 .any (fun w args => (Rows.relayFullSpec.pre enc Tryz.prog Tryz.f5 Rows.relayFullRow.domain false w args ∧ laidMetH Tryz.prog Rows.relayFullRow.laid w) ∧ sizedMet enc Tryz.prog Tryz.f5 (OpenSpec.ofChange Rows.relayFullSpec) false w args) (Rows.relayFullSpec.post enc Tryz.prog Tryz.f5 false true false false) := by
 refine returnsInHanded_of_change_and (C := Tryz.checked) (X := fun w _ => laidMetH Tryz.prog Rows.relayFullRow.laid w) (fun _ _ _ hh h => h.of_heap hh) own started (by kernel_rfl) Tryz.func5
  (ChangeSpec.witness_at (enc := enc) (C := Tryz.checked) (os := os) (X := fun w _ => laidMetH Tryz.prog Rows.relayFullRow.laid w) false (laidW os) #[.int .u8 0] 8 rfl (by kernel_rfl) (by kernel_rfl) (by kernel_rfl) (by kernel_rfl) (by kernel_rfl) (yEa os _)) ?_
 intro W base args ds gs before hval0 hW hcnd _ hL _
 obtain ⟨hGw, hgs⟩ := met hL
 have hval : ∀ (j : Nat) t v, Tryz.f5.params[j]? = some t → args[j]? = some v → Value.okWide Tryz.prog W .any base t v := hval0
 have hW' := hW
 obtain ⟨p, q, hA0, hV, rfl, hfz, hnd⟩ := hW
 have hA : DataW.TrodAll enc Tryz.prog W 0 (fun _ => true) true Tryz.f5.params.toList args.toList ds p := hA0
 rw [Tryz.params5] at hA hval
 obtain ⟨v0, vs0, d0, ds0, p0, q0, hargs, rfl, rfl, h0, r0⟩ := trodAll_cons hA
 obtain ⟨rfl, rfl, rfl⟩ := trodAll_nil r0
 obtain rfl : args = #[v0] := by cases args; simp_all
 obtain ⟨rfl, rfl⟩ := trodVars_none hV
 have lt0 : ∀ x ∈ p0, x.block < W.heap.size := by obtain ⟨m, hm⟩ := h0; exact DataW.trod_lt m _ _ _ hm
 obtain ⟨x0, y0⟩ := a_u8 Tryz.underlying5 (hval 0 5 v0 rfl rfl) h0
 clear hA0 hval0
 have hG : Go.Ot.Good Γd prog 5 [.t (w8 x0)] [] (.t (bol true)) [] [] := yEw Γd egd x0
 have hR : RepsA W (Mx (nH []) none0 no) none0 [.t (w8 x0)] [v0] := ⟨v0, _, rfl, rep_t y0, rfl⟩
 refine (yD8 hG hGw hgs hR).mono fun e W' ⟨he, bel⟩ => ?_
 subst he
 exact ⟨_, rfl, _, _, _, [], _, [], hW', trodAll_mk1 (shut_bool Tryz.underlying4 _), (trodAll_cons_mk (Below.trod laidOut (by kernel_rfl) (of_decide_eq_true (by kernel_rfl)) h0 bel lt0) trodAll_mk0), rfl, bel.frame _, fun h => by cases h⟩
theorem over : Rows.relayFullRow.holds Tryz.pinned (OpenSpec.ofChange Rows.relayFullSpec) :=
 OpenClaim.holds_of_wide 5 Tryz.f5 rfl rfl rfl rfl rfl rfl rfl ⟨rfl, rfl, rfl, rfl, rfl⟩ rfl rfl rfl rfl rfl (by kernel_rfl) Tryz.func5 (by kernel_rfl)
  (of_decide_eq_true (by kernel_rfl)) (by unfold Func.isWrapper; first | (rw [if_pos (by decide +kernel)]; kernel_rfl) | (rw [if_neg (by decide +kernel)]; exact ⟨rfl, rfl⟩))
  (fun os started H enc _ => lifted os started H enc)
theorem proved : Rows.RelayFullCardSaid :=
 Claim7.holds_tied_plain_at .later [] [.handle] true (true, "c2704e5db32de5b599fba6b20ad6c2dd9c17563759cdd5dbea55c51e1c7811f0") true
  over (fun _ h => by cases h) (by kernel_rfl) (fun _ h => by cases h) relayFull_row_tie rfl ⟨rfl, rfl⟩ (by kernel_rfl) rfl
  (fun f fn hf hfn => by
   obtain rfl : f = 5 := Option.some.inj ((show Tryz.prog.funcNamed "deaddrop/deaddroplaw22.RelayFull" = some 5 by kernel_rfl).symm.trans hf) |>.symm
   obtain rfl : fn = Tryz.f5 := (Option.some.inj (Tryz.func5.symm.trans hfn)).symm
   exact ⟨by kernel_rfl, fun j t ht => by
    rw [Tryz.params5] at ht
    have hm : t ∈ [5] := by simpa using Array.mem_of_getElem? ht
    have hall : ([5].all fun u => !Tryz.prog.wantsStandIn u) = true := by kernel_rfl
    exact (show Tryz.prog.wantsStandIn t = false by simpa using List.all_eq_true.1 hall t hm)⟩)
  (by kernel_rfl)
#print axioms proved
end Go.Proofs.YtkbikblijipceaaGreatDoor.RelayFullDone
