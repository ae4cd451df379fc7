/- Proved: the given statement on 'deaddrop/deaddroplaw13.SnapBack': at every input that its row lets in the call returns true, and its arguments read as before. -/
import Derived.Test.YtppicdhlpdhoiaaDoorRows
import Derived.Test.YtppicdhlpdhoiaaDoorSSF
import Derived.Test.YtppicdhlpdhoiaaDoorCards
import Derived.Test.YtppicdhlpdhoiaaDoorTie
import Derived.Test.YtppicdhlpdhoiaaDoorOtF
import Derived.SevenTiedAt
set_option maxHeartbeats 4000000
set_option linter.unusedVariables false
namespace Go.Proofs.YtppicdhlpdhoiaaDoor.SnapBackDone
open Go.ChangeShapes Go.WideShapes Go.ChangeAt Go.RowKit Go.Ot Go.Proofs.Tryd
open Go.ChangeMaps (open_string shut_string)

noncomputable def laidW (os : Os) : World :=
 let w0 := World.holding Tryd.prog os ⟨#[], #[], []⟩
 { w0 with heap := w0.heap.modify 0 fun
   | .cells _ t frozen => .cells #[.iface 128 (.agg #[.pointer (some ⟨1, 65, none⟩)])] t frozen
   | o => o }
theorem laidW_met (os : Os) (args : Array Value) : laidMetH Tryd.prog Rows.snapBackRow.laid ((laidW os).forCall (fun _ _ => 0) ⟨#[], args, []⟩).memory :=
 laidMetH_of_parts (laidMet_nil _ _) (by kernel_rfl)
theorem gE : Tryd.prog.globalNamed "errors.errorType" = some 0 := by kernel_rfl
theorem rtE : (Tryd.prog.cutTypes.find? (·.1 == "internal/reflectlite.rtype")).map (·.2) = some 128 := by kernel_rfl
theorem oneRow : ((List.range 177).filter fun t => Tryd.prog.rowNamed t [101, 114, 114, 111, 114]) = [65] := by kernel_rfl
theorem sizeT : Tryd.prog.types.size = 177 := by kernel_rfl
noncomputable def Γd : Gl := Γv Tryd.prog "errors.errorType" 0 gE #[.iface 128 (.agg #[.pointer (some ⟨1, 65, none⟩)])]
theorem egd : EG Γd := ⟨fun w h => by simpa using World.var?_cell gE h 0, Nat.lt_succ_self _⟩
theorem met {W : World} (h : laidMetH Tryd.prog Rows.snapBackRow.laid W) : Γd.G W ∧ Γd.gs ≤ W.heap.size := by
 have h' : laidMet Tryd.prog [] W ∧ handlesMet Tryd.prog Rows.snapBackRow.laid W := h
 obtain ⟨name, u, ty, e1, e2, e3, e4, e5⟩ := h'.2 _ (List.mem_singleton.2 rfl)
 have en : name = [101, 114, 114, 111, 114] := (Option.some.inj e1).symm
 subst en
 obtain rfl := Option.some.inj (rtE.symm.trans e2)
 have hm : ty ∈ (List.range 177).filter fun t => Tryd.prog.rowNamed t [101, 114, 114, 111, 114] := List.mem_filter.2 ⟨List.mem_range.2 (by rw [← sizeT]; exact e3), e4⟩
 rw [oneRow] at hm
 obtain rfl := List.mem_singleton.1 hm
 have hh : typeHandle Tryd.prog 65 = .pointer (some ⟨1, 65, none⟩) := by kernel_rfl
 rw [hh] at e5
 exact ⟨e5, var_lt gE e5⟩
theorem own : ownKnob Tryd.prog.godebug = none := by kernel_rfl
theorem laidOut : laidOutB Tryd.prog = true := by kernel_rfl
set_option maxRecDepth 100000 in
theorem lifted (os : Os) (started : os.Started) (H : Type) (enc : TypeId × Value → H) :
  ReturnsInHanded {} Tryd.checked os 3 .any (fun w args => (Rows.snapBackSpec.pre enc Tryd.prog Tryd.f3 Rows.snapBackRow.domain false w args ∧ laidMetH Tryd.prog Rows.snapBackRow.laid w) ∧ sizedMet enc Tryd.prog Tryd.f3 (OpenSpec.ofChange Rows.snapBackSpec) false w args) (Rows.snapBackSpec.post enc Tryd.prog Tryd.f3 false true false false) := by
 refine returnsInHanded_of_change_and (C := Tryd.checked) (X := fun w _ => laidMetH Tryd.prog Rows.snapBackRow.laid w) (fun _ _ _ hh h => h.of_heap hh) own started (by kernel_rfl) Tryd.func3
  (ChangeSpec.witness_at (enc := enc) (C := Tryd.checked) (os := os) (X := fun w _ => laidMetH Tryd.prog Rows.snapBackRow.laid w) false (laidW os) #[.slice none 0 0, .slice none 0 0, .int .u16 0, .int .u16 0, .int .u8 0] 8 rfl (by kernel_rfl) (by kernel_rfl) (by kernel_rfl) (by kernel_rfl) (by kernel_rfl) (laidW_met os _)) ?_
 intro W base args ds gs before hval0 hW hcnd _ hL _
 obtain ⟨hGw, hgs⟩ := met hL
 have hval : ∀ (j : Nat) t v, Tryd.f3.params[j]? = some t → args[j]? = some v → Value.okWide Tryd.prog W .any base t v := hval0
 have hW' := hW
 obtain ⟨p, q, hA0, hV, rfl, hfz, hnd⟩ := hW
 have hA : DataW.TrodAll enc Tryd.prog W 0 (fun _ => true) true Tryd.f3.params.toList args.toList ds p := hA0
 rw [Tryd.params3] at hA hval
 obtain ⟨v0, vs0, d0, ds0, p0, q0, hargs, rfl, rfl, h0, r0⟩ := trodAll_cons hA
 obtain ⟨v1, vs1, d1, ds1, p1, q1, rfl, rfl, rfl, h1, r1⟩ := trodAll_cons r0
 obtain ⟨v2, vs2, d2, ds2, p2, q2, rfl, rfl, rfl, h2, r2⟩ := trodAll_cons r1
 obtain ⟨v3, vs3, d3, ds3, p3, q3, rfl, rfl, rfl, h3, r3⟩ := trodAll_cons r2
 obtain ⟨v4, vs4, d4, ds4, p4, q4, rfl, rfl, rfl, h4, r4⟩ := trodAll_cons r3
 obtain ⟨rfl, rfl, rfl⟩ := trodAll_nil r4
 obtain rfl : args = #[v0, v1, v2, v3, v4] := by cases args; simp_all
 obtain ⟨rfl, rfl⟩ := trodVars_none hV
 have lt0 : ∀ x ∈ p0, x.block < W.heap.size := by obtain ⟨m, hm⟩ := h0; exact DataW.trod_lt m _ _ _ hm
 have lt1 : ∀ x ∈ p1, x.block < W.heap.size := by obtain ⟨m, hm⟩ := h1; exact DataW.trod_lt m _ _ _ hm
 have lt2 : ∀ x ∈ p2, x.block < W.heap.size := by obtain ⟨m, hm⟩ := h2; exact DataW.trod_lt m _ _ _ hm
 have lt3 : ∀ x ∈ p3, x.block < W.heap.size := by obtain ⟨m, hm⟩ := h3; exact DataW.trod_lt m _ _ _ hm
 have lt4 : ∀ x ∈ p4, x.block < W.heap.size := by obtain ⟨m, hm⟩ := h4; exact DataW.trod_lt m _ _ _ hm
 obtain ⟨x0, y0, b0⟩ := a_list (m := 2) (f := w8) Tryd.underlying22 F.c5 (by kernel_rfl) (el_u8 Tryd.underlying5) (hval 0 22 v0 rfl rfl) h0
 obtain ⟨x1, y1, b1⟩ := a_list (m := 2) (f := w8) Tryd.underlying22 F.c5 (by kernel_rfl) (el_u8 Tryd.underlying5) (hval 1 22 v1 rfl rfl) h1
 obtain ⟨x2, y2⟩ := a_u16 Tryd.underlying23 (hval 2 23 v2 rfl rfl) h2
 obtain ⟨x3, y3⟩ := a_u16 Tryd.underlying23 (hval 3 23 v3 rfl rfl) h3
 obtain ⟨x4, y4⟩ := a_u8 Tryd.underlying5 (hval 4 5 v4 rfl rfl) h4
 clear hA0 hval0
 have hG : Go.Ot.Good Γd prog 3 [.t (lst w8 x0), .t (lst w8 x1), .t (w16 x2), .t (w16 x3), .t (w8 x4)] [] (.t (bol true)) [] [] := back_good Γd egd x0 x1 x2 x3 x4 b0 b1
 have hR : RepsA W (Mx (HpOf []) none0 no) none0 [.t (lst w8 x0), .t (lst w8 x1), .t (w16 x2), .t (w16 x3), .t (w8 x4)] [v0, v1, v2, v3, v4] := ⟨v0, _, rfl, rep_t y0, v1, _, rfl, rep_t y1, v2, _, rfl, rep_t y2, v3, _, rfl, rep_t y3, v4, _, rfl, rep_t y4, rfl⟩
 refine (law_walkG hG hGw hgs hR).mono fun e W' ⟨he, bel⟩ => ?_
 subst he
 exact ⟨_, rfl, _, _, _, [], _, [], hW', trodAll_mk1 (shut_bool Tryd.underlying4 _), (trodAll_cons_mk (Below.trod laidOut (by kernel_rfl) (of_decide_eq_true (by kernel_rfl)) h0 bel lt0) (trodAll_cons_mk (Below.trod laidOut (by kernel_rfl) (of_decide_eq_true (by kernel_rfl)) h1 bel lt1) (trodAll_cons_mk (Below.trod laidOut (by kernel_rfl) (of_decide_eq_true (by kernel_rfl)) h2 bel lt2) (trodAll_cons_mk (Below.trod laidOut (by kernel_rfl) (of_decide_eq_true (by kernel_rfl)) h3 bel lt3) (trodAll_cons_mk (Below.trod laidOut (by kernel_rfl) (of_decide_eq_true (by kernel_rfl)) h4 bel lt4) trodAll_mk0))))), rfl, bel.frame _, fun h => by cases h⟩

theorem over : Rows.snapBackRow.holds Tryd.pinned (OpenSpec.ofChange Rows.snapBackSpec) :=
 OpenClaim.holds_of_wide 3 Tryd.f3 rfl rfl rfl rfl rfl rfl rfl ⟨rfl, rfl, rfl, rfl, rfl⟩ rfl rfl rfl rfl rfl (by kernel_rfl) Tryd.func3 (by kernel_rfl)
  (of_decide_eq_true (by kernel_rfl)) (by unfold Func.isWrapper; first | (rw [if_pos (by decide +kernel)]; kernel_rfl) | (rw [if_neg (by decide +kernel)]; exact ⟨rfl, rfl⟩))
  (fun os started H enc _ => lifted os started H enc)

theorem proved : Rows.SnapBackCardSaid :=
 Claim7.holds_tied_plain_at .later [] [.handle] true (true, "d1831c662c9742b77dbdc98c911c30509851ac65792b09911d85ea2eedcffa5e") true
  over (fun _ h => by cases h) (by kernel_rfl) (fun _ h => by cases h) snapBack_row_tie rfl ⟨rfl, rfl⟩ (by kernel_rfl) rfl
  (fun f fn hf hfn => by
   obtain rfl : f = 3 := Option.some.inj ((show Tryd.prog.funcNamed "deaddrop/deaddroplaw13.SnapBack" = some 3 by kernel_rfl).symm.trans hf) |>.symm
   obtain rfl : fn = Tryd.f3 := (Option.some.inj (Tryd.func3.symm.trans hfn)).symm
   exact ⟨by kernel_rfl, fun j t ht => by
    rw [Tryd.params3] at ht
    have hm : t ∈ [22, 22, 23, 23, 5] := by simpa using Array.mem_of_getElem? ht
    have hall : ([22, 22, 23, 23, 5].all fun u => !Tryd.prog.wantsStandIn u) = true := by kernel_rfl
    exact (show Tryd.prog.wantsStandIn t = false by simpa using List.all_eq_true.1 hall t hm)⟩)
  (by kernel_rfl)
#print axioms proved
end Go.Proofs.YtppicdhlpdhoiaaDoor.SnapBackDone
