import Derived.Test.YtbpponebopnfaaaRows
import Derived.Test.YtbpponebopnfaaaSU
import Derived.Test.YtbpponebopnfaaaOtLaw
set_option maxHeartbeats 4000000
set_option linter.unusedVariables false
namespace Go.Proofs.Ytbpponebopnfaaa.MailRunsDone
open Go.ChangeShapes Go.WideShapes Go.ChangeAt Go.RowKit Go.Ot Go.Proofs.Try
open Go.ChangeMaps (open_string shut_string)

theorem own : ownKnob Try.prog.godebug = none := by kernel_rfl
theorem laidOut : laidOutB Try.prog = true := by kernel_rfl
theorem ok39 : okT Try.prog 3 39 = true := by kernel_rfl
theorem fit_u16s {ts : List T} (h : Fit Try.prog 3 39 ts) : ∃ l : List UInt16, ts = [.sl l.length (l.map u16)] ∧ l.length ≤ maxLen := by
  refine fit_list (m := 2) Try.underlying39 F.c40 (fun c hc => ?_) h
  obtain ⟨n, hn, hw⟩ := fit_int (m := 1) Try.underlying40 hc
  cases hn
  have hb : 0 ≤ n ∧ n ≤ 65535 := by simpa [Lit.wf, IntKind.min, IntKind.max, IntKind.signed, IntKind.bits] using hw
  refine ⟨UInt16.ofNat n.toNat, ?_⟩
  have : ((UInt16.ofNat n.toNat).toNat : Int) = n := by
    rw [UInt16.toNat_ofNat']; omega
  simp only [u16, this]

set_option maxRecDepth 100000 in
theorem lifted (os : Os) (started : os.Started) (H : Type) (enc : TypeId × Value → H) :
    ReturnsInHanded {} Try.checked os 4 .any (Rows.mailRunsSpec.pre6 enc Try.prog Try.f4 Rows.mailRunsRow.domain false) (Rows.mailRunsSpec.post enc Try.prog Try.f4 false true false false) := by
  refine returnsInHanded_of_change (C := Try.checked) own started (by kernel_rfl) Try.func4
    (ChangeSpec.witness6 (enc := enc) (C := Try.checked) false ⟨#[], #[.slice none 0 0], []⟩ 8 (by kernel_rfl) (by kernel_rfl) (by kernel_rfl) (by kernel_rfl)) ?_
  intro W base args ds gs before hval0 hW hcnd _
  have hval : ∀ (j : Nat) t v, Try.f4.params[j]? = some t → args[j]? = some v → Value.okWide Try.prog W .any base t v := hval0
  have hW' := hW
  obtain ⟨p, q, hA0, hV, rfl, hfz, hnd⟩ := hW
  have hA : DataW.TrodAll enc Try.prog W 0 (fun _ => true) true Try.f4.params.toList args.toList ds p := hA0
  rw [Try.params4] at hA hval
  obtain ⟨v0, vs0, d0, ds0, p0, q0, hargs, rfl, rfl, h0, r0⟩ := trodAll_cons hA
  obtain ⟨rfl, rfl, rfl⟩ := trodAll_nil r0
  obtain rfl : args = #[v0] := by cases args; simp_all
  obtain ⟨rfl, rfl⟩ := trodVars_none hV
  have lt0 : ∀ x ∈ p0, x.block < W.heap.size := by obtain ⟨m, hm⟩ := h0; exact DataW.trod_lt m _ _ _ hm
  obtain ⟨x, rx, fx⟩ := arg_slice Try.underlying39 (hval 0 39 v0 rfl rfl) h0 ok39
  obtain ⟨l, el, hl⟩ := fit_u16s fx
  cases el
  clear hA0 hval0
  have hG := runs_good Γ0 l hl
  have hR : RepsA W (Mx (HpOf []) none0 no) none0 [.t (.sl l.length (l.map u16))] [v0] := ⟨v0, _, rfl, rep_t rx, rfl⟩
  refine (law_walk hG hR).mono fun e W' ⟨he, bel⟩ => ?_
  subst he
  exact ⟨_, rfl, _, _, _, [], _, [], hW', trodAll_mk1 (shut_bool Try.underlying4 _), (trodAll_cons_mk (Below.trod laidOut (by kernel_rfl) (of_decide_eq_true (by kernel_rfl)) h0 bel lt0) trodAll_mk0), rfl, bel.frame _, fun h => by cases h⟩

theorem over : Rows.mailRunsRow.holds Try.pinned (OpenSpec.ofChange Rows.mailRunsSpec) :=
  OpenClaim.holds_of_wide 4 Try.f4 rfl rfl rfl rfl rfl rfl rfl ⟨rfl, rfl, rfl, rfl, rfl⟩ rfl rfl rfl rfl rfl (by kernel_rfl) Try.func4 (by kernel_rfl)
    (of_decide_eq_true (by kernel_rfl)) (by unfold Func.isWrapper; first | (rw [if_pos (by decide +kernel)]; kernel_rfl) | (rw [if_neg (by decide +kernel)]; exact ⟨rfl, rfl⟩))
    (fun os started H enc _ => lifted os started H enc)

theorem proved : Rows.MailRunsSaid := over
#print axioms proved
end Go.Proofs.Ytbpponebopnfaaa.MailRunsDone
