import Derived.Test.YtbpponebopnfaaaRows
import Derived.Test.YtbpponebopnfaaaSQ
import Derived.Test.YtbpponebopnfaaaOtLaw
set_option maxHeartbeats 4000000
set_option linter.unusedVariables false
namespace Go.Proofs.Ytbpponebopnfaaa.MailAllDone
open Go.ChangeShapes Go.WideShapes Go.ChangeAt Go.RowKit Go.Ot Go.Proofs.Try
open Go.ChangeMaps (open_string shut_string)

theorem own : ownKnob Try.prog.godebug = none := by kernel_rfl
theorem laidOut : laidOutB Try.prog = true := by kernel_rfl
theorem ok24 : okT Try.prog 3 24 = true := by kernel_rfl

/-- A mailbox, as it came in. -/
theorem fit_box {ts : List T} (h : Fit Try.prog 3 24 ts) : ∃ (f : Int) (l : List (List UInt8)), ts.map D.t = [.t (num f), .t (txts l)] ∧ l.length ≤ maxLen := by
  obtain ⟨h1, h2⟩ := fit_struct Try.underlying24 h
  rw [F.c24] at h1
  match ts, h1 with
  | [a, b], _ =>
    have ha := h2 _ (List.mem_cons_self)
    have hb := h2 _ (List.mem_cons_of_mem _ (List.mem_cons_self))
    simp only [F.c3, F.c22, List.drop_zero, List.drop_succ_cons, List.take_succ_cons, List.take_zero] at ha hb
    obtain ⟨n, hn, _⟩ := fit_int Try.underlying3 ha
    obtain ⟨l, hl, hm⟩ := fit_strings Try.underlying22 F.c9 Try.underlying9 hb
    cases hn
    cases hl
    exact ⟨n, l, rfl, hm⟩

set_option maxRecDepth 100000 in
theorem lifted (os : Os) (started : os.Started) (H : Type) (enc : TypeId × Value → H) :
    ReturnsInHanded {} Try.checked os 3 .any (Rows.mailAllSpec.pre6 enc Try.prog Try.f3 Rows.mailAllRow.domain false) (Rows.mailAllSpec.post enc Try.prog Try.f3 false true false false) := by
  refine returnsInHanded_of_change (C := Try.checked) own started (by kernel_rfl) Try.func3
    (ChangeSpec.witness6 (enc := enc) (C := Try.checked) false ⟨#[], #[.agg #[.int .i64 0, .slice none 0 0], .string ⟨#[]⟩, .int .i64 0], []⟩ 8 (by kernel_rfl) (by kernel_rfl) (by kernel_rfl) (by kernel_rfl)) ?_
  intro W base args ds gs before hval0 hW hcnd _
  have hval : ∀ (j : Nat) t v, Try.f3.params[j]? = some t → args[j]? = some v → Value.okWide Try.prog W .any base t v := hval0
  have hW' := hW
  obtain ⟨p, q, hA0, hV, rfl, hfz, hnd⟩ := hW
  have hA : DataW.TrodAll enc Try.prog W 0 (fun _ => true) true Try.f3.params.toList args.toList ds p := hA0
  rw [Try.params3] at hA hval
  obtain ⟨v0, vs0, d0, ds0, p0, q0, hargs, rfl, rfl, h0, r0⟩ := trodAll_cons hA
  obtain ⟨v1, vs1, d1, ds1, p1, q1, rfl, rfl, rfl, h1, r1⟩ := trodAll_cons r0
  obtain ⟨v2, vs2, d2, ds2, p2, q2, rfl, rfl, rfl, h2, r2⟩ := trodAll_cons r1
  obtain ⟨rfl, rfl, rfl⟩ := trodAll_nil r2
  obtain rfl : args = #[v0, v1, v2] := by cases args; simp_all
  obtain ⟨rfl, rfl⟩ := trodVars_none hV
  have lt0 : ∀ x ∈ p0, x.block < W.heap.size := by obtain ⟨m, hm⟩ := h0; exact DataW.trod_lt m _ _ _ hm
  have lt1 : ∀ x ∈ p1, x.block < W.heap.size := by obtain ⟨m, hm⟩ := h1; exact DataW.trod_lt m _ _ _ hm
  have lt2 : ∀ x ∈ p2, x.block < W.heap.size := by obtain ⟨m, hm⟩ := h2; exact DataW.trod_lt m _ _ _ hm
  obtain ⟨ts0, vs0, e0, rp0, ft0⟩ := arg_struct Try.underlying24 (hval 0 24 v0 rfl rfl) h0 ok24
  obtain ⟨f, l, ef, hl⟩ := fit_box ft0
  obtain ⟨s, e1, hs⟩ := arg_string Try.underlying9 (hval 1 9 v1 rfl rfl) h1
  obtain ⟨n, e2, hn⟩ := arg_int Try.underlying3 (hval 2 3 v2 rfl rfl) h2
  clear hA0 hval0
  have hG := mailall_good Γ0 f n l s hl (wf_i64 hn).1
  have hR : RepsA W (Mx (HpOf []) none0 no) none0 [Try.box f l, .t (txt s), .t (num n)] [v0, v1, v2] := by
    refine ⟨v0, _, rfl, ?_, v1, _, rfl, ?_, v2, _, rfl, ?_, rfl⟩
    · rw [e0]; have := rep_agg rp0; rw [ef] at this; exact this
    · rw [e1]; exact rep_t (x := txt s) rfl
    · rw [e2]; exact rep_t (x := num n) rfl
  refine (law_walk hG hR).mono fun e W' ⟨he, bel⟩ => ?_
  subst he
  exact ⟨_, rfl, _, _, _, [], _, [], hW', trodAll_mk1 (shut_bool Try.underlying4 _), (trodAll_cons_mk (Below.trod laidOut (by kernel_rfl) (of_decide_eq_true (by kernel_rfl)) h0 bel lt0) (trodAll_cons_mk (Below.trod laidOut (by kernel_rfl) (of_decide_eq_true (by kernel_rfl)) h1 bel lt1) (trodAll_cons_mk (Below.trod laidOut (by kernel_rfl) (of_decide_eq_true (by kernel_rfl)) h2 bel lt2) trodAll_mk0))), rfl, bel.frame _, fun h => by cases h⟩

theorem over : Rows.mailAllRow.holds Try.pinned (OpenSpec.ofChange Rows.mailAllSpec) :=
  OpenClaim.holds_of_wide 3 Try.f3 rfl rfl rfl rfl rfl rfl rfl ⟨rfl, rfl, rfl, rfl, rfl⟩ rfl rfl rfl rfl rfl (by kernel_rfl) Try.func3 (by kernel_rfl)
    (of_decide_eq_true (by kernel_rfl)) (by unfold Func.isWrapper; first | (rw [if_pos (by decide +kernel)]; kernel_rfl) | (rw [if_neg (by decide +kernel)]; exact ⟨rfl, rfl⟩))
    (fun os started H enc _ => lifted os started H enc)

theorem proved : Rows.MailAllSaid := over
#print axioms proved
end Go.Proofs.Ytbpponebopnfaaa.MailAllDone
