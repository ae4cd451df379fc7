/- A state as an argument. -/
import Derived.Test.YtppicdhlpdhoiaaGreatDoorSSL0
import Derived.Test.YtppicdhlpdhoiaaGreatDoorOtF
set_option maxRecDepth 100000
set_option linter.unusedVariables false
set_option linter.unusedSimpArgs false
namespace Go.Proofs.Tryz
open Go Go.Ot Go.ChangeShapes Go.WideShapes Go.ChangeAt Go.RowKit
theorem fit_fields {P : Program} {m n : Nat} {t : TypeId} {ts : List T} {fs : Array Field} (ht : P.underlying t = some (.struct fs)) (hc : P.cellsOf t = n) (h : Fit P (m + 1) t ts) : ts.length = n ∧ ∀ (i : Nat) (f : Field), fs[i]? = some f → Fit P m f.type ((ts.drop f.offset).take (P.cellsOf f.type)) := by
 unfold Fit at h
 rw [ht] at h
 exact ⟨h.1.trans hc, fun i f hf => h.2 f (Array.mem_def.1 (Array.mem_of_getElem? hf))⟩
theorem fit_i {P : Program} {m : Nat} {t : TypeId} {c : T} (ht : P.underlying t = some (.int .i64)) (h : Fit P (m + 1) t [c]) : ∃ n : Int, c = num n := by
 obtain ⟨n, hn, hw⟩ := fit_int ht h
 cases hn
 exact ⟨n, rfl⟩
theorem fit_s {P : Program} {m : Nat} {t : TypeId} {c : T} (ht : P.underlying t = some .string) (h : Fit P (m + 1) t [c]) : ∃ s : List UInt8, c = txt s := fit_string ht h
theorem fit_rn {ts : List T} (h : Fit prog 4 59 ts) : ∃ r : Rn, ts = rnT r := by
 obtain ⟨hl, hf⟩ := fit_fields (P := prog) (m := 3) (t := 59) underlying59 F.c59 h
 match ts, hl with
 | [a, b, c], _ =>
  have h0 : Fit prog 3 3 [a] := by
   have q : Fit prog 3 3 (([a, b, c].drop 0).take (prog.cellsOf 3)) := hf 0 _ rfl
   rw [F.c3] at q; exact q
  have h1 : Fit prog 3 3 [b] := by
   have q : Fit prog 3 3 (([a, b, c].drop 1).take (prog.cellsOf 3)) := hf 1 _ rfl
   rw [F.c3] at q; exact q
  have h2 : Fit prog 3 3 [c] := by
   have q : Fit prog 3 3 (([a, b, c].drop 2).take (prog.cellsOf 3)) := hf 2 _ rfl
   rw [F.c3] at q; exact q
  obtain ⟨x, rfl⟩ := fit_i underlying3 h0
  obtain ⟨y, rfl⟩ := fit_i underlying3 h1
  obtain ⟨z, rfl⟩ := fit_i underlying3 h2
  exact ⟨⟨x, y, z⟩, rfl⟩
theorem fit_ft {ts : List T} (h : Fit prog 4 39 ts) : ∃ r : Ft, ts = ftT r := by
 obtain ⟨hl, hf⟩ := fit_fields (P := prog) (m := 3) (t := 39) underlying39 F.c39 h
 match ts, hl with
 | [a, b, c, d, e, f], _ =>
  have h0 : Fit prog 3 37 [a, b] := by
   have q : Fit prog 3 37 (([a, b, c, d, e, f].drop 0).take (prog.cellsOf 37)) := hf 0 _ rfl
   rw [F.c37] at q; exact q
  have h1 : Fit prog 3 9 [c] := by
   have q : Fit prog 3 9 (([a, b, c, d, e, f].drop 2).take (prog.cellsOf 9)) := hf 1 _ rfl
   rw [F.c9] at q; exact q
  have h2 : Fit prog 3 3 [d] := by
   have q : Fit prog 3 3 (([a, b, c, d, e, f].drop 3).take (prog.cellsOf 3)) := hf 2 _ rfl
   rw [F.c3] at q; exact q
  have h3 : Fit prog 3 9 [e] := by
   have q : Fit prog 3 9 (([a, b, c, d, e, f].drop 4).take (prog.cellsOf 9)) := hf 3 _ rfl
   rw [F.c9] at q; exact q
  have h4 : Fit prog 3 3 [f] := by
   have q : Fit prog 3 3 (([a, b, c, d, e, f].drop 5).take (prog.cellsOf 3)) := hf 4 _ rfl
   rw [F.c3] at q; exact q
  obtain ⟨_, hg⟩ := fit_fields (P := prog) (m := 2) (t := 37) underlying37 F.c37 h0
  have g0 : Fit prog 2 3 [a] := by
   have q : Fit prog 2 3 (([a, b].drop 0).take (prog.cellsOf 3)) := hg 0 _ rfl
   rw [F.c3] at q; exact q
  have g1 : Fit prog 2 3 [b] := by
   have q : Fit prog 2 3 (([a, b].drop 1).take (prog.cellsOf 3)) := hg 1 _ rfl
   rw [F.c3] at q; exact q
  obtain ⟨x0, rfl⟩ := fit_i underlying3 g0
  obtain ⟨x1, rfl⟩ := fit_i underlying3 g1
  obtain ⟨x2, rfl⟩ := fit_s underlying9 h1
  obtain ⟨x3, rfl⟩ := fit_i underlying3 h2
  obtain ⟨x4, rfl⟩ := fit_s underlying9 h3
  obtain ⟨x5, rfl⟩ := fit_i underlying3 h4
  exact ⟨⟨x0, x1, x2, x3, x4, x5⟩, rfl⟩
theorem fit_sa {ts : List T} (h : Fit prog 6 25 ts) : ∃ s : Sa, ts = [.sl s.seen.length (s.seen.flatMap rnT), .sl s.fs.length (s.fs.flatMap ftT)] ∧ s.seen.length ≤ maxLen ∧ s.fs.length ≤ maxLen := by
 obtain ⟨hl, hf⟩ := fit_fields (P := prog) (m := 5) (t := 25) underlying25 F.c25 h
 match ts, hl with
 | [a, b], _ =>
  have h0 : Fit prog 5 22 [a] := by
   have q : Fit prog 5 22 (([a, b].drop 0).take (prog.cellsOf 22)) := hf 0 _ rfl
   rw [F.c22] at q; exact q
  have h1 : Fit prog 5 23 [b] := by
   have q : Fit prog 5 23 (([a, b].drop 1).take (prog.cellsOf 23)) := hf 1 _ rfl
   rw [F.c23] at q; exact q
  obtain ⟨l, rfl, hl1⟩ := fit_rows (P := prog) (m := 4) (f := rnT) underlying22 F.c59 rnT_len (fun ts h => fit_rn h) h0
  obtain ⟨m, rfl, hl2⟩ := fit_rows (P := prog) (m := 4) (f := ftT) underlying23 F.c39 ftT_len (fun ts h => fit_ft h) h1
  exact ⟨⟨l, m⟩, rfl, hl1, hl2⟩
section
variable {H : Type} {enc : TypeId × Value → H} {W : World} {r : Reach} {base : Nat} {spare : Nat → Bool} {held : Bool} {v : Value} {d : DataW H} {p : List MemPlace}
theorem arg_sa (hok : okT prog 6 25 = true) (hv : Value.okWide prog W r base 25 v) (h : DataW.Trod enc prog W 0 spare held 25 v d p) :
  ∃ (q : Sa) (vs : Array Value), v = .agg vs ∧ RepTs W no [.sl q.seen.length (q.seen.flatMap rnT), .sl q.fs.length (q.fs.flatMap ftT)] vs.toList ∧ q.seen.length ≤ maxLen ∧ q.fs.length ≤ maxLen := by
 obtain ⟨ts, vs, rfl, h1, h2⟩ := arg_struct (m := 6) underlying25 hv h hok
 obtain ⟨q, rfl, hq⟩ := fit_sa h2
 exact ⟨q, vs, rfl, h1, hq⟩
end
end Go.Proofs.Tryz
