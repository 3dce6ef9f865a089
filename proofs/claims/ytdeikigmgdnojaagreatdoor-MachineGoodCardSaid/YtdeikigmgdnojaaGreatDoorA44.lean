import Derived.Test.YtdeikigmgdnojaaGreatDoorA38
/- A part of the proof of one law. -/
set_option maxRecDepth 100000
set_option maxHeartbeats 8000000
set_option linter.unusedVariables false
set_option linter.unusedSimpArgs false
namespace Go.Ab
open Go Go.Ab.Tryz Go.Proofs
theorem aA5 {P:Program} {W:World} {base:Nat} {t:TypeId} {v:Value} (hu:P.underlying t=some (.int .i64)) (hok:Value.okWide P W .any base t v) :
  ∃ n:Int,aX (fun _=>none) W (fun _=>False) (iv n) v:=by
 unfold Value.okWide at hok
 rw [hu] at hok
 simp only at hok
 unfold Cell.okWide at hok
 rw [hu] at hok
 have hv:∃ n,v = .int .i64 n∧IntKind.i64.has n:=by
  cases v <;> first | (simp [Cell.ok,hu] at hok;done) | skip
  rename_i k n
  simp only [Cell.ok,hu] at hok
  obtain ⟨rfl,h⟩:=hok
  exact ⟨n,rfl,h⟩
 obtain ⟨n,rfl,h⟩:=hv
 exact ⟨n,.d (.sc _ (by
  unfold IntKind.has at h
  simp only [pU,Bool.and_eq_true,decide_eq_true_eq]
  exact h))⟩
end Go.Ab
