/- What must come of fixed calls, reckoned out. -/
import Derived.Test.YtlpnbbonbclddaaQdcmhjkieja
import Derived.Test.YtlpnbbonbclddaaQfjkfpmgahk
import Derived.Test.YtlpnbbonbclddaaQdlkjkjemhn
namespace Go.Proofs.Ytlpnbbonbclddaa.P
open Go Go.RowKit Go.Proofs.Ytlpnbbonbclddaa.Civ Go.Proofs.Ytlpnbbonbclddaa.Ft
section
open A
set_option maxRecDepth 100000 in
theorem known_run : runC Try.prog 60 (tab [(20, cyShift), (38, cyOn), (39, cyAt)]) 13 [] = some (true, .bool true) := by kernel_rfl
theorem cyKnown_ok : COk Try.prog 13 cyKnown := by
  intro args p v hc hp w A hA
  unfold cyKnown at hc
  split at hc
  case h_2 => cases hc
  simp only [Option.some.injEq, Prod.mk.injEq] at hc
  obtain ⟨rfl, rfl⟩ := hc
  exact runC_ok mixed 60 (tab_cons cyShift_ok (tab_cons cyOn_ok (tab_cons cyAt_ok tab_nil))) _ _ true _ known_run rfl w A hA
end
end Go.Proofs.Ytlpnbbonbclddaa.P
