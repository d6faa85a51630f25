import Derived.Test.YtimgphlfaninnaaGreatQoobaoafdnj
import Derived.Test.YtimgphlfaninnaaGreatQaneaoahjfn
namespace Go.Proofs.YtimgphlfaninnaaGreat.P
open Go.RowKit Go.Proofs.YtimgphlfaninnaaGreatW.PrintWords Go.Proofs.YtimgphlfaninnaaGreatW.PrintLast Go.Proofs.YtimgphlfaninnaaGreatW.PrintMore
open Go.Proofs.YtimgphlfaninnaaGreat.A
 attribute [local go_sem] jQ jP zB zC jE jD jO jN
set_option linter.unusedVariables false
set_option linter.unusedSimpArgs false
attribute [local go_sem high] eqA36
def zP.f (a0 : Int) : Option (Int × Int × Int) := (zG.f (wrap64 (a0 + 730425)) 146097).bind fun bt137 => (if (wrap64 (Int.tdiv (wrap64 ((wrap64 (5 * (wrap64 ((wrap64 ((wrap64 (bt137.2 - (wrap64 ((mn (wrap64 (Int.tdiv bt137.2 36524)) 3) * 36524)))) - (wrap64 ((wrap64 (Int.tdiv (wrap64 (bt137.2 - (wrap64 ((mn (wrap64 (Int.tdiv bt137.2 36524)) 3) * 36524)))) 1461)) * 1461)))) - (wrap64 ((mn (wrap64 (Int.tdiv (wrap64 ((wrap64 (bt137.2 - (wrap64 ((mn (wrap64 (Int.tdiv bt137.2 36524)) 3) * 36524)))) - (wrap64 ((wrap64 (Int.tdiv (wrap64 (bt137.2 - (wrap64 ((mn (wrap64 (Int.tdiv bt137.2 36524)) 3) * 36524)))) 1461)) * 1461)))) 365)) 3) * 365)))))) + 2)) 153)) ≥ 10 then (some (wrap64 ((wrap64 ((wrap64 ((wrap64 ((wrap64 (bt137.1 * 400)) + (wrap64 ((mn (wrap64 (Int.tdiv bt137.2 36524)) 3) * 100)))) + (wrap64 ((wrap64 (Int.tdiv (wrap64 (bt137.2 - (wrap64 ((mn (wrap64 (Int.tdiv bt137.2 36524)) 3) * 36524)))) 1461)) * 4)))) + (mn (wrap64 (Int.tdiv (wrap64 ((wrap64 (bt137.2 - (wrap64 ((mn (wrap64 (Int.tdiv bt137.2 36524)) 3) * 36524)))) - (wrap64 ((wrap64 (Int.tdiv (wrap64 (bt137.2 - (wrap64 ((mn (wrap64 (Int.tdiv bt137.2 36524)) 3) * 36524)))) 1461)) * 1461)))) 365)) 3))) + 1), wrap64 ((wrap64 (Int.tdiv (wrap64 ((wrap64 (5 * (wrap64 ((wrap64 ((wrap64 (bt137.2 - (wrap64 ((mn (wrap64 (Int.tdiv bt137.2 36524)) 3) * 36524)))) - (wrap64 ((wrap64 (Int.tdiv (wrap64 (bt137.2 - (wrap64 ((mn (wrap64 (Int.tdiv bt137.2 36524)) 3) * 36524)))) 1461)) * 1461)))) - (wrap64 ((mn (wrap64 (Int.tdiv (wrap64 ((wrap64 (bt137.2 - (wrap64 ((mn (wrap64 (Int.tdiv bt137.2 36524)) 3) * 36524)))) - (wrap64 ((wrap64 (Int.tdiv (wrap64 (bt137.2 - (wrap64 ((mn (wrap64 (Int.tdiv bt137.2 36524)) 3) * 36524)))) 1461)) * 1461)))) 365)) 3) * 365)))))) + 2)) 153)) - 9), wrap64 ((wrap64 ((wrap64 ((wrap64 ((wrap64 (bt137.2 - (wrap64 ((mn (wrap64 (Int.tdiv bt137.2 36524)) 3) * 36524)))) - (wrap64 ((wrap64 (Int.tdiv (wrap64 (bt137.2 - (wrap64 ((mn (wrap64 (Int.tdiv bt137.2 36524)) 3) * 36524)))) 1461)) * 1461)))) - (wrap64 ((mn (wrap64 (Int.tdiv (wrap64 ((wrap64 (bt137.2 - (wrap64 ((mn (wrap64 (Int.tdiv bt137.2 36524)) 3) * 36524)))) - (wrap64 ((wrap64 (Int.tdiv (wrap64 (bt137.2 - (wrap64 ((mn (wrap64 (Int.tdiv bt137.2 36524)) 3) * 36524)))) 1461)) * 1461)))) 365)) 3) * 365)))) - (wrap64 (Int.tdiv (wrap64 ((wrap64 (153 * (wrap64 (Int.tdiv (wrap64 ((wrap64 (5 * (wrap64 ((wrap64 ((wrap64 (bt137.2 - (wrap64 ((mn (wrap64 (Int.tdiv bt137.2 36524)) 3) * 36524)))) - (wrap64 ((wrap64 (Int.tdiv (wrap64 (bt137.2 - (wrap64 ((mn (wrap64 (Int.tdiv bt137.2 36524)) 3) * 36524)))) 1461)) * 1461)))) - (wrap64 ((mn (wrap64 (Int.tdiv (wrap64 ((wrap64 (bt137.2 - (wrap64 ((mn (wrap64 (Int.tdiv bt137.2 36524)) 3) * 36524)))) - (wrap64 ((wrap64 (Int.tdiv (wrap64 (bt137.2 - (wrap64 ((mn (wrap64 (Int.tdiv bt137.2 36524)) 3) * 36524)))) 1461)) * 1461)))) 365)) 3) * 365)))))) + 2)) 153)))) + 2)) 5)))) + 1))) else (some (wrap64 ((wrap64 ((wrap64 ((wrap64 (bt137.1 * 400)) + (wrap64 ((mn (wrap64 (Int.tdiv bt137.2 36524)) 3) * 100)))) + (wrap64 ((wrap64 (Int.tdiv (wrap64 (bt137.2 - (wrap64 ((mn (wrap64 (Int.tdiv bt137.2 36524)) 3) * 36524)))) 1461)) * 4)))) + (mn (wrap64 (Int.tdiv (wrap64 ((wrap64 (bt137.2 - (wrap64 ((mn (wrap64 (Int.tdiv bt137.2 36524)) 3) * 36524)))) - (wrap64 ((wrap64 (Int.tdiv (wrap64 (bt137.2 - (wrap64 ((mn (wrap64 (Int.tdiv bt137.2 36524)) 3) * 36524)))) 1461)) * 1461)))) 365)) 3)), wrap64 ((wrap64 (Int.tdiv (wrap64 ((wrap64 (5 * (wrap64 ((wrap64 ((wrap64 (bt137.2 - (wrap64 ((mn (wrap64 (Int.tdiv bt137.2 36524)) 3) * 36524)))) - (wrap64 ((wrap64 (Int.tdiv (wrap64 (bt137.2 - (wrap64 ((mn (wrap64 (Int.tdiv bt137.2 36524)) 3) * 36524)))) 1461)) * 1461)))) - (wrap64 ((mn (wrap64 (Int.tdiv (wrap64 ((wrap64 (bt137.2 - (wrap64 ((mn (wrap64 (Int.tdiv bt137.2 36524)) 3) * 36524)))) - (wrap64 ((wrap64 (Int.tdiv (wrap64 (bt137.2 - (wrap64 ((mn (wrap64 (Int.tdiv bt137.2 36524)) 3) * 36524)))) 1461)) * 1461)))) 365)) 3) * 365)))))) + 2)) 153)) + 3), wrap64 ((wrap64 ((wrap64 ((wrap64 ((wrap64 (bt137.2 - (wrap64 ((mn (wrap64 (Int.tdiv bt137.2 36524)) 3) * 36524)))) - (wrap64 ((wrap64 (Int.tdiv (wrap64 (bt137.2 - (wrap64 ((mn (wrap64 (Int.tdiv bt137.2 36524)) 3) * 36524)))) 1461)) * 1461)))) - (wrap64 ((mn (wrap64 (Int.tdiv (wrap64 ((wrap64 (bt137.2 - (wrap64 ((mn (wrap64 (Int.tdiv bt137.2 36524)) 3) * 36524)))) - (wrap64 ((wrap64 (Int.tdiv (wrap64 (bt137.2 - (wrap64 ((mn (wrap64 (Int.tdiv bt137.2 36524)) 3) * 36524)))) 1461)) * 1461)))) 365)) 3) * 365)))) - (wrap64 (Int.tdiv (wrap64 ((wrap64 (153 * (wrap64 (Int.tdiv (wrap64 ((wrap64 (5 * (wrap64 ((wrap64 ((wrap64 (bt137.2 - (wrap64 ((mn (wrap64 (Int.tdiv bt137.2 36524)) 3) * 36524)))) - (wrap64 ((wrap64 (Int.tdiv (wrap64 (bt137.2 - (wrap64 ((mn (wrap64 (Int.tdiv bt137.2 36524)) 3) * 36524)))) 1461)) * 1461)))) - (wrap64 ((mn (wrap64 (Int.tdiv (wrap64 ((wrap64 (bt137.2 - (wrap64 ((mn (wrap64 (Int.tdiv bt137.2 36524)) 3) * 36524)))) - (wrap64 ((wrap64 (Int.tdiv (wrap64 (bt137.2 - (wrap64 ((mn (wrap64 (Int.tdiv bt137.2 36524)) 3) * 36524)))) 1461)) * 1461)))) 365)) 3) * 365)))))) + 2)) 153)))) + 2)) 5)))) + 1))))
set_option maxHeartbeats 8000000 in
set_option maxRecDepth 100000 in
theorem zP.calls (a0 : Int) (r1 : Int) (r2 : Int) (r3 : Int) (w : World) (h : zP.f a0 = some (r1, r2, r3)) :
 Calls Tryz.prog 158 #[.int .i64 a0] w fun e w' => e = .returned (.tuple #[.int .i64 r1, .int .i64 r2, .int .i64 r3]) ∧ Below w.heap.size w w' := by
 have HB := Aside0.mk (Below.refl w.heap.size w)
 have H : ((zG.f (wrap64 (a0 + 730425)) 146097).bind fun bt137 => (if (wrap64 (Int.tdiv (wrap64 ((wrap64 (5 * (wrap64 ((wrap64 ((wrap64 (bt137.2 - (wrap64 ((mn (wrap64 (Int.tdiv bt137.2 36524)) 3) * 36524)))) - (wrap64 ((wrap64 (Int.tdiv (wrap64 (bt137.2 - (wrap64 ((mn (wrap64 (Int.tdiv bt137.2 36524)) 3) * 36524)))) 1461)) * 1461)))) - (wrap64 ((mn (wrap64 (Int.tdiv (wrap64 ((wrap64 (bt137.2 - (wrap64 ((mn (wrap64 (Int.tdiv bt137.2 36524)) 3) * 36524)))) - (wrap64 ((wrap64 (Int.tdiv (wrap64 (bt137.2 - (wrap64 ((mn (wrap64 (Int.tdiv bt137.2 36524)) 3) * 36524)))) 1461)) * 1461)))) 365)) 3) * 365)))))) + 2)) 153)) ≥ 10 then (some (wrap64 ((wrap64 ((wrap64 ((wrap64 ((wrap64 (bt137.1 * 400)) + (wrap64 ((mn (wrap64 (Int.tdiv bt137.2 36524)) 3) * 100)))) + (wrap64 ((wrap64 (Int.tdiv (wrap64 (bt137.2 - (wrap64 ((mn (wrap64 (Int.tdiv bt137.2 36524)) 3) * 36524)))) 1461)) * 4)))) + (mn (wrap64 (Int.tdiv (wrap64 ((wrap64 (bt137.2 - (wrap64 ((mn (wrap64 (Int.tdiv bt137.2 36524)) 3) * 36524)))) - (wrap64 ((wrap64 (Int.tdiv (wrap64 (bt137.2 - (wrap64 ((mn (wrap64 (Int.tdiv bt137.2 36524)) 3) * 36524)))) 1461)) * 1461)))) 365)) 3))) + 1), wrap64 ((wrap64 (Int.tdiv (wrap64 ((wrap64 (5 * (wrap64 ((wrap64 ((wrap64 (bt137.2 - (wrap64 ((mn (wrap64 (Int.tdiv bt137.2 36524)) 3) * 36524)))) - (wrap64 ((wrap64 (Int.tdiv (wrap64 (bt137.2 - (wrap64 ((mn (wrap64 (Int.tdiv bt137.2 36524)) 3) * 36524)))) 1461)) * 1461)))) - (wrap64 ((mn (wrap64 (Int.tdiv (wrap64 ((wrap64 (bt137.2 - (wrap64 ((mn (wrap64 (Int.tdiv bt137.2 36524)) 3) * 36524)))) - (wrap64 ((wrap64 (Int.tdiv (wrap64 (bt137.2 - (wrap64 ((mn (wrap64 (Int.tdiv bt137.2 36524)) 3) * 36524)))) 1461)) * 1461)))) 365)) 3) * 365)))))) + 2)) 153)) - 9), wrap64 ((wrap64 ((wrap64 ((wrap64 ((wrap64 (bt137.2 - (wrap64 ((mn (wrap64 (Int.tdiv bt137.2 36524)) 3) * 36524)))) - (wrap64 ((wrap64 (Int.tdiv (wrap64 (bt137.2 - (wrap64 ((mn (wrap64 (Int.tdiv bt137.2 36524)) 3) * 36524)))) 1461)) * 1461)))) - (wrap64 ((mn (wrap64 (Int.tdiv (wrap64 ((wrap64 (bt137.2 - (wrap64 ((mn (wrap64 (Int.tdiv bt137.2 36524)) 3) * 36524)))) - (wrap64 ((wrap64 (Int.tdiv (wrap64 (bt137.2 - (wrap64 ((mn (wrap64 (Int.tdiv bt137.2 36524)) 3) * 36524)))) 1461)) * 1461)))) 365)) 3) * 365)))) - (wrap64 (Int.tdiv (wrap64 ((wrap64 (153 * (wrap64 (Int.tdiv (wrap64 ((wrap64 (5 * (wrap64 ((wrap64 ((wrap64 (bt137.2 - (wrap64 ((mn (wrap64 (Int.tdiv bt137.2 36524)) 3) * 36524)))) - (wrap64 ((wrap64 (Int.tdiv (wrap64 (bt137.2 - (wrap64 ((mn (wrap64 (Int.tdiv bt137.2 36524)) 3) * 36524)))) 1461)) * 1461)))) - (wrap64 ((mn (wrap64 (Int.tdiv (wrap64 ((wrap64 (bt137.2 - (wrap64 ((mn (wrap64 (Int.tdiv bt137.2 36524)) 3) * 36524)))) - (wrap64 ((wrap64 (Int.tdiv (wrap64 (bt137.2 - (wrap64 ((mn (wrap64 (Int.tdiv bt137.2 36524)) 3) * 36524)))) 1461)) * 1461)))) 365)) 3) * 365)))))) + 2)) 153)))) + 2)) 5)))) + 1))) else (some (wrap64 ((wrap64 ((wrap64 ((wrap64 (bt137.1 * 400)) + (wrap64 ((mn (wrap64 (Int.tdiv bt137.2 36524)) 3) * 100)))) + (wrap64 ((wrap64 (Int.tdiv (wrap64 (bt137.2 - (wrap64 ((mn (wrap64 (Int.tdiv bt137.2 36524)) 3) * 36524)))) 1461)) * 4)))) + (mn (wrap64 (Int.tdiv (wrap64 ((wrap64 (bt137.2 - (wrap64 ((mn (wrap64 (Int.tdiv bt137.2 36524)) 3) * 36524)))) - (wrap64 ((wrap64 (Int.tdiv (wrap64 (bt137.2 - (wrap64 ((mn (wrap64 (Int.tdiv bt137.2 36524)) 3) * 36524)))) 1461)) * 1461)))) 365)) 3)), wrap64 ((wrap64 (Int.tdiv (wrap64 ((wrap64 (5 * (wrap64 ((wrap64 ((wrap64 (bt137.2 - (wrap64 ((mn (wrap64 (Int.tdiv bt137.2 36524)) 3) * 36524)))) - (wrap64 ((wrap64 (Int.tdiv (wrap64 (bt137.2 - (wrap64 ((mn (wrap64 (Int.tdiv bt137.2 36524)) 3) * 36524)))) 1461)) * 1461)))) - (wrap64 ((mn (wrap64 (Int.tdiv (wrap64 ((wrap64 (bt137.2 - (wrap64 ((mn (wrap64 (Int.tdiv bt137.2 36524)) 3) * 36524)))) - (wrap64 ((wrap64 (Int.tdiv (wrap64 (bt137.2 - (wrap64 ((mn (wrap64 (Int.tdiv bt137.2 36524)) 3) * 36524)))) 1461)) * 1461)))) 365)) 3) * 365)))))) + 2)) 153)) + 3), wrap64 ((wrap64 ((wrap64 ((wrap64 ((wrap64 (bt137.2 - (wrap64 ((mn (wrap64 (Int.tdiv bt137.2 36524)) 3) * 36524)))) - (wrap64 ((wrap64 (Int.tdiv (wrap64 (bt137.2 - (wrap64 ((mn (wrap64 (Int.tdiv bt137.2 36524)) 3) * 36524)))) 1461)) * 1461)))) - (wrap64 ((mn (wrap64 (Int.tdiv (wrap64 ((wrap64 (bt137.2 - (wrap64 ((mn (wrap64 (Int.tdiv bt137.2 36524)) 3) * 36524)))) - (wrap64 ((wrap64 (Int.tdiv (wrap64 (bt137.2 - (wrap64 ((mn (wrap64 (Int.tdiv bt137.2 36524)) 3) * 36524)))) 1461)) * 1461)))) 365)) 3) * 365)))) - (wrap64 (Int.tdiv (wrap64 ((wrap64 (153 * (wrap64 (Int.tdiv (wrap64 ((wrap64 (5 * (wrap64 ((wrap64 ((wrap64 (bt137.2 - (wrap64 ((mn (wrap64 (Int.tdiv bt137.2 36524)) 3) * 36524)))) - (wrap64 ((wrap64 (Int.tdiv (wrap64 (bt137.2 - (wrap64 ((mn (wrap64 (Int.tdiv bt137.2 36524)) 3) * 36524)))) 1461)) * 1461)))) - (wrap64 ((mn (wrap64 (Int.tdiv (wrap64 ((wrap64 (bt137.2 - (wrap64 ((mn (wrap64 (Int.tdiv bt137.2 36524)) 3) * 36524)))) - (wrap64 ((wrap64 (Int.tdiv (wrap64 (bt137.2 - (wrap64 ((mn (wrap64 (Int.tdiv bt137.2 36524)) 3) * 36524)))) 1461)) * 1461)))) 365)) 3) * 365)))))) + 2)) 153)))) + 2)) 5)))) + 1))))) = some (r1, r2, r3) := h
 clear h
 replace H := Option.bind_eq_some_iff.mp H
 obtain ⟨⟨t137, t138⟩, A20, H⟩ := H
 replace H : (if (wrap64 (Int.tdiv (wrap64 ((wrap64 (5 * (wrap64 ((wrap64 ((wrap64 (t138 - (wrap64 ((mn (wrap64 (Int.tdiv t138 36524)) 3) * 36524)))) - (wrap64 ((wrap64 (Int.tdiv (wrap64 (t138 - (wrap64 ((mn (wrap64 (Int.tdiv t138 36524)) 3) * 36524)))) 1461)) * 1461)))) - (wrap64 ((mn (wrap64 (Int.tdiv (wrap64 ((wrap64 (t138 - (wrap64 ((mn (wrap64 (Int.tdiv t138 36524)) 3) * 36524)))) - (wrap64 ((wrap64 (Int.tdiv (wrap64 (t138 - (wrap64 ((mn (wrap64 (Int.tdiv t138 36524)) 3) * 36524)))) 1461)) * 1461)))) 365)) 3) * 365)))))) + 2)) 153)) ≥ 10 then (some (wrap64 ((wrap64 ((wrap64 ((wrap64 ((wrap64 (t137 * 400)) + (wrap64 ((mn (wrap64 (Int.tdiv t138 36524)) 3) * 100)))) + (wrap64 ((wrap64 (Int.tdiv (wrap64 (t138 - (wrap64 ((mn (wrap64 (Int.tdiv t138 36524)) 3) * 36524)))) 1461)) * 4)))) + (mn (wrap64 (Int.tdiv (wrap64 ((wrap64 (t138 - (wrap64 ((mn (wrap64 (Int.tdiv t138 36524)) 3) * 36524)))) - (wrap64 ((wrap64 (Int.tdiv (wrap64 (t138 - (wrap64 ((mn (wrap64 (Int.tdiv t138 36524)) 3) * 36524)))) 1461)) * 1461)))) 365)) 3))) + 1), wrap64 ((wrap64 (Int.tdiv (wrap64 ((wrap64 (5 * (wrap64 ((wrap64 ((wrap64 (t138 - (wrap64 ((mn (wrap64 (Int.tdiv t138 36524)) 3) * 36524)))) - (wrap64 ((wrap64 (Int.tdiv (wrap64 (t138 - (wrap64 ((mn (wrap64 (Int.tdiv t138 36524)) 3) * 36524)))) 1461)) * 1461)))) - (wrap64 ((mn (wrap64 (Int.tdiv (wrap64 ((wrap64 (t138 - (wrap64 ((mn (wrap64 (Int.tdiv t138 36524)) 3) * 36524)))) - (wrap64 ((wrap64 (Int.tdiv (wrap64 (t138 - (wrap64 ((mn (wrap64 (Int.tdiv t138 36524)) 3) * 36524)))) 1461)) * 1461)))) 365)) 3) * 365)))))) + 2)) 153)) - 9), wrap64 ((wrap64 ((wrap64 ((wrap64 ((wrap64 (t138 - (wrap64 ((mn (wrap64 (Int.tdiv t138 36524)) 3) * 36524)))) - (wrap64 ((wrap64 (Int.tdiv (wrap64 (t138 - (wrap64 ((mn (wrap64 (Int.tdiv t138 36524)) 3) * 36524)))) 1461)) * 1461)))) - (wrap64 ((mn (wrap64 (Int.tdiv (wrap64 ((wrap64 (t138 - (wrap64 ((mn (wrap64 (Int.tdiv t138 36524)) 3) * 36524)))) - (wrap64 ((wrap64 (Int.tdiv (wrap64 (t138 - (wrap64 ((mn (wrap64 (Int.tdiv t138 36524)) 3) * 36524)))) 1461)) * 1461)))) 365)) 3) * 365)))) - (wrap64 (Int.tdiv (wrap64 ((wrap64 (153 * (wrap64 (Int.tdiv (wrap64 ((wrap64 (5 * (wrap64 ((wrap64 ((wrap64 (t138 - (wrap64 ((mn (wrap64 (Int.tdiv t138 36524)) 3) * 36524)))) - (wrap64 ((wrap64 (Int.tdiv (wrap64 (t138 - (wrap64 ((mn (wrap64 (Int.tdiv t138 36524)) 3) * 36524)))) 1461)) * 1461)))) - (wrap64 ((mn (wrap64 (Int.tdiv (wrap64 ((wrap64 (t138 - (wrap64 ((mn (wrap64 (Int.tdiv t138 36524)) 3) * 36524)))) - (wrap64 ((wrap64 (Int.tdiv (wrap64 (t138 - (wrap64 ((mn (wrap64 (Int.tdiv t138 36524)) 3) * 36524)))) 1461)) * 1461)))) 365)) 3) * 365)))))) + 2)) 153)))) + 2)) 5)))) + 1))) else (some (wrap64 ((wrap64 ((wrap64 ((wrap64 (t137 * 400)) + (wrap64 ((mn (wrap64 (Int.tdiv t138 36524)) 3) * 100)))) + (wrap64 ((wrap64 (Int.tdiv (wrap64 (t138 - (wrap64 ((mn (wrap64 (Int.tdiv t138 36524)) 3) * 36524)))) 1461)) * 4)))) + (mn (wrap64 (Int.tdiv (wrap64 ((wrap64 (t138 - (wrap64 ((mn (wrap64 (Int.tdiv t138 36524)) 3) * 36524)))) - (wrap64 ((wrap64 (Int.tdiv (wrap64 (t138 - (wrap64 ((mn (wrap64 (Int.tdiv t138 36524)) 3) * 36524)))) 1461)) * 1461)))) 365)) 3)), wrap64 ((wrap64 (Int.tdiv (wrap64 ((wrap64 (5 * (wrap64 ((wrap64 ((wrap64 (t138 - (wrap64 ((mn (wrap64 (Int.tdiv t138 36524)) 3) * 36524)))) - (wrap64 ((wrap64 (Int.tdiv (wrap64 (t138 - (wrap64 ((mn (wrap64 (Int.tdiv t138 36524)) 3) * 36524)))) 1461)) * 1461)))) - (wrap64 ((mn (wrap64 (Int.tdiv (wrap64 ((wrap64 (t138 - (wrap64 ((mn (wrap64 (Int.tdiv t138 36524)) 3) * 36524)))) - (wrap64 ((wrap64 (Int.tdiv (wrap64 (t138 - (wrap64 ((mn (wrap64 (Int.tdiv t138 36524)) 3) * 36524)))) 1461)) * 1461)))) 365)) 3) * 365)))))) + 2)) 153)) + 3), wrap64 ((wrap64 ((wrap64 ((wrap64 ((wrap64 (t138 - (wrap64 ((mn (wrap64 (Int.tdiv t138 36524)) 3) * 36524)))) - (wrap64 ((wrap64 (Int.tdiv (wrap64 (t138 - (wrap64 ((mn (wrap64 (Int.tdiv t138 36524)) 3) * 36524)))) 1461)) * 1461)))) - (wrap64 ((mn (wrap64 (Int.tdiv (wrap64 ((wrap64 (t138 - (wrap64 ((mn (wrap64 (Int.tdiv t138 36524)) 3) * 36524)))) - (wrap64 ((wrap64 (Int.tdiv (wrap64 (t138 - (wrap64 ((mn (wrap64 (Int.tdiv t138 36524)) 3) * 36524)))) 1461)) * 1461)))) 365)) 3) * 365)))) - (wrap64 (Int.tdiv (wrap64 ((wrap64 (153 * (wrap64 (Int.tdiv (wrap64 ((wrap64 (5 * (wrap64 ((wrap64 ((wrap64 (t138 - (wrap64 ((mn (wrap64 (Int.tdiv t138 36524)) 3) * 36524)))) - (wrap64 ((wrap64 (Int.tdiv (wrap64 (t138 - (wrap64 ((mn (wrap64 (Int.tdiv t138 36524)) 3) * 36524)))) 1461)) * 1461)))) - (wrap64 ((mn (wrap64 (Int.tdiv (wrap64 ((wrap64 (t138 - (wrap64 ((mn (wrap64 (Int.tdiv t138 36524)) 3) * 36524)))) - (wrap64 ((wrap64 (Int.tdiv (wrap64 (t138 - (wrap64 ((mn (wrap64 (Int.tdiv t138 36524)) 3) * 36524)))) 1461)) * 1461)))) 365)) 3) * 365)))))) + 2)) 153)))) + 2)) 5)))) + 1)))) = some (r1, r2, r3) := H
 have A2 := Aside0.mk A20
 clear A20
 obtain ⟨ji3, hji3⟩ : ∃ j_ : Int, (mn (wrap64 (Int.tdiv t138 36524)) 3) = j_ := ⟨_, rfl⟩
 replace H : (if (wrap64 (Int.tdiv (wrap64 ((wrap64 (5 * (wrap64 ((wrap64 ((wrap64 (t138 - (wrap64 ((ji3) * 36524)))) - (wrap64 ((wrap64 (Int.tdiv (wrap64 (t138 - (wrap64 ((ji3) * 36524)))) 1461)) * 1461)))) - (wrap64 ((mn (wrap64 (Int.tdiv (wrap64 ((wrap64 (t138 - (wrap64 ((ji3) * 36524)))) - (wrap64 ((wrap64 (Int.tdiv (wrap64 (t138 - (wrap64 ((ji3) * 36524)))) 1461)) * 1461)))) 365)) 3) * 365)))))) + 2)) 153)) ≥ 10 then (some (wrap64 ((wrap64 ((wrap64 ((wrap64 ((wrap64 (t137 * 400)) + (wrap64 ((ji3) * 100)))) + (wrap64 ((wrap64 (Int.tdiv (wrap64 (t138 - (wrap64 ((ji3) * 36524)))) 1461)) * 4)))) + (mn (wrap64 (Int.tdiv (wrap64 ((wrap64 (t138 - (wrap64 ((ji3) * 36524)))) - (wrap64 ((wrap64 (Int.tdiv (wrap64 (t138 - (wrap64 ((ji3) * 36524)))) 1461)) * 1461)))) 365)) 3))) + 1), wrap64 ((wrap64 (Int.tdiv (wrap64 ((wrap64 (5 * (wrap64 ((wrap64 ((wrap64 (t138 - (wrap64 ((ji3) * 36524)))) - (wrap64 ((wrap64 (Int.tdiv (wrap64 (t138 - (wrap64 ((ji3) * 36524)))) 1461)) * 1461)))) - (wrap64 ((mn (wrap64 (Int.tdiv (wrap64 ((wrap64 (t138 - (wrap64 ((ji3) * 36524)))) - (wrap64 ((wrap64 (Int.tdiv (wrap64 (t138 - (wrap64 ((ji3) * 36524)))) 1461)) * 1461)))) 365)) 3) * 365)))))) + 2)) 153)) - 9), wrap64 ((wrap64 ((wrap64 ((wrap64 ((wrap64 (t138 - (wrap64 ((ji3) * 36524)))) - (wrap64 ((wrap64 (Int.tdiv (wrap64 (t138 - (wrap64 ((ji3) * 36524)))) 1461)) * 1461)))) - (wrap64 ((mn (wrap64 (Int.tdiv (wrap64 ((wrap64 (t138 - (wrap64 ((ji3) * 36524)))) - (wrap64 ((wrap64 (Int.tdiv (wrap64 (t138 - (wrap64 ((ji3) * 36524)))) 1461)) * 1461)))) 365)) 3) * 365)))) - (wrap64 (Int.tdiv (wrap64 ((wrap64 (153 * (wrap64 (Int.tdiv (wrap64 ((wrap64 (5 * (wrap64 ((wrap64 ((wrap64 (t138 - (wrap64 ((ji3) * 36524)))) - (wrap64 ((wrap64 (Int.tdiv (wrap64 (t138 - (wrap64 ((ji3) * 36524)))) 1461)) * 1461)))) - (wrap64 ((mn (wrap64 (Int.tdiv (wrap64 ((wrap64 (t138 - (wrap64 ((ji3) * 36524)))) - (wrap64 ((wrap64 (Int.tdiv (wrap64 (t138 - (wrap64 ((ji3) * 36524)))) 1461)) * 1461)))) 365)) 3) * 365)))))) + 2)) 153)))) + 2)) 5)))) + 1))) else (some (wrap64 ((wrap64 ((wrap64 ((wrap64 (t137 * 400)) + (wrap64 ((ji3) * 100)))) + (wrap64 ((wrap64 (Int.tdiv (wrap64 (t138 - (wrap64 ((ji3) * 36524)))) 1461)) * 4)))) + (mn (wrap64 (Int.tdiv (wrap64 ((wrap64 (t138 - (wrap64 ((ji3) * 36524)))) - (wrap64 ((wrap64 (Int.tdiv (wrap64 (t138 - (wrap64 ((ji3) * 36524)))) 1461)) * 1461)))) 365)) 3)), wrap64 ((wrap64 (Int.tdiv (wrap64 ((wrap64 (5 * (wrap64 ((wrap64 ((wrap64 (t138 - (wrap64 ((ji3) * 36524)))) - (wrap64 ((wrap64 (Int.tdiv (wrap64 (t138 - (wrap64 ((ji3) * 36524)))) 1461)) * 1461)))) - (wrap64 ((mn (wrap64 (Int.tdiv (wrap64 ((wrap64 (t138 - (wrap64 ((ji3) * 36524)))) - (wrap64 ((wrap64 (Int.tdiv (wrap64 (t138 - (wrap64 ((ji3) * 36524)))) 1461)) * 1461)))) 365)) 3) * 365)))))) + 2)) 153)) + 3), wrap64 ((wrap64 ((wrap64 ((wrap64 ((wrap64 (t138 - (wrap64 ((ji3) * 36524)))) - (wrap64 ((wrap64 (Int.tdiv (wrap64 (t138 - (wrap64 ((ji3) * 36524)))) 1461)) * 1461)))) - (wrap64 ((mn (wrap64 (Int.tdiv (wrap64 ((wrap64 (t138 - (wrap64 ((ji3) * 36524)))) - (wrap64 ((wrap64 (Int.tdiv (wrap64 (t138 - (wrap64 ((ji3) * 36524)))) 1461)) * 1461)))) 365)) 3) * 365)))) - (wrap64 (Int.tdiv (wrap64 ((wrap64 (153 * (wrap64 (Int.tdiv (wrap64 ((wrap64 (5 * (wrap64 ((wrap64 ((wrap64 (t138 - (wrap64 ((ji3) * 36524)))) - (wrap64 ((wrap64 (Int.tdiv (wrap64 (t138 - (wrap64 ((ji3) * 36524)))) 1461)) * 1461)))) - (wrap64 ((mn (wrap64 (Int.tdiv (wrap64 ((wrap64 (t138 - (wrap64 ((ji3) * 36524)))) - (wrap64 ((wrap64 (Int.tdiv (wrap64 (t138 - (wrap64 ((ji3) * 36524)))) 1461)) * 1461)))) 365)) 3) * 365)))))) + 2)) 153)))) + 2)) 5)))) + 1)))) = some (r1, r2, r3) := by first | (rw [hji3] at H; exact H) | (simp only [hji3] at H ⊢; exact H)
 (try rw [hji3] at A2)
 (try (have hji3h : ji3 ≤ 3 := by (rw [← hji3]; unfold mn; (repeat' split) <;> omega)))
 (try (have hji3g : ji3 ≤ 64 := by omega))
 have hji3_ : (if 3 < (wrap64 (Int.tdiv t138 36524)) then 3 else (wrap64 (Int.tdiv t138 36524))) = ji3 := hji3
 obtain ⟨ji4, hji4⟩ : ∃ j_ : Int, (mn (wrap64 (Int.tdiv (wrap64 ((wrap64 (t138 - (wrap64 ((ji3) * 36524)))) - (wrap64 ((wrap64 (Int.tdiv (wrap64 (t138 - (wrap64 ((ji3) * 36524)))) 1461)) * 1461)))) 365)) 3) = j_ := ⟨_, rfl⟩
 replace H : (if (wrap64 (Int.tdiv (wrap64 ((wrap64 (5 * (wrap64 ((wrap64 ((wrap64 (t138 - (wrap64 ((ji3) * 36524)))) - (wrap64 ((wrap64 (Int.tdiv (wrap64 (t138 - (wrap64 ((ji3) * 36524)))) 1461)) * 1461)))) - (wrap64 ((ji4) * 365)))))) + 2)) 153)) ≥ 10 then (some (wrap64 ((wrap64 ((wrap64 ((wrap64 ((wrap64 (t137 * 400)) + (wrap64 ((ji3) * 100)))) + (wrap64 ((wrap64 (Int.tdiv (wrap64 (t138 - (wrap64 ((ji3) * 36524)))) 1461)) * 4)))) + (ji4))) + 1), wrap64 ((wrap64 (Int.tdiv (wrap64 ((wrap64 (5 * (wrap64 ((wrap64 ((wrap64 (t138 - (wrap64 ((ji3) * 36524)))) - (wrap64 ((wrap64 (Int.tdiv (wrap64 (t138 - (wrap64 ((ji3) * 36524)))) 1461)) * 1461)))) - (wrap64 ((ji4) * 365)))))) + 2)) 153)) - 9), wrap64 ((wrap64 ((wrap64 ((wrap64 ((wrap64 (t138 - (wrap64 ((ji3) * 36524)))) - (wrap64 ((wrap64 (Int.tdiv (wrap64 (t138 - (wrap64 ((ji3) * 36524)))) 1461)) * 1461)))) - (wrap64 ((ji4) * 365)))) - (wrap64 (Int.tdiv (wrap64 ((wrap64 (153 * (wrap64 (Int.tdiv (wrap64 ((wrap64 (5 * (wrap64 ((wrap64 ((wrap64 (t138 - (wrap64 ((ji3) * 36524)))) - (wrap64 ((wrap64 (Int.tdiv (wrap64 (t138 - (wrap64 ((ji3) * 36524)))) 1461)) * 1461)))) - (wrap64 ((ji4) * 365)))))) + 2)) 153)))) + 2)) 5)))) + 1))) else (some (wrap64 ((wrap64 ((wrap64 ((wrap64 (t137 * 400)) + (wrap64 ((ji3) * 100)))) + (wrap64 ((wrap64 (Int.tdiv (wrap64 (t138 - (wrap64 ((ji3) * 36524)))) 1461)) * 4)))) + (ji4)), wrap64 ((wrap64 (Int.tdiv (wrap64 ((wrap64 (5 * (wrap64 ((wrap64 ((wrap64 (t138 - (wrap64 ((ji3) * 36524)))) - (wrap64 ((wrap64 (Int.tdiv (wrap64 (t138 - (wrap64 ((ji3) * 36524)))) 1461)) * 1461)))) - (wrap64 ((ji4) * 365)))))) + 2)) 153)) + 3), wrap64 ((wrap64 ((wrap64 ((wrap64 ((wrap64 (t138 - (wrap64 ((ji3) * 36524)))) - (wrap64 ((wrap64 (Int.tdiv (wrap64 (t138 - (wrap64 ((ji3) * 36524)))) 1461)) * 1461)))) - (wrap64 ((ji4) * 365)))) - (wrap64 (Int.tdiv (wrap64 ((wrap64 (153 * (wrap64 (Int.tdiv (wrap64 ((wrap64 (5 * (wrap64 ((wrap64 ((wrap64 (t138 - (wrap64 ((ji3) * 36524)))) - (wrap64 ((wrap64 (Int.tdiv (wrap64 (t138 - (wrap64 ((ji3) * 36524)))) 1461)) * 1461)))) - (wrap64 ((ji4) * 365)))))) + 2)) 153)))) + 2)) 5)))) + 1)))) = some (r1, r2, r3) := by first | (rw [hji4] at H; exact H) | (simp only [hji4] at H ⊢; exact H)
 (try rw [hji4] at A2)
 have hji4_ : (if 3 < (wrap64 (Int.tdiv (wrap64 ((wrap64 (t138 - (wrap64 ((ji3) * 36524)))) - (wrap64 ((wrap64 (Int.tdiv (wrap64 (t138 - (wrap64 ((ji3) * 36524)))) 1461)) * 1461)))) 365)) then 3 else (wrap64 (Int.tdiv (wrap64 ((wrap64 (t138 - (wrap64 ((ji3) * 36524)))) - (wrap64 ((wrap64 (Int.tdiv (wrap64 (t138 - (wrap64 ((ji3) * 36524)))) 1461)) * 1461)))) 365))) = ji4 := hji4
 by_cases c5 : (wrap64 (Int.tdiv (wrap64 ((wrap64 (5 * (wrap64 ((wrap64 ((wrap64 (t138 - (wrap64 ((ji3) * 36524)))) - (wrap64 ((wrap64 (Int.tdiv (wrap64 (t138 - (wrap64 ((ji3) * 36524)))) 1461)) * 1461)))) - (wrap64 ((ji4) * 365)))))) + 2)) 153)) ≥ 10
 · rw [if_pos c5] at H
   have c5b0 : decide (10 ≤ (wrap64 (Int.tdiv (wrap64 ((wrap64 (5 * (wrap64 ((wrap64 ((wrap64 (t138 - (wrap64 ((ji3) * 36524)))) - (wrap64 ((wrap64 (Int.tdiv (wrap64 (t138 - (wrap64 ((ji3) * 36524)))) 1461)) * 1461)))) - (wrap64 ((ji4) * 365)))))) + 2)) 153))) = true := decide_eq_true c5
   clear c5
   simp only [Option.some.injEq, Prod.mk.injEq] at H
   obtain ⟨rfl, rfl, rfl⟩ := H
   go_enter Tryz.func158, Tryz.ntmps158
   go_wp2_with (first | ((with_reducible refine kW (f := 159) rfl ?_); refine jI (some 16) rfl rfl Tryz.func159 (by kernel_rfl) rfl #[.int .i64 (wrap64 (a0 + 730425)), .int .i64 146097] rfl (by (try simp only [List.map_toArray, List.map_cons, List.map_nil]); first | done | rfl | (simp only [List.length_drop, List.length_take]; rfl)) ?_; (with_reducible refine (zG.calls (wrap64 (a0 + 730425)) 146097 t137 t138 _ A2.out).mono ?_); rintro e w' ⟨rfl, ⟨nd, rfl⟩⟩; refine ⟨_, rfl, ?_⟩))
   go_ret3
   exact ⟨by first | rfl | (simp [zR, zS] <;> rfl) | (simp only [← hji3, ← hji4]; first | rfl | (simp [zR, zS] <;> rfl)) | (simp [*, zR, zS] <;> rfl), by repeat (first | (with_reducible first | exact HB.out | apply kO | apply kF | apply kQ) | exact HB.out)⟩
 · rw [if_neg c5] at H
   have c5b0 : decide (10 ≤ (wrap64 (Int.tdiv (wrap64 ((wrap64 (5 * (wrap64 ((wrap64 ((wrap64 (t138 - (wrap64 ((ji3) * 36524)))) - (wrap64 ((wrap64 (Int.tdiv (wrap64 (t138 - (wrap64 ((ji3) * 36524)))) 1461)) * 1461)))) - (wrap64 ((ji4) * 365)))))) + 2)) 153))) = false := decide_eq_false c5
   clear c5
   simp only [Option.some.injEq, Prod.mk.injEq] at H
   obtain ⟨rfl, rfl, rfl⟩ := H
   go_enter Tryz.func158, Tryz.ntmps158
   go_wp2_with (first | ((with_reducible refine kW (f := 159) rfl ?_); refine jI (some 16) rfl rfl Tryz.func159 (by kernel_rfl) rfl #[.int .i64 (wrap64 (a0 + 730425)), .int .i64 146097] rfl (by (try simp only [List.map_toArray, List.map_cons, List.map_nil]); first | done | rfl | (simp only [List.length_drop, List.length_take]; rfl)) ?_; (with_reducible refine (zG.calls (wrap64 (a0 + 730425)) 146097 t137 t138 _ A2.out).mono ?_); rintro e w' ⟨rfl, ⟨nd, rfl⟩⟩; refine ⟨_, rfl, ?_⟩))
   go_ret3
   exact ⟨by first | rfl | (simp [zR, zS] <;> rfl) | (simp only [← hji3, ← hji4]; first | rfl | (simp [zR, zS] <;> rfl)) | (simp [*, zR, zS] <;> rfl), by repeat (first | (with_reducible first | exact HB.out | apply kO | apply kF | apply kQ) | exact HB.out)⟩
noncomputable def zP.con : Con
 | [.int .i64 a0] => some ((zP.f a0).isSome, .tup [.int .i64 (gd (zP.f a0)).1, .int .i64 (gd (zP.f a0)).2.1, .int .i64 (gd (zP.f a0)).2.2])
 | _ => none
set_option maxRecDepth 100000 in
theorem zP.cok : COk Tryz.prog 158 (zP.con) := by
 intro args p v hc hp w A hA
 unfold zP.con at hc
 split at hc
 · rename_i a0
   simp only [Option.some.injEq, Prod.mk.injEq] at hc
   obtain ⟨rfl, rfl⟩ := hc
   rcases hf : zP.f a0 with _ | ⟨r1, r2, r3⟩
   · rw [hf] at hp; cases hp
   obtain rfl : A = [.int .i64 a0] := by simpa [kG, kK, kL, kH, kS, kM, jR] using hA
   exact kT (fn := Tryz.f158) Tryz.func158 (by kernel_rfl) (by kernel_rfl) (zP.calls _ _ _ _ w hf) (fun _ => by simp [kD, kG, kK, kL, kH, kS, kM, bU]) (fun _ h => h)
 · cases hc
def zD.f (a0 : Int) : Option (Int × Int × Int × Int) := (qV.f a0).bind fun t139 => (if t139 = true then ((zP.f a0).bind fun bt140 => (some (bt140.1, bt140.2.1, bt140.2.2, 0))) else (some (0, 0, 0, 10)))
set_option maxRecDepth 100000 in
theorem zD.vc (a0 : Int) (K : AV → Prop) : afv PA Tryz.prog (tab [(157, qV.con), (158, zP.con)]) noLoops 2 130 [.int .i64 a0] K = (brc (Option.isSome (qV.f a0)) (∀ (m0 : Bool), m0 = gd (qV.f a0) → brc (!m0) (K (AV.tup [AV.int IntKind.i64 0, AV.int IntKind.i64 0, AV.int IntKind.i64 0, AV.int IntKind.i64 10])) (brc (Option.isSome (zP.f a0)) (∀ (m1 : Int), m1 = Prod.fst (gd (zP.f a0)) → ∀ (m2 : Int), m2 = Prod.fst (Prod.snd (gd (zP.f a0))) → ∀ (m3 : Int), m3 = Prod.snd (Prod.snd (gd (zP.f a0))) → K (AV.tup [AV.int IntKind.i64 m1, AV.int IntKind.i64 m2, AV.int IntKind.i64 m3, AV.int IntKind.i64 0])) False)) False) := by kernel_rfl
set_option maxHeartbeats 1000000 in
set_option maxRecDepth 100000 in
theorem zD.calls (a0 : Int) (r1 : Int) (r2 : Int) (r3 : Int) (r4 : Int) (w : World) (h : zD.f a0 = some (r1, r2, r3, r4)) :
 Calls Tryz.prog 130 #[.int .i64 a0] w fun e w' => e = .returned (.tuple #[.int .i64 r1, .int .i64 r2, .int .i64 r3, .int .i64 r4]) ∧ Below w.heap.size w w' := by
 refine bZ (A := [.int .i64 a0]) (v := .tup [.int .i64 r1, .int .i64 r2, .int .i64 r3, .int .i64 r4]) (kP (qV.cok) (kP (zP.cok) (jV))) ((zD.vc a0 _).mpr ?_) (by simp [kG, kK, kL, kH, kS, kM, jR]) (fun ρ V' hV => by simpa [kG, kK, kL, kH, kS, kM, bU] using hV)
 unfold zD.f at h
 (try simp only [bne, Option.bind_eq_some_iff, bS] at h)
 (try simp only [bne, zM, wrap_i64])
 first
  | grind (splits := 60) [kD]
  | ((repeat' (first | (have or_ : Or _ _ := h; clear or_; rcases h with h | h) | (have or_ : Exists _ := h; clear or_; obtain ⟨_, h⟩ := h) | (have or_ : And _ _ := h; clear or_; obtain ⟨hq_, h⟩ := h))) <;> (try simp only [Option.some.injEq, Prod.mk.injEq, reduceCtorEq] at h) <;> (try subst_vars) <;> first | (simp_all [kD] <;> (try omega) <;> done) | grind (splits := 60) [kD])
  | (intros; subst_vars; simp_all [kD]; done)
noncomputable def zD.con : Con
 | [.int .i64 a0] => some ((zD.f a0).isSome, .tup [.int .i64 (gd (zD.f a0)).1, .int .i64 (gd (zD.f a0)).2.1, .int .i64 (gd (zD.f a0)).2.2.1, .int .i64 (gd (zD.f a0)).2.2.2])
 | _ => none
set_option maxRecDepth 100000 in
theorem zD.cok : COk Tryz.prog 130 (zD.con) := by
 intro args p v hc hp w A hA
 unfold zD.con at hc
 split at hc
 · rename_i a0
   simp only [Option.some.injEq, Prod.mk.injEq] at hc
   obtain ⟨rfl, rfl⟩ := hc
   rcases hf : zD.f a0 with _ | ⟨r1, r2, r3, r4⟩
   · rw [hf] at hp; cases hp
   obtain rfl : A = [.int .i64 a0] := by simpa [kG, kK, kL, kH, kS, kM, jR] using hA
   exact kT (fn := Tryz.f130) Tryz.func130 (by kernel_rfl) (by kernel_rfl) (zD.calls _ _ _ _ _ w hf) (fun _ => by simp [kD, kG, kK, kL, kH, kS, kM, bU]) (fun _ h => h)
 · cases hc
def zY.f (a0 : Int) : Option (Bool) := (zD.f a0).bind fun bt143 => (if bt143.2.2.2 = 0 then (if bt143.1 ≥ (-4712) then (some (decide (bt143.1 ≤ 294276))) else (some false)) else (some false))
set_option maxRecDepth 100000 in
theorem zY.vc (a0 : Int) (K : AV → Prop) : afv PA Tryz.prog (tab [(130, zD.con)]) noLoops 2 95 [.int .i64 a0] K = (brc (Option.isSome (zD.f a0)) (∀ (m0 : Int), m0 = Prod.fst (gd (zD.f a0)) → ∀ (m1 : Int), m1 = Prod.fst (Prod.snd (gd (zD.f a0))) → ∀ (m2 : Int), m2 = Prod.fst (Prod.snd (Prod.snd (gd (zD.f a0)))) → ∀ (m3 : Int), m3 = Prod.snd (Prod.snd (Prod.snd (gd (zD.f a0)))) → brc (m3 == 0) (brc (decide (m0 ≥ -4712)) (K (AV.bool (decide (m0 ≤ 294276)))) (K (AV.bool false))) (K (AV.bool false))) False) := by kernel_rfl
set_option maxHeartbeats 1000000 in
set_option maxRecDepth 100000 in
theorem zY.calls (a0 : Int) (r : Bool) (w : World) (h : zY.f a0 = some r) :
 Calls Tryz.prog 95 #[.int .i64 a0] w fun e w' => e = .returned (.bool r) ∧ Below w.heap.size w w' := by
 refine bZ (A := [.int .i64 a0]) (v := .bool r) (kP (zD.cok) (jV)) ((zY.vc a0 _).mpr ?_) (by simp [kG, kK, kL, kH, kS, kM, jR]) (fun ρ V' hV => by simpa [kG, kK, kL, kH, kS, kM, bU] using hV)
 unfold zY.f at h
 (try simp only [bne, Option.bind_eq_some_iff, bS] at h)
 (try simp only [bne, zM, wrap_i64])
 first
  | grind (splits := 60) [kD]
  | ((repeat' (first | (have or_ : Or _ _ := h; clear or_; rcases h with h | h) | (have or_ : Exists _ := h; clear or_; obtain ⟨_, h⟩ := h) | (have or_ : And _ _ := h; clear or_; obtain ⟨hq_, h⟩ := h))) <;> (try simp only [Option.some.injEq, Prod.mk.injEq, reduceCtorEq] at h) <;> (try subst_vars) <;> first | (simp_all [kD] <;> (try omega) <;> done) | grind (splits := 60) [kD])
  | (intros; subst_vars; simp_all [kD]; done)
noncomputable def zY.con : Con
 | [.int .i64 a0] => some ((zY.f a0).isSome, .bool (gd (zY.f a0)))
 | _ => none
set_option maxRecDepth 100000 in
theorem zY.cok : COk Tryz.prog 95 (zY.con) := by
 intro args p v hc hp w A hA
 unfold zY.con at hc
 split at hc
 · rename_i a0
   simp only [Option.some.injEq, Prod.mk.injEq] at hc
   obtain ⟨rfl, rfl⟩ := hc
   rcases hf : zY.f a0 with _ | r
   · rw [hf] at hp; cases hp
   obtain rfl : A = [.int .i64 a0] := by simpa [kG, kK, kL, kH, kS, kM, jR] using hA
   exact kT (fn := Tryz.f95) Tryz.func95 (by kernel_rfl) (by kernel_rfl) (zY.calls _ _ w hf) (fun _ => by simp [kD, kG, kK, kL, kH, kS, kM, bU]) (fun _ h => h)
 · cases hc
def kU.f (k : Nat) (a0_0 : Int) (a0_1 : Int) : Option (Bool) := (qA.f k a0_1).bind fun bt148 => (if (a0_0 == (-1) && (a0_1 == 0)) = true then (some true) else (if (a0_0 == 1 && (a0_1 == 0)) = true then (some true) else (if a0_0 = 0 then ((zY.f bt148.1).bind fun t152 => (some t152)) else (some false))))
theorem kU.mono : ∀ a0 a1 k, LeO (kU.f k a0 a1) (kU.f (k + 1) a0 a1) := by
 intro a0 a1 k
 unfold kU.f
 repeat' first
  | (with_reducible exact qA.mono _ _)
  | (with_reducible exact LeO.refl _)
  | (with_reducible exact LeO.none _)
  | (with_reducible refine LeO.ite ?_ ?_)
  | (with_reducible refine LeO.bind ?_ (fun _ => ?_))
  | exact qA.mono _ _
  | exact LeO.none _
  | refine LeO.ite ?_ ?_
  | refine LeO.bind ?_ (fun _ => ?_)
set_option maxRecDepth 100000 in
theorem kU.vc (k : Nat) (a0_0 : Int) (a0_1 : Int) (K : AV → Prop) : afv PA Tryz.prog (tab [(94, qA.con k), (95, zY.con)]) noLoops 2 51 [.agg [.int .i64 a0_0, .int .i64 a0_1]] K = (brc (Option.isSome (qA.f k a0_1)) (∀ (m0 : Int), m0 = Prod.fst (gd (qA.f k a0_1)) → ∀ (m1 : Int), m1 = Prod.snd (gd (qA.f k a0_1)) → brc (a0_0 == -1 && (a0_1 == 0 && true)) (K (AV.bool true)) (brc (a0_0 == 1 && (a0_1 == 0 && true)) (K (AV.bool true)) (brc (a0_0 == 0) (brc (Option.isSome (zY.f m0)) (∀ (m2 : Bool), m2 = gd (zY.f m0) → K (AV.bool m2)) False) (K (AV.bool false))))) False) := by kernel_rfl
set_option maxHeartbeats 1000000 in
set_option maxRecDepth 100000 in
theorem kU.calls (k : Nat) (a0_0 : Int) (a0_1 : Int) (r : Bool) (w : World) (h : kU.f k a0_0 a0_1 = some r) :
 Calls Tryz.prog 51 #[.agg #[.int .i64 a0_0, .int .i64 a0_1]] w fun e w' => e = .returned (.bool r) ∧ Below w.heap.size w w' := by
 refine bZ (A := [.agg #[.int .i64 a0_0, .int .i64 a0_1]]) (v := .bool r) (kP (qA.cok k) (kP (zY.cok) (jV))) ((kU.vc k a0_0 a0_1 _).mpr ?_) (by simp [kG, kK, kL, kH, kS, kM, jR]) (fun ρ V' hV => by simpa [kG, kK, kL, kH, kS, kM, bU] using hV)
 unfold kU.f at h
 (try simp only [bne, Option.bind_eq_some_iff, bS] at h)
 (try simp only [bne, zM, wrap_i64])
 first
  | grind (splits := 60) [kD]
  | ((repeat' (first | (have or_ : Or _ _ := h; clear or_; rcases h with h | h) | (have or_ : Exists _ := h; clear or_; obtain ⟨_, h⟩ := h) | (have or_ : And _ _ := h; clear or_; obtain ⟨hq_, h⟩ := h))) <;> (try simp only [Option.some.injEq, Prod.mk.injEq, reduceCtorEq] at h) <;> (try subst_vars) <;> first | (simp_all [kD] <;> (try omega) <;> done) | grind (splits := 60) [kD])
  | (intros; subst_vars; simp_all [kD]; done)
noncomputable def kU.con (k : Nat) : Con
 | [.agg [.int .i64 a0_0, .int .i64 a0_1]] => some ((kU.f k a0_0 a0_1).isSome, .bool (gd (kU.f k a0_0 a0_1)))
 | _ => none
set_option maxRecDepth 100000 in
theorem kU.cok (k : Nat) : COk Tryz.prog 51 (kU.con k) := by
 intro args p v hc hp w A hA
 unfold kU.con at hc
 split at hc
 · rename_i a0_0 a0_1
   simp only [Option.some.injEq, Prod.mk.injEq] at hc
   obtain ⟨rfl, rfl⟩ := hc
   rcases hf : kU.f k a0_0 a0_1 with _ | r
   · rw [hf] at hp; cases hp
   obtain rfl : A = [.agg #[.int .i64 a0_0, .int .i64 a0_1]] := by simpa [kG, kK, kL, kH, kS, kM, jR] using hA
   exact kT (fn := Tryz.f51) Tryz.func51 (by kernel_rfl) (by kernel_rfl) (kU.calls _ _ _ _ w hf) (fun _ => by simp [kD, kG, kK, kL, kH, kS, kM, bU]) (fun _ h => h)
 · cases hc
theorem kU.up {k : Nat} {a0_0 : Int} {a0_1 : Int} {r : Bool} (h : kU.f k a0_0 a0_1 = some r) : kU.f (k + 1) a0_0 a0_1 = some r := kU.mono a0_0 a0_1 k _ h
theorem kU.le {a0_0 : Int} {a0_1 : Int} {r : Bool} {k n : Nat} (h : kU.f k a0_0 a0_1 = some r) (hk : k ≤ n) : kU.f n a0_0 a0_1 = some r := by
 induction hk with
 | refl => exact h
 | step _ ih => exact kU.up ih
def qF.f (k : Nat) (a0_0 : Int) (a0_1 : Int) : Option (Int × Int × Int × Int) := (kU.f k a0_0 a0_1).bind fun t155 => (if t155 = true then (if a0_0 = 0 then ((qA.f k a0_1).bind fun bt156 => (some (0, bt156.1, bt156.2, 0))) else (some (a0_0, 0, 0, 0))) else (some (0, 0, 0, 1)))
theorem qF.mono : ∀ a0 a1 k, LeO (qF.f k a0 a1) (qF.f (k + 1) a0 a1) := by
 intro a0 a1 k
 unfold qF.f
 repeat' first
  | (with_reducible exact kU.mono _ _ _)
  | (with_reducible exact qA.mono _ _)
  | (with_reducible exact LeO.refl _)
  | (with_reducible exact LeO.none _)
  | (with_reducible refine LeO.ite ?_ ?_)
  | (with_reducible refine LeO.bind ?_ (fun _ => ?_))
  | exact kU.mono _ _ _
  | exact qA.mono _ _
  | exact LeO.none _
  | refine LeO.ite ?_ ?_
  | refine LeO.bind ?_ (fun _ => ?_)
set_option maxRecDepth 100000 in
theorem qF.vc (k : Nat) (a0_0 : Int) (a0_1 : Int) (K : AV → Prop) : afv PA Tryz.prog (tab [(51, kU.con k), (94, qA.con k)]) noLoops 2 83 [.agg [.int .i64 a0_0, .int .i64 a0_1]] K = (brc (Option.isSome (kU.f k a0_0 a0_1)) (∀ (m0 : Bool), m0 = gd (kU.f k a0_0 a0_1) → brc (!m0) (K (AV.tup [AV.agg [AV.int IntKind.i64 0, AV.int IntKind.i64 0], AV.int IntKind.i64 0, AV.int IntKind.i64 1])) (brc (a0_0 != 0) (K (AV.tup [AV.agg [AV.int IntKind.i64 a0_0, AV.int IntKind.i64 0], AV.int IntKind.i64 0, AV.int IntKind.i64 0])) (brc (Option.isSome (qA.f k a0_1)) (∀ (m1 : Int), m1 = Prod.fst (gd (qA.f k a0_1)) → ∀ (m2 : Int), m2 = Prod.snd (gd (qA.f k a0_1)) → K (AV.tup [AV.agg [AV.int IntKind.i64 0, AV.int IntKind.i64 m1], AV.int IntKind.i64 m2, AV.int IntKind.i64 0])) False))) False) := by kernel_rfl
set_option maxHeartbeats 1000000 in
set_option maxRecDepth 100000 in
theorem qF.calls (k : Nat) (a0_0 : Int) (a0_1 : Int) (r1 : Int) (r2 : Int) (r3 : Int) (r4 : Int) (w : World) (h : qF.f k a0_0 a0_1 = some (r1, r2, r3, r4)) :
 Calls Tryz.prog 83 #[.agg #[.int .i64 a0_0, .int .i64 a0_1]] w fun e w' => e = .returned (.tuple #[.agg #[.int .i64 r1, .int .i64 r2], .int .i64 r3, .int .i64 r4]) ∧ Below w.heap.size w w' := by
 refine bZ (A := [.agg #[.int .i64 a0_0, .int .i64 a0_1]]) (v := .tup [.agg [.int .i64 r1, .int .i64 r2], .int .i64 r3, .int .i64 r4]) (kP (kU.cok k) (kP (qA.cok k) (jV))) ((qF.vc k a0_0 a0_1 _).mpr ?_) (by simp [kG, kK, kL, kH, kS, kM, jR]) (fun ρ V' hV => by simpa [kG, kK, kL, kH, kS, kM, bU] using hV)
 unfold qF.f at h
 (try simp only [bne, Option.bind_eq_some_iff, bS] at h)
 (try simp only [bne, zM, wrap_i64])
 first
  | grind (splits := 60) [kD]
  | ((repeat' (first | (have or_ : Or _ _ := h; clear or_; rcases h with h | h) | (have or_ : Exists _ := h; clear or_; obtain ⟨_, h⟩ := h) | (have or_ : And _ _ := h; clear or_; obtain ⟨hq_, h⟩ := h))) <;> (try simp only [Option.some.injEq, Prod.mk.injEq, reduceCtorEq] at h) <;> (try subst_vars) <;> first | (simp_all [kD] <;> (try omega) <;> done) | grind (splits := 60) [kD])
  | (intros; subst_vars; simp_all [kD]; done)
noncomputable def qF.con (k : Nat) : Con
 | [.agg [.int .i64 a0_0, .int .i64 a0_1]] => some ((qF.f k a0_0 a0_1).isSome, .tup [.agg [.int .i64 (gd (qF.f k a0_0 a0_1)).1, .int .i64 (gd (qF.f k a0_0 a0_1)).2.1], .int .i64 (gd (qF.f k a0_0 a0_1)).2.2.1, .int .i64 (gd (qF.f k a0_0 a0_1)).2.2.2])
 | _ => none
set_option maxRecDepth 100000 in
theorem qF.cok (k : Nat) : COk Tryz.prog 83 (qF.con k) := by
 intro args p v hc hp w A hA
 unfold qF.con at hc
 split at hc
 · rename_i a0_0 a0_1
   simp only [Option.some.injEq, Prod.mk.injEq] at hc
   obtain ⟨rfl, rfl⟩ := hc
   rcases hf : qF.f k a0_0 a0_1 with _ | ⟨r1, r2, r3, r4⟩
   · rw [hf] at hp; cases hp
   obtain rfl : A = [.agg #[.int .i64 a0_0, .int .i64 a0_1]] := by simpa [kG, kK, kL, kH, kS, kM, jR] using hA
   exact kT (fn := Tryz.f83) Tryz.func83 (by kernel_rfl) (by kernel_rfl) (qF.calls _ _ _ _ _ _ _ w hf) (fun _ => by simp [kD, kG, kK, kL, kH, kS, kM, bU]) (fun _ h => h)
 · cases hc
theorem qF.up {k : Nat} {a0_0 : Int} {a0_1 : Int} {r : Int × Int × Int × Int} (h : qF.f k a0_0 a0_1 = some r) : qF.f (k + 1) a0_0 a0_1 = some r := qF.mono a0_0 a0_1 k _ h
theorem qF.le {a0_0 : Int} {a0_1 : Int} {r : Int × Int × Int × Int} {k n : Nat} (h : qF.f k a0_0 a0_1 = some r) (hk : k ≤ n) : qF.f n a0_0 a0_1 = some r := by
 induction hk with
 | refl => exact h
 | step _ ih => exact qF.up ih
end Go.Proofs.YtimgphlfaninnaaGreat.P
namespace Go.Proofs.YtimgphlfaninnaaGreat.P
open Go.RowKit Go.Proofs.YtimgphlfaninnaaGreatW.PrintWords Go.Proofs.YtimgphlfaninnaaGreatW.PrintLast Go.Proofs.YtimgphlfaninnaaGreatW.PrintMore
 attribute [local go_sem] jQ jP zB zC jE jD jO jN
set_option linter.unusedVariables false
set_option linter.unusedSimpArgs false
theorem eqA103 (d : Nat) (w : World) (x0 y0 : Int) (x1 y1 : Int) :
 (Op.equalIn (d + 2) 103 (.agg #[.int .i64 x0, .int .i64 x1]) (.agg #[.int .i64 y0, .int .i64 y1])).run Tryz.prog w = .ok (x0 == y0 && (x1 == y1)) w := by
 refine eqA_of Tryz.underlying103 (by kernel_rfl) ?_
 refine eqf_cons (by rfl) (by go_simp; rfl) (by go_simp; rfl) (by go_simp) ?_
 exact eqf_last (by rfl) (by go_simp; rfl) (by go_simp; rfl) (by go_simp)
end Go.Proofs.YtimgphlfaninnaaGreat.P
namespace Go.Proofs.YtimgphlfaninnaaGreat.P
open Go.RowKit Go.Proofs.YtimgphlfaninnaaGreatW.PrintWords Go.Proofs.YtimgphlfaninnaaGreatW.PrintLast Go.Proofs.YtimgphlfaninnaaGreatW.PrintMore
open Go.Proofs.YtimgphlfaninnaaGreat.A
 attribute [local go_sem] jQ jP zB zC jE jD jO jN
set_option linter.unusedVariables false
set_option linter.unusedSimpArgs false
attribute [local go_sem high] eqA103
def zX.f (a0_0 : Int) (a0_1 : Int) : Option (Bool) := if (a0_0 == (-1) && (a0_1 == 0)) = true then (some true) else (if (a0_0 == 1 && (a0_1 == 0)) = true then (some true) else (if a0_0 = 0 then ((zY.f a0_1).bind fun t161 => (some t161)) else (some false)))
set_option maxRecDepth 100000 in
theorem zX.vc (a0_0 : Int) (a0_1 : Int) (K : AV → Prop) : afv PA Tryz.prog (tab [(95, zY.con)]) noLoops 2 124 [.agg [.int .i64 a0_0, .int .i64 a0_1]] K = (brc (a0_0 == -1 && (a0_1 == 0 && true)) (K (AV.bool true)) (brc (a0_0 == 1 && (a0_1 == 0 && true)) (K (AV.bool true)) (brc (a0_0 == 0) (brc (Option.isSome (zY.f a0_1)) (∀ (m0 : Bool), m0 = gd (zY.f a0_1) → K (AV.bool m0)) False) (K (AV.bool false))))) := by kernel_rfl
set_option maxHeartbeats 1000000 in
set_option maxRecDepth 100000 in
theorem zX.calls (a0_0 : Int) (a0_1 : Int) (r : Bool) (w : World) (h : zX.f a0_0 a0_1 = some r) :
 Calls Tryz.prog 124 #[.agg #[.int .i64 a0_0, .int .i64 a0_1]] w fun e w' => e = .returned (.bool r) ∧ Below w.heap.size w w' := by
 refine bZ (A := [.agg #[.int .i64 a0_0, .int .i64 a0_1]]) (v := .bool r) (kP (zY.cok) (jV)) ((zX.vc a0_0 a0_1 _).mpr ?_) (by simp [kG, kK, kL, kH, kS, kM, jR]) (fun ρ V' hV => by simpa [kG, kK, kL, kH, kS, kM, bU] using hV)
 unfold zX.f at h
 (try simp only [bne, Option.bind_eq_some_iff, bS] at h)
 (try simp only [bne, zM, wrap_i64])
 first
  | grind (splits := 60) [kD]
  | ((repeat' (first | (have or_ : Or _ _ := h; clear or_; rcases h with h | h) | (have or_ : Exists _ := h; clear or_; obtain ⟨_, h⟩ := h) | (have or_ : And _ _ := h; clear or_; obtain ⟨hq_, h⟩ := h))) <;> (try simp only [Option.some.injEq, Prod.mk.injEq, reduceCtorEq] at h) <;> (try subst_vars) <;> first | (simp_all [kD] <;> (try omega) <;> done) | grind (splits := 60) [kD])
  | (intros; subst_vars; simp_all [kD]; done)
noncomputable def zX.con : Con
 | [.agg [.int .i64 a0_0, .int .i64 a0_1]] => some ((zX.f a0_0 a0_1).isSome, .bool (gd (zX.f a0_0 a0_1)))
 | _ => none
set_option maxRecDepth 100000 in
theorem zX.cok : COk Tryz.prog 124 (zX.con) := by
 intro args p v hc hp w A hA
 unfold zX.con at hc
 split at hc
 · rename_i a0_0 a0_1
   simp only [Option.some.injEq, Prod.mk.injEq] at hc
   obtain ⟨rfl, rfl⟩ := hc
   rcases hf : zX.f a0_0 a0_1 with _ | r
   · rw [hf] at hp; cases hp
   obtain rfl : A = [.agg #[.int .i64 a0_0, .int .i64 a0_1]] := by simpa [kG, kK, kL, kH, kS, kM, jR] using hA
   exact kT (fn := Tryz.f124) Tryz.func124 (by kernel_rfl) (by kernel_rfl) (zX.calls _ _ _ w hf) (fun _ => by simp [kD, kG, kK, kL, kH, kS, kM, bU]) (fun _ h => h)
 · cases hc
def zT.f (a0 : Int) (a1 : Int) : Option (Int × Int × Int) := if a1 = 0 then ((zY.f a0).bind fun t163 => (if t163 = true then (some (0, a0, 0)) else (some (0, 0, 10)))) else (some (0, 0, 10))
set_option maxRecDepth 100000 in
theorem zT.vc (a0 : Int) (a1 : Int) (K : AV → Prop) : afv PA Tryz.prog (tab [(95, zY.con)]) noLoops 2 156 [.int .i64 a0, .int .i64 a1] K = (brc (a1 != 0) (K (AV.tup [AV.agg [AV.int IntKind.i64 0, AV.int IntKind.i64 0], AV.int IntKind.i64 10])) (brc (Option.isSome (zY.f a0)) (∀ (m0 : Bool), m0 = gd (zY.f a0) → brc (!m0) (K (AV.tup [AV.agg [AV.int IntKind.i64 0, AV.int IntKind.i64 0], AV.int IntKind.i64 10])) (K (AV.tup [AV.agg [AV.int IntKind.i64 0, AV.int IntKind.i64 a0], AV.int IntKind.i64 0]))) False)) := by kernel_rfl
set_option maxHeartbeats 1000000 in
set_option maxRecDepth 100000 in
theorem zT.calls (a0 : Int) (a1 : Int) (r1 : Int) (r2 : Int) (r3 : Int) (w : World) (h : zT.f a0 a1 = some (r1, r2, r3)) :
 Calls Tryz.prog 156 #[.int .i64 a0, .int .i64 a1] w fun e w' => e = .returned (.tuple #[.agg #[.int .i64 r1, .int .i64 r2], .int .i64 r3]) ∧ Below w.heap.size w w' := by
 refine bZ (A := [.int .i64 a0, .int .i64 a1]) (v := .tup [.agg [.int .i64 r1, .int .i64 r2], .int .i64 r3]) (kP (zY.cok) (jV)) ((zT.vc a0 a1 _).mpr ?_) (by simp [kG, kK, kL, kH, kS, kM, jR]) (fun ρ V' hV => by simpa [kG, kK, kL, kH, kS, kM, bU] using hV)
 unfold zT.f at h
 (try simp only [bne, Option.bind_eq_some_iff, bS] at h)
 (try simp only [bne, zM, wrap_i64])
 first
  | grind (splits := 60) [kD]
  | ((repeat' (first | (have or_ : Or _ _ := h; clear or_; rcases h with h | h) | (have or_ : Exists _ := h; clear or_; obtain ⟨_, h⟩ := h) | (have or_ : And _ _ := h; clear or_; obtain ⟨hq_, h⟩ := h))) <;> (try simp only [Option.some.injEq, Prod.mk.injEq, reduceCtorEq] at h) <;> (try subst_vars) <;> first | (simp_all [kD] <;> (try omega) <;> done) | grind (splits := 60) [kD])
  | (intros; subst_vars; simp_all [kD]; done)
noncomputable def zT.con : Con
 | [.int .i64 a0, .int .i64 a1] => some ((zT.f a0 a1).isSome, .tup [.agg [.int .i64 (gd (zT.f a0 a1)).1, .int .i64 (gd (zT.f a0 a1)).2.1], .int .i64 (gd (zT.f a0 a1)).2.2])
 | _ => none
set_option maxRecDepth 100000 in
theorem zT.cok : COk Tryz.prog 156 (zT.con) := by
 intro args p v hc hp w A hA
 unfold zT.con at hc
 split at hc
 · rename_i a0 a1
   simp only [Option.some.injEq, Prod.mk.injEq] at hc
   obtain ⟨rfl, rfl⟩ := hc
   rcases hf : zT.f a0 a1 with _ | ⟨r1, r2, r3⟩
   · rw [hf] at hp; cases hp
   obtain rfl : A = [.int .i64 a0, .int .i64 a1] := by simpa [kG, kK, kL, kH, kS, kM, jR] using hA
   exact kT (fn := Tryz.f156) Tryz.func156 (by kernel_rfl) (by kernel_rfl) (zT.calls _ _ _ _ _ w hf) (fun _ => by simp [kD, kG, kK, kL, kH, kS, kM, bU]) (fun _ h => h)
 · cases hc
def civil_Leap.f (a0 : Int) : Option (Bool) := if (Int.tmod a0 4) = 0 then (if (Int.tmod a0 100) = 0 then (some ((Int.tmod a0 400) == 0)) else (some true)) else (some false)
set_option maxHeartbeats 8000000 in
set_option maxRecDepth 100000 in
theorem civil_Leap.calls (a0 : Int) (r : Bool) (w : World) (h : civil_Leap.f a0 = some r) :
 Calls Tryz.prog 173 #[.int .i64 a0] w fun e w' => e = .returned (.bool r) ∧ Drawn0 w w' := by
 have H : (if (Int.tmod a0 4) = 0 then (if (Int.tmod a0 100) = 0 then (some ((Int.tmod a0 400) == 0)) else (some true)) else (some false)) = some r := h
 clear h
 by_cases c2 : (Int.tmod a0 4) = 0
 · rw [if_pos c2] at H
   have c2b0 : ((Int.tmod a0 4) == 0) = true := beq_iff_eq.mpr c2
   have c2b1 : ((Int.tmod a0 4) != 0) = false := bne_eq_false_iff_eq.mpr c2
   clear c2
   by_cases c3 : (Int.tmod a0 100) = 0
   · rw [if_pos c3] at H
     have c3b0 : ((Int.tmod a0 100) == 0) = true := beq_iff_eq.mpr c3
     have c3b1 : ((Int.tmod a0 100) != 0) = false := bne_eq_false_iff_eq.mpr c3
     clear c3
     obtain rfl := Option.some.inj H
     go_enter Tryz.func173, Tryz.ntmps173
     go_wp2
     go_ret
     exact ⟨by first | rfl | (simp; done) | (simp [*]; done), by repeat (first | exact Drawn0.refl _ | apply Drawn0.step)⟩
   · rw [if_neg c3] at H
     have c3b0 : ((Int.tmod a0 100) == 0) = false := beq_eq_false_iff_ne.mpr c3
     have c3b1 : ((Int.tmod a0 100) != 0) = true := bne_iff_ne.mpr c3
     obtain rfl := Option.some.inj H
     go_enter Tryz.func173, Tryz.ntmps173
     go_wp2
     go_ret
     exact ⟨by first | rfl | (simp; done) | (simp [*]; done), by repeat (first | exact Drawn0.refl _ | apply Drawn0.step)⟩
 · rw [if_neg c2] at H
   have c2b0 : ((Int.tmod a0 4) == 0) = false := beq_eq_false_iff_ne.mpr c2
   have c2b1 : ((Int.tmod a0 4) != 0) = true := bne_iff_ne.mpr c2
   obtain rfl := Option.some.inj H
   go_enter Tryz.func173, Tryz.ntmps173
   go_wp2
   go_ret
   exact ⟨by first | rfl | (simp; done) | (simp [*]; done), by repeat (first | exact Drawn0.refl _ | apply Drawn0.step)⟩
def qM.t (a1 : Int) : Int := if a1 = 2 then 28 else if a1 = 4 then 30 else if a1 = 6 then 30 else if a1 = 9 then 30 else if a1 = 11 then 30 else 31
def qM.f (a0 : Int) (a1 : Int) : Option (Int) := if a1 < 1 then (some 0) else (if a1 > 12 then (some 0) else (if a1 = 2 then ((civil_Leap.f a0).bind fun t103 => (if t103 = true then (some 29) else (some 28))) else (some (qM.t a1))))
set_option maxHeartbeats 8000000 in
set_option maxRecDepth 100000 in
theorem qM.calls (a0 : Int) (a1 : Int) (r : Int) (w : World) (h : qM.f a0 a1 = some r) :
 Calls Tryz.prog 161 #[.int .i64 a0, .int .i64 a1] w fun e w' => e = .returned (.int .i64 r) ∧ Below w.heap.size w w' := by
 have H := h
 unfold qM.f at H
 clear h
 by_cases c2 : a1 < 1
 · rw [if_pos c2] at H
   have c2b0 : decide (a1 < 1) = true := decide_eq_true c2
   obtain rfl := Option.some.inj H
   clear c2
   go_enter Tryz.func161, Tryz.ntmps161
   go_wp2
   go_ret
   exact ⟨rfl, by repeat (first | exact Below.refl _ _ | exact (Below.refl _ _).alloc (Nat.le_refl _) _ | (apply Below.setCell _ (by simp)))⟩
 · rw [if_neg c2] at H
   have c2b0 : decide (a1 < 1) = false := decide_eq_false c2
   clear c2
   by_cases c3 : a1 > 12
   · rw [if_pos c3] at H
     have c3b0 : decide (12 < a1) = true := decide_eq_true c3
     obtain rfl := Option.some.inj H
     clear c3
     go_enter Tryz.func161, Tryz.ntmps161
     go_wp2
     go_ret
     exact ⟨rfl, by repeat (first | exact Below.refl _ _ | exact (Below.refl _ _).alloc (Nat.le_refl _) _ | (apply Below.setCell _ (by simp)))⟩
   · rw [if_neg c3] at H
     have c3b0 : decide (12 < a1) = false := decide_eq_false c3
     have hlo : 1 ≤ a1 := by have := of_decide_eq_false c2b0; omega
     have hhi : a1 ≤ 12 := by omega
     clear c3
     by_cases c4 : a1 = 2
     · rw [if_pos c4] at H
       subst c4
       clear c2b0 c3b0 hlo hhi
       replace H := Option.bind_eq_some_iff.mp H
       obtain ⟨t103, A40, H⟩ := H
       have A4 := Aside0.mk A40
       clear A40
       cases t103 with
       | true =>
        obtain rfl := Option.some.inj H
        clear H
        go_enter Tryz.func161, Tryz.ntmps161
        go_wp2_with (go_at_call 173; (with_reducible refine (civil_Leap.calls a0 true _ A4.out).mono ?_); rintro e w' ⟨rfl, ⟨nd, rfl⟩⟩)
        go_ret
        exact ⟨rfl, by repeat (first | exact Below.refl _ _ | exact (Below.refl _ _).alloc (Nat.le_refl _) _ | (apply kF) | (apply below_drew) | (apply Below.setCell _ (by simp)))⟩
       | false =>
        obtain rfl := Option.some.inj H
        clear H
        go_enter Tryz.func161, Tryz.ntmps161
        go_wp2_with (go_at_call 173; (with_reducible refine (civil_Leap.calls a0 false _ A4.out).mono ?_); rintro e w' ⟨rfl, ⟨nd, rfl⟩⟩)
        go_ret
        exact ⟨rfl, by repeat (first | exact Below.refl _ _ | exact (Below.refl _ _).alloc (Nat.le_refl _) _ | (apply kF) | (apply below_drew) | (apply Below.setCell _ (by simp)))⟩
     · rw [if_neg c4] at H
       obtain rfl := Option.some.inj H
       clear H c2b0 c3b0
       rcases (by omega : a1 = 1 ∨ a1 = 3 ∨ a1 = 4 ∨ a1 = 5 ∨ a1 = 6 ∨ a1 = 7 ∨ a1 = 8 ∨ a1 = 9 ∨ a1 = 10 ∨ a1 = 11 ∨ a1 = 12) with e | e | e | e | e | e | e | e | e | e | e <;> subst e <;> clear hlo hhi c4
       all_goals
        go_enter Tryz.func161, Tryz.ntmps161
        go_wp2
        go_ret
        exact ⟨rfl, by repeat (first | exact Below.refl _ _ | exact (Below.refl _ _).alloc (Nat.le_refl _) _ | (apply kF) | (apply below_drew) | (apply Below.setCell _ (by simp)))⟩
noncomputable def qM.con : Con
 | [.int .i64 a0, .int .i64 a1] => some ((qM.f a0 a1).isSome, .int .i64 (gd (qM.f a0 a1)))
 | _ => none
set_option maxRecDepth 100000 in
theorem qM.cok : COk Tryz.prog 161 (qM.con) := by
 intro args p v hc hp w A hA
 unfold qM.con at hc
 split at hc
 · rename_i a0 a1
   simp only [Option.some.injEq, Prod.mk.injEq] at hc
   obtain ⟨rfl, rfl⟩ := hc
   rcases hf : qM.f a0 a1 with _ | r
   · rw [hf] at hp; cases hp
   obtain rfl : A = [.int .i64 a0, .int .i64 a1] := by simpa [kG, kK, kL, kH, kS, kM, jR] using hA
   exact kT (fn := Tryz.f161) Tryz.func161 (by kernel_rfl) (by kernel_rfl) (qM.calls _ _ _ w hf) (fun _ => by simp [kD, kG, kK, kL, kH, kS, kM, bU]) (fun _ h => h)
 · cases hc
def qN.f (a0 : Int) (a1 : Int) (a2 : Int) : Option (Bool) := if a0 ≥ (-4718) then (if a0 ≤ 294282 then (if a2 ≥ 1 then ((qM.f a0 a1).bind fun t164 => (some (decide (a2 ≤ t164)))) else (some false)) else (some false)) else (some false)
set_option maxRecDepth 100000 in
theorem qN.vc (a0 : Int) (a1 : Int) (a2 : Int) (K : AV → Prop) : afv PA Tryz.prog (tab [(161, qM.con)]) noLoops 2 172 [.int .i64 a0, .int .i64 a1, .int .i64 a2] K = (brc (decide (a0 ≥ -4718)) (brc (decide (a0 ≤ 294282)) (brc (decide (a2 ≥ 1)) (brc (Option.isSome (qM.f a0 a1)) (∀ (m0 : Int), m0 = gd (qM.f a0 a1) → K (AV.bool (decide (a2 ≤ m0)))) False) (K (AV.bool false))) (K (AV.bool false))) (K (AV.bool false))) := by kernel_rfl
set_option maxHeartbeats 1000000 in
set_option maxRecDepth 100000 in
theorem qN.calls (a0 : Int) (a1 : Int) (a2 : Int) (r : Bool) (w : World) (h : qN.f a0 a1 a2 = some r) :
 Calls Tryz.prog 172 #[.int .i64 a0, .int .i64 a1, .int .i64 a2] w fun e w' => e = .returned (.bool r) ∧ Below w.heap.size w w' := by
 refine bZ (A := [.int .i64 a0, .int .i64 a1, .int .i64 a2]) (v := .bool r) (kP (qM.cok) (jV)) ((qN.vc a0 a1 a2 _).mpr ?_) (by simp [kG, kK, kL, kH, kS, kM, jR]) (fun ρ V' hV => by simpa [kG, kK, kL, kH, kS, kM, bU] using hV)
 unfold qN.f at h
 (try simp only [bne, Option.bind_eq_some_iff, bS] at h)
 (try simp only [bne, zM, wrap_i64])
 first
  | grind (splits := 60) [kD]
  | ((repeat' (first | (have or_ : Or _ _ := h; clear or_; rcases h with h | h) | (have or_ : Exists _ := h; clear or_; obtain ⟨_, h⟩ := h) | (have or_ : And _ _ := h; clear or_; obtain ⟨hq_, h⟩ := h))) <;> (try simp only [Option.some.injEq, Prod.mk.injEq, reduceCtorEq] at h) <;> (try subst_vars) <;> first | (simp_all [kD] <;> (try omega) <;> done) | grind (splits := 60) [kD])
  | (intros; subst_vars; simp_all [kD]; done)
noncomputable def qN.con : Con
 | [.int .i64 a0, .int .i64 a1, .int .i64 a2] => some ((qN.f a0 a1 a2).isSome, .bool (gd (qN.f a0 a1 a2)))
 | _ => none
set_option maxRecDepth 100000 in
theorem qN.cok : COk Tryz.prog 172 (qN.con) := by
 intro args p v hc hp w A hA
 unfold qN.con at hc
 split at hc
 · rename_i a0 a1 a2
   simp only [Option.some.injEq, Prod.mk.injEq] at hc
   obtain ⟨rfl, rfl⟩ := hc
   rcases hf : qN.f a0 a1 a2 with _ | r
   · rw [hf] at hp; cases hp
   obtain rfl : A = [.int .i64 a0, .int .i64 a1, .int .i64 a2] := by simpa [kG, kK, kL, kH, kS, kM, jR] using hA
   exact kT (fn := Tryz.f172) Tryz.func172 (by kernel_rfl) (by kernel_rfl) (qN.calls _ _ _ _ w hf) (fun _ => by simp [kD, kG, kK, kL, kH, kS, kM, bU]) (fun _ h => h)
 · cases hc
end Go.Proofs.YtimgphlfaninnaaGreat.P
namespace Go.Proofs.YtimgphlfaninnaaGreat.P
open Go.RowKit Go.Proofs.YtimgphlfaninnaaGreatW.PrintWords Go.Proofs.YtimgphlfaninnaaGreatW.PrintLast Go.Proofs.YtimgphlfaninnaaGreatW.PrintMore
open Go.Proofs.YtimgphlfaninnaaGreat.A
 attribute [local go_sem] jQ jP zB zC jE jD jO jN
set_option linter.unusedVariables false
set_option linter.unusedSimpArgs false
def qP.f (a0 : Int) (a1 : Int) (a2 : Int) : Option (Int × Int) := (qN.f a0 a1 a2).bind fun t165 => (if t165 = true then ((qS.f a0 a1 a2).bind fun t166 => (some (t166, 0))) else (some (0, 10)))
set_option maxRecDepth 100000 in
theorem qP.vc (a0 : Int) (a1 : Int) (a2 : Int) (K : AV → Prop) : afv PA Tryz.prog (tab [(162, qS.con), (172, qN.con)]) noLoops 2 160 [.int .i64 a0, .int .i64 a1, .int .i64 a2] K = (brc (Option.isSome (qN.f a0 a1 a2)) (∀ (m0 : Bool), m0 = gd (qN.f a0 a1 a2) → brc (!m0) (K (AV.tup [AV.int IntKind.i64 0, AV.int IntKind.i64 10])) (brc (Option.isSome (qS.f a0 a1 a2)) (∀ (m1 : Int), m1 = gd (qS.f a0 a1 a2) → K (AV.tup [AV.int IntKind.i64 m1, AV.int IntKind.i64 0])) False)) False) := by kernel_rfl
set_option maxHeartbeats 1000000 in
set_option maxRecDepth 100000 in
theorem qP.calls (a0 : Int) (a1 : Int) (a2 : Int) (r1 : Int) (r2 : Int) (w : World) (h : qP.f a0 a1 a2 = some (r1, r2)) :
 Calls Tryz.prog 160 #[.int .i64 a0, .int .i64 a1, .int .i64 a2] w fun e w' => e = .returned (.tuple #[.int .i64 r1, .int .i64 r2]) ∧ Below w.heap.size w w' := by
 refine bZ (A := [.int .i64 a0, .int .i64 a1, .int .i64 a2]) (v := .tup [.int .i64 r1, .int .i64 r2]) (kP (qS.cok) (kP (qN.cok) (jV))) ((qP.vc a0 a1 a2 _).mpr ?_) (by simp [kG, kK, kL, kH, kS, kM, jR]) (fun ρ V' hV => by simpa [kG, kK, kL, kH, kS, kM, bU] using hV)
 unfold qP.f at h
 (try simp only [bne, Option.bind_eq_some_iff, bS] at h)
 (try simp only [bne, zM, wrap_i64])
 first
  | grind (splits := 60) [kD]
  | ((repeat' (first | (have or_ : Or _ _ := h; clear or_; rcases h with h | h) | (have or_ : Exists _ := h; clear or_; obtain ⟨_, h⟩ := h) | (have or_ : And _ _ := h; clear or_; obtain ⟨hq_, h⟩ := h))) <;> (try simp only [Option.some.injEq, Prod.mk.injEq, reduceCtorEq] at h) <;> (try subst_vars) <;> first | (simp_all [kD] <;> (try omega) <;> done) | grind (splits := 60) [kD])
  | (intros; subst_vars; simp_all [kD]; done)
noncomputable def qP.con : Con
 | [.int .i64 a0, .int .i64 a1, .int .i64 a2] => some ((qP.f a0 a1 a2).isSome, .tup [.int .i64 (gd (qP.f a0 a1 a2)).1, .int .i64 (gd (qP.f a0 a1 a2)).2])
 | _ => none
set_option maxRecDepth 100000 in
theorem qP.cok : COk Tryz.prog 160 (qP.con) := by
 intro args p v hc hp w A hA
 unfold qP.con at hc
 split at hc
 · rename_i a0 a1 a2
   simp only [Option.some.injEq, Prod.mk.injEq] at hc
   obtain ⟨rfl, rfl⟩ := hc
   rcases hf : qP.f a0 a1 a2 with _ | ⟨r1, r2⟩
   · rw [hf] at hp; cases hp
   obtain rfl : A = [.int .i64 a0, .int .i64 a1, .int .i64 a2] := by simpa [kG, kK, kL, kH, kS, kM, jR] using hA
   exact kT (fn := Tryz.f160) Tryz.func160 (by kernel_rfl) (by kernel_rfl) (qP.calls _ _ _ _ _ w hf) (fun _ => by simp [kD, kG, kK, kL, kH, kS, kM, bU]) (fun _ h => h)
 · cases hc
def bY.j0 : Nat → Int → Int → Bool → Option (Int × Int)
 | 0, _, _, _ => none
 | k + 1, x0, x1, x19 => if x19 = true then (some (0, 10)) else ((zP.f x0).bind fun bt168 => ((zG.f (wrap64 ((wrap64 ((wrap64 ((wrap64 (12 * bt168.1)) + bt168.2.1)) - 1)) + x1)) 12).bind fun bt171 => ((qM.f bt171.1 (wrap64 (bt171.2 + 1))).bind fun t173 => ((qP.f bt171.1 (wrap64 (bt171.2 + 1)) (mn bt168.2.2 t173)).bind fun bt174 => (some (bt174.1, bt174.2))))))
def bY.f (k : Nat) (a0 : Int) (a1 : Int) : Option (Int × Int) := (qV.f a0).bind fun t167 => (if t167 = true then (if a1 > 3600000 then (bY.j0 k a0 a1 true) else (bY.j0 k a0 a1 (decide (a1 < (-3600000))))) else (bY.j0 k a0 a1 true))
theorem bY.mono_l : ∀ k, (∀ y0 y1 y2, LeO (bY.j0 k y0 y1 y2) (bY.j0 (k + 1) y0 y1 y2))
 | 0 => fun _ _ _ r h => by simp [bY.j0] at h
 | k + 1 => by
  have ih0 := bY.mono_l k
  · intro y0 y1 y2
    unfold bY.j0
    repeat' first
    | (with_reducible exact ih0 _ _ _)
    | (with_reducible exact LeO.refl _)
    | (with_reducible exact LeO.none _)
    | (with_reducible refine LeO.ite ?_ ?_)
    | (with_reducible refine LeO.bind ?_ (fun _ => ?_))
    | exact ih0 _ _ _
    | exact LeO.none _
    | refine LeO.ite ?_ ?_
    | refine LeO.bind ?_ (fun _ => ?_)
theorem bY.mono : ∀ a0 a1 k, LeO (bY.f k a0 a1) (bY.f (k + 1) a0 a1) := by
 intro a0 a1 k
 have ih0 := bY.mono_l k
 unfold bY.f
 repeat' first
  | (with_reducible exact ih0 _ _ _)
  | (with_reducible exact LeO.refl _)
  | (with_reducible exact LeO.none _)
  | (with_reducible refine LeO.ite ?_ ?_)
  | (with_reducible refine LeO.bind ?_ (fun _ => ?_))
  | exact ih0 _ _ _
  | exact LeO.none _
  | refine LeO.ite ?_ ?_
  | refine LeO.bind ?_ (fun _ => ?_)
set_option maxRecDepth 100000 in
theorem bY.vc (k : Nat) (a0 : Int) (a1 : Int) (K : AV → Prop) : afv PA Tryz.prog (tab [(157, qV.con), (158, zP.con), (159, zG.con), (160, qP.con), (161, qM.con)]) noLoops 2 123 [.int .i64 a0, .int .i64 a1] K = (brc (Option.isSome (qV.f a0)) (∀ (m0 : Bool), m0 = gd (qV.f a0) → brc (!m0) (K (AV.tup [AV.int IntKind.i64 0, AV.int IntKind.i64 10])) (brc (decide (a1 > 3600000)) (K (AV.tup [AV.int IntKind.i64 0, AV.int IntKind.i64 10])) (brc (decide (a1 < -3600000)) (K (AV.tup [AV.int IntKind.i64 0, AV.int IntKind.i64 10])) (brc (Option.isSome (zP.f a0)) (∀ (m1 : Int), m1 = Prod.fst (gd (zP.f a0)) → ∀ (m2 : Int), m2 = Prod.fst (Prod.snd (gd (zP.f a0))) → ∀ (m3 : Int), m3 = Prod.snd (Prod.snd (gd (zP.f a0))) → brc (Option.isSome (zG.f (IntKind.wrap IntKind.i64 (IntKind.wrap IntKind.i64 (IntKind.wrap IntKind.i64 (IntKind.wrap IntKind.i64 (12 * m1) + m2) - 1) + a1)) 12)) (∀ (m4 : Int), m4 = Prod.fst (gd (zG.f (IntKind.wrap IntKind.i64 (IntKind.wrap IntKind.i64 (IntKind.wrap IntKind.i64 (IntKind.wrap IntKind.i64 (12 * m1) + m2) - 1) + a1)) 12)) → ∀ (m5 : Int), m5 = Prod.snd (gd (zG.f (IntKind.wrap IntKind.i64 (IntKind.wrap IntKind.i64 (IntKind.wrap IntKind.i64 (IntKind.wrap IntKind.i64 (12 * m1) + m2) - 1) + a1)) 12)) → brc (Option.isSome (qM.f m4 (IntKind.wrap IntKind.i64 (m5 + 1)))) (∀ (m6 : Int), m6 = gd (qM.f m4 (IntKind.wrap IntKind.i64 (m5 + 1))) → brc (Option.isSome (qP.f m4 (IntKind.wrap IntKind.i64 (m5 + 1)) (if m6 < m3 then m6 else m3))) (∀ (m7 : Int), m7 = Prod.fst (gd (qP.f m4 (IntKind.wrap IntKind.i64 (m5 + 1)) (if m6 < m3 then m6 else m3))) → ∀ (m8 : Int), m8 = Prod.snd (gd (qP.f m4 (IntKind.wrap IntKind.i64 (m5 + 1)) (if m6 < m3 then m6 else m3))) → K (AV.tup [AV.int IntKind.i64 m7, AV.int IntKind.i64 m8])) False) False) False) False)))) False) := by kernel_rfl
set_option maxHeartbeats 1000000 in
set_option maxRecDepth 100000 in
theorem bY.calls (k : Nat) (a0 : Int) (a1 : Int) (r1 : Int) (r2 : Int) (w : World) (h : bY.f k a0 a1 = some (r1, r2)) :
 Calls Tryz.prog 123 #[.int .i64 a0, .int .i64 a1] w fun e w' => e = .returned (.tuple #[.int .i64 r1, .int .i64 r2]) ∧ Below w.heap.size w w' := by
 refine bZ (A := [.int .i64 a0, .int .i64 a1]) (v := .tup [.int .i64 r1, .int .i64 r2]) (kP (qV.cok) (kP (zP.cok) (kP (zG.cok) (kP (qP.cok) (kP (qM.cok) (jV)))))) ((bY.vc k a0 a1 _).mpr ?_) (by simp [kG, kK, kL, kH, kS, kM, jR]) (fun ρ V' hV => by simpa [kG, kK, kL, kH, kS, kM, bU] using hV)
 unfold bY.f at h
 cases k with
 | zero =>
  (try simp only [bY.j0] at h)
  (try simp only [bne, Option.bind_eq_some_iff, bS] at h)
  (try simp only [bne, zM, wrap_i64])
  first
   | grind (splits := 60) [kD, mn]
   | ((repeat' (first | (have or_ : Or _ _ := h; clear or_; rcases h with h | h) | (have or_ : Exists _ := h; clear or_; obtain ⟨_, h⟩ := h) | (have or_ : And _ _ := h; clear or_; obtain ⟨hq_, h⟩ := h))) <;> (try simp only [Option.some.injEq, Prod.mk.injEq, reduceCtorEq] at h) <;> (try subst_vars) <;> first | (simp_all [kD, mn] <;> (try omega) <;> done) | grind (splits := 60) [kD, mn])
   | (intros; subst_vars; simp_all [kD]; done)
 | succ k =>
  (try simp only [bY.j0] at h)
  (try simp only [bne, Option.bind_eq_some_iff, bS] at h)
  (try simp only [bne, zM, wrap_i64])
  first
   | grind (splits := 60) [kD, mn]
   | ((repeat' (first | (have or_ : Or _ _ := h; clear or_; rcases h with h | h) | (have or_ : Exists _ := h; clear or_; obtain ⟨_, h⟩ := h) | (have or_ : And _ _ := h; clear or_; obtain ⟨hq_, h⟩ := h))) <;> (try simp only [Option.some.injEq, Prod.mk.injEq, reduceCtorEq] at h) <;> (try subst_vars) <;> first | (simp_all [kD, mn] <;> (try omega) <;> done) | grind (splits := 60) [kD, mn])
   | (intros; subst_vars; simp_all [kD]; done)
noncomputable def bY.con (k : Nat) : Con
 | [.int .i64 a0, .int .i64 a1] => some ((bY.f k a0 a1).isSome, .tup [.int .i64 (gd (bY.f k a0 a1)).1, .int .i64 (gd (bY.f k a0 a1)).2])
 | _ => none
set_option maxRecDepth 100000 in
theorem bY.cok (k : Nat) : COk Tryz.prog 123 (bY.con k) := by
 intro args p v hc hp w A hA
 unfold bY.con at hc
 split at hc
 · rename_i a0 a1
   simp only [Option.some.injEq, Prod.mk.injEq] at hc
   obtain ⟨rfl, rfl⟩ := hc
   rcases hf : bY.f k a0 a1 with _ | ⟨r1, r2⟩
   · rw [hf] at hp; cases hp
   obtain rfl : A = [.int .i64 a0, .int .i64 a1] := by simpa [kG, kK, kL, kH, kS, kM, jR] using hA
   exact kT (fn := Tryz.f123) Tryz.func123 (by kernel_rfl) (by kernel_rfl) (bY.calls _ _ _ _ _ w hf) (fun _ => by simp [kD, kG, kK, kL, kH, kS, kM, bU]) (fun _ h => h)
 · cases hc
def bR.f (k : Nat) (a0_0 : Int) (a0_1 : Int)  (a2 : Int) : Option (Int × Int × Int) := (zX.f a0_0 a0_1).bind fun t178 => (if t178 = true then (if a0_0 = 0 then ((bY.f k a0_1 a2).bind fun bt179 => ((zT.f bt179.1 bt179.2).bind fun bt181 => (some (bt181.1, bt181.2.1, bt181.2.2)))) else (some (a0_0, a0_1, 0))) else (some (0, 0, 1)))
theorem bR.mono : ∀ a0 a1 a2 k, LeO (bR.f k a0 a1 a2) (bR.f (k + 1) a0 a1 a2) := by
 intro a0 a1 a2 k
 unfold bR.f
 repeat' first
  | (with_reducible exact bY.mono _ _ _)
  | (with_reducible exact LeO.refl _)
  | (with_reducible exact LeO.none _)
  | (with_reducible refine LeO.ite ?_ ?_)
  | (with_reducible refine LeO.bind ?_ (fun _ => ?_))
  | exact bY.mono _ _ _
  | exact LeO.none _
  | refine LeO.ite ?_ ?_
  | refine LeO.bind ?_ (fun _ => ?_)
set_option maxRecDepth 100000 in
theorem bR.vc (k : Nat) (a0_0 : Int) (a0_1 : Int) (a2 : Int) (K : AV → Prop) : afv PA Tryz.prog (tab [(124, zX.con), (156, zT.con), (123, bY.con k)]) noLoops 2 122 [.agg [.int .i64 a0_0, .int .i64 a0_1], .fn (.func 123) [] [], .int .i64 a2] K = (brc (Option.isSome (zX.f a0_0 a0_1)) (∀ (m0 : Bool), m0 = gd (zX.f a0_0 a0_1) → brc (!m0) (K (AV.tup [AV.agg [AV.int IntKind.i64 0, AV.int IntKind.i64 0], AV.int IntKind.i64 1])) (brc (a0_0 != 0) (K (AV.tup [AV.agg [AV.int IntKind.i64 a0_0, AV.int IntKind.i64 a0_1], AV.int IntKind.i64 0])) (brc (Option.isSome (bY.f k a0_1 a2)) (∀ (m1 : Int), m1 = Prod.fst (gd (bY.f k a0_1 a2)) → ∀ (m2 : Int), m2 = Prod.snd (gd (bY.f k a0_1 a2)) → brc (Option.isSome (zT.f m1 m2)) (∀ (m3 : Int), m3 = Prod.fst (gd (zT.f m1 m2)) → ∀ (m4 : Int), m4 = Prod.fst (Prod.snd (gd (zT.f m1 m2))) → ∀ (m5 : Int), m5 = Prod.snd (Prod.snd (gd (zT.f m1 m2))) → K (AV.tup [AV.agg [AV.int IntKind.i64 m3, AV.int IntKind.i64 m4], AV.int IntKind.i64 m5])) False) False))) False) := by kernel_rfl
set_option maxHeartbeats 1000000 in
set_option maxRecDepth 100000 in
theorem bR.calls (k : Nat) (a0_0 : Int) (a0_1 : Int)  (a2 : Int) (r1 : Int) (r2 : Int) (r3 : Int) (w : World) (h : bR.f k a0_0 a0_1 a2 = some (r1, r2, r3)) :
 Calls Tryz.prog 122 #[.agg #[.int .i64 a0_0, .int .i64 a0_1], .func (.func 123) #[] #[], .int .i64 a2] w fun e w' => e = .returned (.tuple #[.agg #[.int .i64 r1, .int .i64 r2], .int .i64 r3]) ∧ Below w.heap.size w w' := by
 refine bZ (A := [.agg #[.int .i64 a0_0, .int .i64 a0_1], .func (.func 123) #[] #[], .int .i64 a2]) (v := .tup [.agg [.int .i64 r1, .int .i64 r2], .int .i64 r3]) (kP (zX.cok) (kP (zT.cok) (kP (bY.cok k) (jV)))) ((bR.vc k a0_0 a0_1 a2 _).mpr ?_) (by simp [kG, kK, kL, kH, kS, kM, jR]) (fun ρ V' hV => by simpa [kG, kK, kL, kH, kS, kM, bU] using hV)
 unfold bR.f at h
 (try simp only [bne, Option.bind_eq_some_iff, bS] at h)
 (try simp only [bne, zM, wrap_i64])
 first
  | grind (splits := 60) [kD]
  | ((repeat' (first | (have or_ : Or _ _ := h; clear or_; rcases h with h | h) | (have or_ : Exists _ := h; clear or_; obtain ⟨_, h⟩ := h) | (have or_ : And _ _ := h; clear or_; obtain ⟨hq_, h⟩ := h))) <;> (try simp only [Option.some.injEq, Prod.mk.injEq, reduceCtorEq] at h) <;> (try subst_vars) <;> first | (simp_all [kD] <;> (try omega) <;> done) | grind (splits := 60) [kD])
  | (intros; subst_vars; simp_all [kD]; done)
noncomputable def bR.con (k : Nat) : Con
 | [.agg [.int .i64 a0_0, .int .i64 a0_1], .fn (.func 123) [] [], .int .i64 a2] => some ((bR.f k a0_0 a0_1 a2).isSome, .tup [.agg [.int .i64 (gd (bR.f k a0_0 a0_1 a2)).1, .int .i64 (gd (bR.f k a0_0 a0_1 a2)).2.1], .int .i64 (gd (bR.f k a0_0 a0_1 a2)).2.2])
 | _ => none
set_option maxRecDepth 100000 in
theorem bR.cok (k : Nat) : COk Tryz.prog 122 (bR.con k) := by
 intro args p v hc hp w A hA
 unfold bR.con at hc
 split at hc
 · rename_i a0_0 a0_1 a2
   simp only [Option.some.injEq, Prod.mk.injEq] at hc
   obtain ⟨rfl, rfl⟩ := hc
   rcases hf : bR.f k a0_0 a0_1 a2 with _ | ⟨r1, r2, r3⟩
   · rw [hf] at hp; cases hp
   obtain rfl : A = [.agg #[.int .i64 a0_0, .int .i64 a0_1], .func (.func 123) #[] #[], .int .i64 a2] := by simpa [kG, kK, kL, kH, kS, kM, jR] using hA
   exact kT (fn := Tryz.f122) Tryz.func122 (by kernel_rfl) (by kernel_rfl) (bR.calls _ _ _ _ _ _ _ w hf) (fun _ => by simp [kD, kG, kK, kL, kH, kS, kM, bU]) (fun _ h => h)
 · cases hc
def zA.f (k : Nat) (a0_0 : Int) (a0_1 : Int) (a1 : Int) : Option (Int × Int × Int) := (bR.f k a0_0 a0_1 a1).bind fun bt186 => (some (bt186.1, bt186.2.1, bt186.2.2))
theorem zA.mono : ∀ a0 a1 a2 k, LeO (zA.f k a0 a1 a2) (zA.f (k + 1) a0 a1 a2) := by
 intro a0 a1 a2 k
 unfold zA.f
 repeat' first
  | (with_reducible exact bR.mono _ _ _ _)
  | (with_reducible exact LeO.refl _)
  | (with_reducible exact LeO.none _)
  | (with_reducible refine LeO.ite ?_ ?_)
  | (with_reducible refine LeO.bind ?_ (fun _ => ?_))
  | exact bR.mono _ _ _ _
  | exact LeO.none _
  | refine LeO.ite ?_ ?_
  | refine LeO.bind ?_ (fun _ => ?_)
set_option maxRecDepth 100000 in
theorem zA.vc (k : Nat) (a0_0 : Int) (a0_1 : Int) (a1 : Int) (K : AV → Prop) : afv PA Tryz.prog (tab [(122, bR.con k), (123, bY.con k)]) noLoops 2 84 [.agg [.int .i64 a0_0, .int .i64 a0_1], .int .i64 a1] K = (brc (Option.isSome (bR.f k a0_0 a0_1 a1)) (∀ (m0 : Int), m0 = Prod.fst (gd (bR.f k a0_0 a0_1 a1)) → ∀ (m1 : Int), m1 = Prod.fst (Prod.snd (gd (bR.f k a0_0 a0_1 a1))) → ∀ (m2 : Int), m2 = Prod.snd (Prod.snd (gd (bR.f k a0_0 a0_1 a1))) → K (AV.tup [AV.agg [AV.int IntKind.i64 m0, AV.int IntKind.i64 m1], AV.int IntKind.i64 m2])) False) := by kernel_rfl
set_option maxHeartbeats 1000000 in
set_option maxRecDepth 100000 in
theorem zA.calls (k : Nat) (a0_0 : Int) (a0_1 : Int) (a1 : Int) (r1 : Int) (r2 : Int) (r3 : Int) (w : World) (h : zA.f k a0_0 a0_1 a1 = some (r1, r2, r3)) :
 Calls Tryz.prog 84 #[.agg #[.int .i64 a0_0, .int .i64 a0_1], .int .i64 a1] w fun e w' => e = .returned (.tuple #[.agg #[.int .i64 r1, .int .i64 r2], .int .i64 r3]) ∧ Below w.heap.size w w' := by
 refine bZ (A := [.agg #[.int .i64 a0_0, .int .i64 a0_1], .int .i64 a1]) (v := .tup [.agg [.int .i64 r1, .int .i64 r2], .int .i64 r3]) (kP (bR.cok k) (kP (bY.cok k) (jV))) ((zA.vc k a0_0 a0_1 a1 _).mpr ?_) (by simp [kG, kK, kL, kH, kS, kM, jR]) (fun ρ V' hV => by simpa [kG, kK, kL, kH, kS, kM, bU] using hV)
 unfold zA.f at h
 (try simp only [bne, Option.bind_eq_some_iff, bS] at h)
 (try simp only [bne, zM, wrap_i64])
 first
  | grind (splits := 60) [kD]
  | ((repeat' (first | (have or_ : Or _ _ := h; clear or_; rcases h with h | h) | (have or_ : Exists _ := h; clear or_; obtain ⟨_, h⟩ := h) | (have or_ : And _ _ := h; clear or_; obtain ⟨hq_, h⟩ := h))) <;> (try simp only [Option.some.injEq, Prod.mk.injEq, reduceCtorEq] at h) <;> (try subst_vars) <;> first | (simp_all [kD] <;> (try omega) <;> done) | grind (splits := 60) [kD])
  | (intros; subst_vars; simp_all [kD]; done)
noncomputable def zA.con (k : Nat) : Con
 | [.agg [.int .i64 a0_0, .int .i64 a0_1], .int .i64 a1] => some ((zA.f k a0_0 a0_1 a1).isSome, .tup [.agg [.int .i64 (gd (zA.f k a0_0 a0_1 a1)).1, .int .i64 (gd (zA.f k a0_0 a0_1 a1)).2.1], .int .i64 (gd (zA.f k a0_0 a0_1 a1)).2.2])
 | _ => none
set_option maxRecDepth 100000 in
theorem zA.cok (k : Nat) : COk Tryz.prog 84 (zA.con k) := by
 intro args p v hc hp w A hA
 unfold zA.con at hc
 split at hc
 · rename_i a0_0 a0_1 a1
   simp only [Option.some.injEq, Prod.mk.injEq] at hc
   obtain ⟨rfl, rfl⟩ := hc
   rcases hf : zA.f k a0_0 a0_1 a1 with _ | ⟨r1, r2, r3⟩
   · rw [hf] at hp; cases hp
   obtain rfl : A = [.agg #[.int .i64 a0_0, .int .i64 a0_1], .int .i64 a1] := by simpa [kG, kK, kL, kH, kS, kM, jR] using hA
   exact kT (fn := Tryz.f84) Tryz.func84 (by kernel_rfl) (by kernel_rfl) (zA.calls _ _ _ _ _ _ _ w hf) (fun _ => by simp [kD, kG, kK, kL, kH, kS, kM, bU]) (fun _ h => h)
 · cases hc
theorem zA.up {k : Nat} {a0_0 : Int} {a0_1 : Int} {a1 : Int} {r : Int × Int × Int} (h : zA.f k a0_0 a0_1 a1 = some r) : zA.f (k + 1) a0_0 a0_1 a1 = some r := zA.mono a0_0 a0_1 a1 k _ h
theorem zA.le {a0_0 : Int} {a0_1 : Int} {a1 : Int} {r : Int × Int × Int} {k n : Nat} (h : zA.f k a0_0 a0_1 a1 = some r) (hk : k ≤ n) : zA.f n a0_0 a0_1 a1 = some r := by
 induction hk with
 | refl => exact h
 | step _ ih => exact zA.up ih
def qR.f (a0 : Int) (a1 : Int) : Option (Int × Int) := if ((decide ((wrap64 (a0 + a1)) > a0)) != (decide (a1 > 0))) = true then (some (0, 10)) else (some (wrap64 (a0 + a1), 0))
set_option maxHeartbeats 8000000 in
set_option maxRecDepth 100000 in
theorem qR.calls (a0 : Int) (a1 : Int) (r1 : Int) (r2 : Int) (w : World) (h : qR.f a0 a1 = some (r1, r2)) :
 Calls Tryz.prog 67 #[.int .i64 a0, .int .i64 a1] w fun e w' => e = .returned (.tuple #[.int .i64 r1, .int .i64 r2]) ∧ Drawn0 w w' := by
 have H : (if ((decide ((wrap64 (a0 + a1)) > a0)) != (decide (a1 > 0))) = true then (some (0, 10)) else (some (wrap64 (a0 + a1), 0))) = some (r1, r2) := h
 clear h
 by_cases c3 : ((decide ((wrap64 (a0 + a1)) > a0)) != (decide (a1 > 0))) = true
 · rw [if_pos c3] at H
   have c3b0 : ((decide ((wrap64 (a0 + a1)) > a0)) != (decide (a1 > 0))) = true := c3
   (try (have c3b1 : decide ((decide ((wrap64 (a0 + a1)) > a0)) = (decide (a1 > 0))) = false := by simpa using c3))
   (try (have c3b2 : ((decide ((wrap64 (a0 + a1)) > a0)) == (decide (a1 > 0))) = false := by simpa using c3))
   (try (have c3b3 : ¬ ((decide ((wrap64 (a0 + a1)) > a0)) = (decide (a1 > 0))) := by simpa using c3))
   clear c3
   simp only [Option.some.injEq, Prod.mk.injEq] at H
   obtain ⟨rfl, rfl⟩ := H
   go_enter Tryz.func67, Tryz.ntmps67
   go_wp2
   go_ret2
   exact ⟨by first | rfl | (simp; done) | (simp [*]; done), by repeat (first | exact Drawn0.refl _ | apply Drawn0.step)⟩
 · rw [if_neg c3] at H
   have c3b0 : ((decide ((wrap64 (a0 + a1)) > a0)) != (decide (a1 > 0))) = false := by simpa using c3
   (try (have c3b1 : decide ((decide ((wrap64 (a0 + a1)) > a0)) = (decide (a1 > 0))) = true := by simpa using c3))
   (try (have c3b2 : ((decide ((wrap64 (a0 + a1)) > a0)) == (decide (a1 > 0))) = true := by simpa using c3))
   clear c3
   simp only [Option.some.injEq, Prod.mk.injEq] at H
   obtain ⟨rfl, rfl⟩ := H
   go_enter Tryz.func67, Tryz.ntmps67
   go_wp2
   go_ret2
   exact ⟨by first | rfl | (simp; done) | (simp [*]; done), by repeat (first | exact Drawn0.refl _ | apply Drawn0.step)⟩
noncomputable def qR.con : Con
 | [.int .i64 a0, .int .i64 a1] => some ((qR.f a0 a1).isSome, .tup [.int .i64 (gd (qR.f a0 a1)).1, .int .i64 (gd (qR.f a0 a1)).2])
 | _ => none
set_option maxRecDepth 100000 in
theorem qR.cok : COk Tryz.prog 67 (qR.con) := by
 intro args p v hc hp w A hA
 unfold qR.con at hc
 split at hc
 · rename_i a0 a1
   simp only [Option.some.injEq, Prod.mk.injEq] at hc
   obtain ⟨rfl, rfl⟩ := hc
   rcases hf : qR.f a0 a1 with _ | ⟨r1, r2⟩
   · rw [hf] at hp; cases hp
   obtain rfl : A = [.int .i64 a0, .int .i64 a1] := by simpa [kG, kK, kL, kH, kS, kM, jR] using hA
   exact kT (fn := Tryz.f67) Tryz.func67 (by kernel_rfl) (by kernel_rfl) (qR.calls _ _ _ _ w hf) (fun _ => by simp [kD, kG, kK, kL, kH, kS, kM, bU]) (fun _ h => h.below)
 · cases hc
def jS.f (a0_0 : Int) (a0_1 : Int)  (a2 : Int) : Option (Int × Int × Int) := (zX.f a0_0 a0_1).bind fun t191 => (if t191 = true then (if a0_0 = 0 then ((qR.f a0_1 a2).bind fun bt192 => ((zT.f bt192.1 bt192.2).bind fun bt194 => (some (bt194.1, bt194.2.1, bt194.2.2)))) else (some (a0_0, a0_1, 0))) else (some (0, 0, 1)))
set_option maxRecDepth 100000 in
theorem jS.vc (a0_0 : Int) (a0_1 : Int) (a2 : Int) (K : AV → Prop) : afv PA Tryz.prog (tab [(124, zX.con), (156, zT.con), (67, qR.con)]) noLoops 2 122 [.agg [.int .i64 a0_0, .int .i64 a0_1], .fn (.func 67) [] [], .int .i64 a2] K = (brc (Option.isSome (zX.f a0_0 a0_1)) (∀ (m0 : Bool), m0 = gd (zX.f a0_0 a0_1) → brc (!m0) (K (AV.tup [AV.agg [AV.int IntKind.i64 0, AV.int IntKind.i64 0], AV.int IntKind.i64 1])) (brc (a0_0 != 0) (K (AV.tup [AV.agg [AV.int IntKind.i64 a0_0, AV.int IntKind.i64 a0_1], AV.int IntKind.i64 0])) (brc (Option.isSome (qR.f a0_1 a2)) (∀ (m1 : Int), m1 = Prod.fst (gd (qR.f a0_1 a2)) → ∀ (m2 : Int), m2 = Prod.snd (gd (qR.f a0_1 a2)) → brc (Option.isSome (zT.f m1 m2)) (∀ (m3 : Int), m3 = Prod.fst (gd (zT.f m1 m2)) → ∀ (m4 : Int), m4 = Prod.fst (Prod.snd (gd (zT.f m1 m2))) → ∀ (m5 : Int), m5 = Prod.snd (Prod.snd (gd (zT.f m1 m2))) → K (AV.tup [AV.agg [AV.int IntKind.i64 m3, AV.int IntKind.i64 m4], AV.int IntKind.i64 m5])) False) False))) False) := by kernel_rfl
set_option maxHeartbeats 1000000 in
set_option maxRecDepth 100000 in
theorem jS.calls (a0_0 : Int) (a0_1 : Int)  (a2 : Int) (r1 : Int) (r2 : Int) (r3 : Int) (w : World) (h : jS.f a0_0 a0_1 a2 = some (r1, r2, r3)) :
 Calls Tryz.prog 122 #[.agg #[.int .i64 a0_0, .int .i64 a0_1], .func (.func 67) #[] #[], .int .i64 a2] w fun e w' => e = .returned (.tuple #[.agg #[.int .i64 r1, .int .i64 r2], .int .i64 r3]) ∧ Below w.heap.size w w' := by
 refine bZ (A := [.agg #[.int .i64 a0_0, .int .i64 a0_1], .func (.func 67) #[] #[], .int .i64 a2]) (v := .tup [.agg [.int .i64 r1, .int .i64 r2], .int .i64 r3]) (kP (zX.cok) (kP (zT.cok) (kP (qR.cok) (jV)))) ((jS.vc a0_0 a0_1 a2 _).mpr ?_) (by simp [kG, kK, kL, kH, kS, kM, jR]) (fun ρ V' hV => by simpa [kG, kK, kL, kH, kS, kM, bU] using hV)
 unfold jS.f at h
 (try simp only [bne, Option.bind_eq_some_iff, bS] at h)
 (try simp only [bne, zM, wrap_i64])
 first
  | grind (splits := 60) [kD]
  | ((repeat' (first | (have or_ : Or _ _ := h; clear or_; rcases h with h | h) | (have or_ : Exists _ := h; clear or_; obtain ⟨_, h⟩ := h) | (have or_ : And _ _ := h; clear or_; obtain ⟨hq_, h⟩ := h))) <;> (try simp only [Option.some.injEq, Prod.mk.injEq, reduceCtorEq] at h) <;> (try subst_vars) <;> first | (simp_all [kD] <;> (try omega) <;> done) | grind (splits := 60) [kD])
  | (intros; subst_vars; simp_all [kD]; done)
noncomputable def jS.con : Con
 | [.agg [.int .i64 a0_0, .int .i64 a0_1], .fn (.func 67) [] [], .int .i64 a2] => some ((jS.f a0_0 a0_1 a2).isSome, .tup [.agg [.int .i64 (gd (jS.f a0_0 a0_1 a2)).1, .int .i64 (gd (jS.f a0_0 a0_1 a2)).2.1], .int .i64 (gd (jS.f a0_0 a0_1 a2)).2.2])
 | _ => none
set_option maxRecDepth 100000 in
theorem jS.cok : COk Tryz.prog 122 (jS.con) := by
 intro args p v hc hp w A hA
 unfold jS.con at hc
 split at hc
 · rename_i a0_0 a0_1 a2
   simp only [Option.some.injEq, Prod.mk.injEq] at hc
   obtain ⟨rfl, rfl⟩ := hc
   rcases hf : jS.f a0_0 a0_1 a2 with _ | ⟨r1, r2, r3⟩
   · rw [hf] at hp; cases hp
   obtain rfl : A = [.agg #[.int .i64 a0_0, .int .i64 a0_1], .func (.func 67) #[] #[], .int .i64 a2] := by simpa [kG, kK, kL, kH, kS, kM, jR] using hA
   exact kT (fn := Tryz.f122) Tryz.func122 (by kernel_rfl) (by kernel_rfl) (jS.calls _ _ _ _ _ _ w hf) (fun _ => by simp [kD, kG, kK, kL, kH, kS, kM, bU]) (fun _ h => h)
 · cases hc
def qU.f (a0_0 : Int) (a0_1 : Int) (a1 : Int) : Option (Int × Int × Int) := (jS.f a0_0 a0_1 a1).bind fun bt199 => (some (bt199.1, bt199.2.1, bt199.2.2))
set_option maxRecDepth 100000 in
theorem qU.vc (a0_0 : Int) (a0_1 : Int) (a1 : Int) (K : AV → Prop) : afv PA Tryz.prog (tab [(67, qR.con), (122, jS.con)]) noLoops 2 85 [.agg [.int .i64 a0_0, .int .i64 a0_1], .int .i64 a1] K = (brc (Option.isSome (jS.f a0_0 a0_1 a1)) (∀ (m0 : Int), m0 = Prod.fst (gd (jS.f a0_0 a0_1 a1)) → ∀ (m1 : Int), m1 = Prod.fst (Prod.snd (gd (jS.f a0_0 a0_1 a1))) → ∀ (m2 : Int), m2 = Prod.snd (Prod.snd (gd (jS.f a0_0 a0_1 a1))) → K (AV.tup [AV.agg [AV.int IntKind.i64 m0, AV.int IntKind.i64 m1], AV.int IntKind.i64 m2])) False) := by kernel_rfl
set_option maxHeartbeats 1000000 in
set_option maxRecDepth 100000 in
theorem qU.calls (a0_0 : Int) (a0_1 : Int) (a1 : Int) (r1 : Int) (r2 : Int) (r3 : Int) (w : World) (h : qU.f a0_0 a0_1 a1 = some (r1, r2, r3)) :
 Calls Tryz.prog 85 #[.agg #[.int .i64 a0_0, .int .i64 a0_1], .int .i64 a1] w fun e w' => e = .returned (.tuple #[.agg #[.int .i64 r1, .int .i64 r2], .int .i64 r3]) ∧ Below w.heap.size w w' := by
 refine bZ (A := [.agg #[.int .i64 a0_0, .int .i64 a0_1], .int .i64 a1]) (v := .tup [.agg [.int .i64 r1, .int .i64 r2], .int .i64 r3]) (kP (qR.cok) (kP (jS.cok) (jV))) ((qU.vc a0_0 a0_1 a1 _).mpr ?_) (by simp [kG, kK, kL, kH, kS, kM, jR]) (fun ρ V' hV => by simpa [kG, kK, kL, kH, kS, kM, bU] using hV)
 unfold qU.f at h
 (try simp only [bne, Option.bind_eq_some_iff, bS] at h)
 (try simp only [bne, zM, wrap_i64])
 first
  | grind (splits := 60) [kD]
  | ((repeat' (first | (have or_ : Or _ _ := h; clear or_; rcases h with h | h) | (have or_ : Exists _ := h; clear or_; obtain ⟨_, h⟩ := h) | (have or_ : And _ _ := h; clear or_; obtain ⟨hq_, h⟩ := h))) <;> (try simp only [Option.some.injEq, Prod.mk.injEq, reduceCtorEq] at h) <;> (try subst_vars) <;> first | (simp_all [kD] <;> (try omega) <;> done) | grind (splits := 60) [kD])
  | (intros; subst_vars; simp_all [kD]; done)
noncomputable def qU.con : Con
 | [.agg [.int .i64 a0_0, .int .i64 a0_1], .int .i64 a1] => some ((qU.f a0_0 a0_1 a1).isSome, .tup [.agg [.int .i64 (gd (qU.f a0_0 a0_1 a1)).1, .int .i64 (gd (qU.f a0_0 a0_1 a1)).2.1], .int .i64 (gd (qU.f a0_0 a0_1 a1)).2.2])
 | _ => none
set_option maxRecDepth 100000 in
theorem qU.cok : COk Tryz.prog 85 (qU.con) := by
 intro args p v hc hp w A hA
 unfold qU.con at hc
 split at hc
 · rename_i a0_0 a0_1 a1
   simp only [Option.some.injEq, Prod.mk.injEq] at hc
   obtain ⟨rfl, rfl⟩ := hc
   rcases hf : qU.f a0_0 a0_1 a1 with _ | ⟨r1, r2, r3⟩
   · rw [hf] at hp; cases hp
   obtain rfl : A = [.agg #[.int .i64 a0_0, .int .i64 a0_1], .int .i64 a1] := by simpa [kG, kK, kL, kH, kS, kM, jR] using hA
   exact kT (fn := Tryz.f85) Tryz.func85 (by kernel_rfl) (by kernel_rfl) (qU.calls _ _ _ _ _ _ w hf) (fun _ => by simp [kD, kG, kK, kL, kH, kS, kM, bU]) (fun _ h => h)
 · cases hc
def qI.f (k : Nat) (a0 : Int) (a1 : Int) : Option (Int × Int) := (zQ.f a0 a1).bind fun bt202 => ((bX.f k ((decide (a0 < 0)) != (decide (a1 < 0))) bt202.1 bt202.2).bind fun bt204 => (some (bt204.1, bt204.2)))
theorem qI.mono : ∀ a0 a1 k, LeO (qI.f k a0 a1) (qI.f (k + 1) a0 a1) := by
 intro a0 a1 k
 unfold qI.f
 repeat' first
  | (with_reducible exact bX.mono _ _ _ _)
  | (with_reducible exact LeO.refl _)
  | (with_reducible exact LeO.none _)
  | (with_reducible refine LeO.ite ?_ ?_)
  | (with_reducible refine LeO.bind ?_ (fun _ => ?_))
  | exact bX.mono _ _ _ _
  | exact LeO.none _
  | refine LeO.ite ?_ ?_
  | refine LeO.bind ?_ (fun _ => ?_)
set_option maxRecDepth 100000 in
theorem qI.vc (k : Nat) (a0 : Int) (a1 : Int) (K : AV → Prop) : afv PA Tryz.prog (tab [(116, bX.con k), (117, zQ.con)]) noLoops 2 78 [.int .i64 a0, .int .i64 a1] K = (brc (Option.isSome (zQ.f a0 a1)) (∀ (m0 : Int), m0 = Prod.fst (gd (zQ.f a0 a1)) → ∀ (m1 : Int), m1 = Prod.snd (gd (zQ.f a0 a1)) → brc (Option.isSome (bX.f k (!decide (a0 < 0) == decide (a1 < 0)) m0 m1)) (∀ (m2 : Int), m2 = Prod.fst (gd (bX.f k (!decide (a0 < 0) == decide (a1 < 0)) m0 m1)) → ∀ (m3 : Int), m3 = Prod.snd (gd (bX.f k (!decide (a0 < 0) == decide (a1 < 0)) m0 m1)) → K (AV.tup [AV.int IntKind.i64 m2, AV.int IntKind.i64 m3])) False) False) := by kernel_rfl
set_option maxHeartbeats 1000000 in
set_option maxRecDepth 100000 in
theorem qI.calls (k : Nat) (a0 : Int) (a1 : Int) (r1 : Int) (r2 : Int) (w : World) (h : qI.f k a0 a1 = some (r1, r2)) :
 Calls Tryz.prog 78 #[.int .i64 a0, .int .i64 a1] w fun e w' => e = .returned (.tuple #[.int .i64 r1, .int .i64 r2]) ∧ Below w.heap.size w w' := by
 refine bZ (A := [.int .i64 a0, .int .i64 a1]) (v := .tup [.int .i64 r1, .int .i64 r2]) (kP (bX.cok k) (kP (zQ.cok) (jV))) ((qI.vc k a0 a1 _).mpr ?_) (by simp [kG, kK, kL, kH, kS, kM, jR]) (fun ρ V' hV => by simpa [kG, kK, kL, kH, kS, kM, bU] using hV)
 unfold qI.f at h
 (try simp only [bne, Option.bind_eq_some_iff, bS] at h)
 (try simp only [bne, zM, wrap_i64])
 first
  | grind (splits := 60) [kD]
  | ((repeat' (first | (have or_ : Or _ _ := h; clear or_; rcases h with h | h) | (have or_ : Exists _ := h; clear or_; obtain ⟨_, h⟩ := h) | (have or_ : And _ _ := h; clear or_; obtain ⟨hq_, h⟩ := h))) <;> (try simp only [Option.some.injEq, Prod.mk.injEq, reduceCtorEq] at h) <;> (try subst_vars) <;> first | (simp_all [kD] <;> (try omega) <;> rcases hb0 : decide (a0 < 0) with _ | _ <;> rcases hb1 : decide (a1 < 0) with _ | _ <;> simp_all [kD] <;> done) | grind (splits := 60) [kD])
  | (intros; subst_vars; simp_all [kD]; done)
noncomputable def qI.con (k : Nat) : Con
 | [.int .i64 a0, .int .i64 a1] => some ((qI.f k a0 a1).isSome, .tup [.int .i64 (gd (qI.f k a0 a1)).1, .int .i64 (gd (qI.f k a0 a1)).2])
 | _ => none
set_option maxRecDepth 100000 in
theorem qI.cok (k : Nat) : COk Tryz.prog 78 (qI.con k) := by
 intro args p v hc hp w A hA
 unfold qI.con at hc
 split at hc
 · rename_i a0 a1
   simp only [Option.some.injEq, Prod.mk.injEq] at hc
   obtain ⟨rfl, rfl⟩ := hc
   rcases hf : qI.f k a0 a1 with _ | ⟨r1, r2⟩
   · rw [hf] at hp; cases hp
   obtain rfl : A = [.int .i64 a0, .int .i64 a1] := by simpa [kG, kK, kL, kH, kS, kM, jR] using hA
   exact kT (fn := Tryz.f78) Tryz.func78 (by kernel_rfl) (by kernel_rfl) (qI.calls _ _ _ _ _ w hf) (fun _ => by simp [kD, kG, kK, kL, kH, kS, kM, bU]) (fun _ h => h)
 · cases hc
theorem qI.up {k : Nat} {a0 : Int} {a1 : Int} {r : Int × Int} (h : qI.f k a0 a1 = some r) : qI.f (k + 1) a0 a1 = some r := qI.mono a0 a1 k _ h
theorem qI.le {a0 : Int} {a1 : Int} {r : Int × Int} {k n : Nat} (h : qI.f k a0 a1 = some r) (hk : k ≤ n) : qI.f n a0 a1 = some r := by
 induction hk with
 | refl => exact h
 | step _ ih => exact qI.up ih
def bO.j0 : Nat → Int → Bool → Int → Int → Option (Int × Int × Int)
 | 0, _, _, _, _ => none
 | k + 1, x1, x19, x207000, x207001 => if x19 = true then (some (0, 0, 1)) else (if x207000 = 0 then ((qI.f k x207001 86400000000).bind fun bt209 => (if bt209.2 = 0 then ((qR.f bt209.1 x1).bind fun bt211 => (if bt211.2 = 0 then ((kU.f k 0 bt211.1).bind fun t214 => (if t214 = true then (some (0, bt211.1, 0)) else (some (0, 0, 10)))) else (some (0, 0, 10)))) else (some (0, 0, 10)))) else (some (x207000, 0, 0)))
def bO.f (k : Nat) (a0_0 : Int) (a0_1 : Int) (a1 : Int) : Option (Int × Int × Int) := (zX.f a0_0 a0_1).bind fun t208 => (if t208 = true then (if a1 < 0 then (bO.j0 k a1 true a0_0 a0_1) else (bO.j0 k a1 (decide (a1 > 86400000000)) a0_0 a0_1)) else (bO.j0 k a1 true a0_0 a0_1))
theorem bO.mono_l : ∀ k, (∀ y0 y1 y2 y3, LeO (bO.j0 k y0 y1 y2 y3) (bO.j0 (k + 1) y0 y1 y2 y3))
 | 0 => fun _ _ _ _ r h => by simp [bO.j0] at h
 | k + 1 => by
  have ih0 := bO.mono_l k
  · intro y0 y1 y2 y3
    unfold bO.j0
    repeat' first
    | (with_reducible exact ih0 _ _ _ _)
    | (with_reducible exact kU.mono _ _ _)
    | (with_reducible exact qI.mono _ _ _)
    | (with_reducible exact LeO.refl _)
    | (with_reducible exact LeO.none _)
    | (with_reducible refine LeO.ite ?_ ?_)
    | (with_reducible refine LeO.bind ?_ (fun _ => ?_))
    | exact ih0 _ _ _ _
    | exact kU.mono _ _ _
    | exact qI.mono _ _ _
    | exact LeO.none _
    | refine LeO.ite ?_ ?_
    | refine LeO.bind ?_ (fun _ => ?_)
theorem bO.mono : ∀ a0 a1 a2 k, LeO (bO.f k a0 a1 a2) (bO.f (k + 1) a0 a1 a2) := by
 intro a0 a1 a2 k
 have ih0 := bO.mono_l k
 unfold bO.f
 repeat' first
  | (with_reducible exact ih0 _ _ _ _)
  | (with_reducible exact kU.mono _ _ _)
  | (with_reducible exact qI.mono _ _ _)
  | (with_reducible exact LeO.refl _)
  | (with_reducible exact LeO.none _)
  | (with_reducible refine LeO.ite ?_ ?_)
  | (with_reducible refine LeO.bind ?_ (fun _ => ?_))
  | exact ih0 _ _ _ _
  | exact kU.mono _ _ _
  | exact qI.mono _ _ _
  | exact LeO.none _
  | refine LeO.ite ?_ ?_
  | refine LeO.bind ?_ (fun _ => ?_)
set_option maxRecDepth 100000 in
theorem bO.vc (k : Nat) (a0_0 : Int) (a0_1 : Int) (a1 : Int) (K : AV → Prop) : afv PA Tryz.prog (tab [(51, kU.con k), (67, qR.con), (78, qI.con k), (124, zX.con)]) noLoops 2 86 [.agg [.int .i64 a0_0, .int .i64 a0_1], .int .i64 a1] K = (brc (Option.isSome (zX.f a0_0 a0_1)) (∀ (m0 : Bool), m0 = gd (zX.f a0_0 a0_1) → brc (!m0) (K (AV.tup [AV.agg [AV.int IntKind.i64 0, AV.int IntKind.i64 0], AV.int IntKind.i64 1])) (brc (decide (a1 < 0)) (K (AV.tup [AV.agg [AV.int IntKind.i64 0, AV.int IntKind.i64 0], AV.int IntKind.i64 1])) (brc (decide (a1 > 86400000000)) (K (AV.tup [AV.agg [AV.int IntKind.i64 0, AV.int IntKind.i64 0], AV.int IntKind.i64 1])) (brc (a0_0 != 0) (K (AV.tup [AV.agg [AV.int IntKind.i64 a0_0, AV.int IntKind.i64 0], AV.int IntKind.i64 0])) (brc (Option.isSome (qI.f k a0_1 86400000000)) (∀ (m1 : Int), m1 = Prod.fst (gd (qI.f k a0_1 86400000000)) → ∀ (m2 : Int), m2 = Prod.snd (gd (qI.f k a0_1 86400000000)) → brc (m2 == 0) (brc (Option.isSome (qR.f m1 a1)) (∀ (m3 : Int), m3 = Prod.fst (gd (qR.f m1 a1)) → ∀ (m4 : Int), m4 = Prod.snd (gd (qR.f m1 a1)) → brc (m4 != 0) (K (AV.tup [AV.agg [AV.int IntKind.i64 0, AV.int IntKind.i64 0], AV.int IntKind.i64 10])) (brc (Option.isSome (kU.f k 0 m3)) (∀ (m5 : Bool), m5 = gd (kU.f k 0 m3) → brc (!m5) (K (AV.tup [AV.agg [AV.int IntKind.i64 0, AV.int IntKind.i64 0], AV.int IntKind.i64 10])) (K (AV.tup [AV.agg [AV.int IntKind.i64 0, AV.int IntKind.i64 m3], AV.int IntKind.i64 0]))) False)) False) (brc (m2 != 0) (K (AV.tup [AV.agg [AV.int IntKind.i64 0, AV.int IntKind.i64 0], AV.int IntKind.i64 10])) (brc (Option.isSome (kU.f k 0 m1)) (∀ (m3 : Bool), m3 = gd (kU.f k 0 m1) → brc (!m3) (K (AV.tup [AV.agg [AV.int IntKind.i64 0, AV.int IntKind.i64 0], AV.int IntKind.i64 10])) (K (AV.tup [AV.agg [AV.int IntKind.i64 0, AV.int IntKind.i64 m1], AV.int IntKind.i64 0]))) False))) False))))) False) := by kernel_rfl
set_option maxHeartbeats 1000000 in
set_option maxRecDepth 100000 in
theorem bO.calls (k : Nat) (a0_0 : Int) (a0_1 : Int) (a1 : Int) (r1 : Int) (r2 : Int) (r3 : Int) (w : World) (h : bO.f k a0_0 a0_1 a1 = some (r1, r2, r3)) :
 Calls Tryz.prog 86 #[.agg #[.int .i64 a0_0, .int .i64 a0_1], .int .i64 a1] w fun e w' => e = .returned (.tuple #[.agg #[.int .i64 r1, .int .i64 r2], .int .i64 r3]) ∧ Below w.heap.size w w' := by
 refine bZ (A := [.agg #[.int .i64 a0_0, .int .i64 a0_1], .int .i64 a1]) (v := .tup [.agg [.int .i64 r1, .int .i64 r2], .int .i64 r3]) (kP (kU.cok k) (kP (qR.cok) (kP (qI.cok k) (kP (zX.cok) (jV))))) ((bO.vc k a0_0 a0_1 a1 _).mpr ?_) (by simp [kG, kK, kL, kH, kS, kM, jR]) (fun ρ V' hV => by simpa [kG, kK, kL, kH, kS, kM, bU] using hV)
 unfold bO.f at h
 cases k with
 | zero =>
  (try simp only [bO.j0] at h)
  (try simp only [bne, Option.bind_eq_some_iff, bS] at h)
  (try simp only [bne, zM, wrap_i64])
  first
   | grind (splits := 60) [kD]
   | ((repeat' (first | (have or_ : Or _ _ := h; clear or_; rcases h with h | h) | (have or_ : Exists _ := h; clear or_; obtain ⟨_, h⟩ := h) | (have or_ : And _ _ := h; clear or_; obtain ⟨hq_, h⟩ := h))) <;> (try simp only [Option.some.injEq, Prod.mk.injEq, reduceCtorEq] at h) <;> (try subst_vars) <;> first | (simp_all [kD] <;> (try omega) <;> rcases hb0 : decide (a1 < 0) with _ | _ <;> rcases hb1 : decide (a1 > 86400000000) with _ | _ <;> simp_all [kD] <;> done) | grind (splits := 60) [kD])
   | (intros; subst_vars; simp_all [kD]; done)
 | succ k =>
  (try simp only [bO.j0] at h)
  (try simp only [bne, Option.bind_eq_some_iff, bS] at h)
  (try simp only [bne, zM, wrap_i64])
  first
   | grind (splits := 60) [kD, kU.up, qI.up]
   | ((repeat' (first | (have or_ : Or _ _ := h; clear or_; rcases h with h | h) | (have or_ : Exists _ := h; clear or_; obtain ⟨_, h⟩ := h) | (have or_ : And _ _ := h; clear or_; obtain ⟨hq_, h⟩ := h; (try first | replace hq_ := kU.le (n := k + 1) hq_ (by omega) | replace hq_ := qI.le (n := k + 1) hq_ (by omega))))) <;> (try simp only [Option.some.injEq, Prod.mk.injEq, reduceCtorEq] at h) <;> (try subst_vars) <;> first | (simp_all [kD] <;> (try omega) <;> rcases hb0 : decide (a1 < 0) with _ | _ <;> rcases hb1 : decide (a1 > 86400000000) with _ | _ <;> simp_all [kD] <;> done) | grind (splits := 60) [kD, kU.up, qI.up])
   | (intros; subst_vars; simp_all [kD]; done)
noncomputable def bO.con (k : Nat) : Con
 | [.agg [.int .i64 a0_0, .int .i64 a0_1], .int .i64 a1] => some ((bO.f k a0_0 a0_1 a1).isSome, .tup [.agg [.int .i64 (gd (bO.f k a0_0 a0_1 a1)).1, .int .i64 (gd (bO.f k a0_0 a0_1 a1)).2.1], .int .i64 (gd (bO.f k a0_0 a0_1 a1)).2.2])
 | _ => none
set_option maxRecDepth 100000 in
theorem bO.cok (k : Nat) : COk Tryz.prog 86 (bO.con k) := by
 intro args p v hc hp w A hA
 unfold bO.con at hc
 split at hc
 · rename_i a0_0 a0_1 a1
   simp only [Option.some.injEq, Prod.mk.injEq] at hc
   obtain ⟨rfl, rfl⟩ := hc
   rcases hf : bO.f k a0_0 a0_1 a1 with _ | ⟨r1, r2, r3⟩
   · rw [hf] at hp; cases hp
   obtain rfl : A = [.agg #[.int .i64 a0_0, .int .i64 a0_1], .int .i64 a1] := by simpa [kG, kK, kL, kH, kS, kM, jR] using hA
   exact kT (fn := Tryz.f86) Tryz.func86 (by kernel_rfl) (by kernel_rfl) (bO.calls _ _ _ _ _ _ _ w hf) (fun _ => by simp [kD, kG, kK, kL, kH, kS, kM, bU]) (fun _ h => h)
 · cases hc
theorem bO.up {k : Nat} {a0_0 : Int} {a0_1 : Int} {a1 : Int} {r : Int × Int × Int} (h : bO.f k a0_0 a0_1 a1 = some r) : bO.f (k + 1) a0_0 a0_1 a1 = some r := bO.mono a0_0 a0_1 a1 k _ h
theorem bO.le {a0_0 : Int} {a0_1 : Int} {a1 : Int} {r : Int × Int × Int} {k n : Nat} (h : bO.f k a0_0 a0_1 a1 = some r) (hk : k ≤ n) : bO.f n a0_0 a0_1 a1 = some r := by
 induction hk with
 | refl => exact h
 | step _ ih => exact bO.up ih
mutual
def zO.j0 : Nat → Int → Int → Bool → Int → Int → Int → Int → Int → Int → Option (Int × Int × Int)
 | 0, _, _, _, _, _, _, _, _, _ => none
 | k + 1, x7, x8, x21, x218000, x218001, x218002, x218003, x224000, x224001 => if x21 = true then ((zA.f k x224000 x224001 x218001).bind fun bt224 => (zO.j1 k x7 bt224.2.2 x218000 x218001 x218002 x218003 bt224.1 bt224.2.1)) else (zO.j1 k x7 x8 x218000 x218001 x218002 x218003 x224000 x224001)
def zO.j1 : Nat → Int → Int → Int → Int → Int → Int → Int → Int → Option (Int × Int × Int)
 | 0, _, _, _, _, _, _, _, _ => none
 | k + 1, x7, x8, x218000, x218001, x218002, x218003, x224000, x224001 => if x8 = 0 then ((qU.f x224000 x224001 x218002).bind fun bt227 => (if bt227.2.2 = 0 then ((bO.f k bt227.1 bt227.2.1 x7).bind fun bt230 => (some (bt230.1, bt230.2.1, bt230.2.2))) else (some (0, 0, bt227.2.2)))) else (some (0, 0, x8))
end
def zO.f (k : Nat) (a0_0 : Int) (a0_1 : Int) (a1_0 : Int) (a1_1 : Int) (a1_2 : Int) (a1_3 : Int) : Option (Int × Int × Int) := (qF.f k a0_0 a0_1).bind fun bt219 => (if a1_1 = 0 then (zO.j0 k bt219.2.2.1 bt219.2.2.2 false a1_0 a1_1 a1_2 a1_3 bt219.1 bt219.2.1) else (zO.j0 k bt219.2.2.1 bt219.2.2.2 (bt219.2.2.2 == 0) a1_0 a1_1 a1_2 a1_3 bt219.1 bt219.2.1))
set_option maxRecDepth 100000 in
theorem zO.vc (k : Nat) (a0_0 : Int) (a0_1 : Int) (a1_0 : Int) (a1_1 : Int) (a1_2 : Int) (a1_3 : Int) (K : AV → Prop) : afv PA Tryz.prog (tab [(83, qF.con k), (84, zA.con k), (85, qU.con), (86, bO.con k)]) noLoops 2 44 [.agg [.int .i64 a0_0, .int .i64 a0_1], .agg [.int .i64 a1_0, .int .i64 a1_1, .int .i64 a1_2, .int .i64 a1_3]] K = (brc (Option.isSome (qF.f k a0_0 a0_1)) (∀ (m0 : Int), m0 = Prod.fst (gd (qF.f k a0_0 a0_1)) → ∀ (m1 : Int), m1 = Prod.fst (Prod.snd (gd (qF.f k a0_0 a0_1))) → ∀ (m2 : Int), m2 = Prod.fst (Prod.snd (Prod.snd (gd (qF.f k a0_0 a0_1)))) → ∀ (m3 : Int), m3 = Prod.snd (Prod.snd (Prod.snd (gd (qF.f k a0_0 a0_1)))) → brc (a1_1 != 0) (brc (m3 == 0) (brc (Option.isSome (zA.f k m0 m1 a1_1)) (∀ (m4 : Int), m4 = Prod.fst (gd (zA.f k m0 m1 a1_1)) → ∀ (m5 : Int), m5 = Prod.fst (Prod.snd (gd (zA.f k m0 m1 a1_1))) → ∀ (m6 : Int), m6 = Prod.snd (Prod.snd (gd (zA.f k m0 m1 a1_1))) → brc (m6 == 0) (brc (Option.isSome (qU.f m4 m5 a1_2)) (∀ (m7 : Int), m7 = Prod.fst (gd (qU.f m4 m5 a1_2)) → ∀ (m8 : Int), m8 = Prod.fst (Prod.snd (gd (qU.f m4 m5 a1_2))) → ∀ (m9 : Int), m9 = Prod.snd (Prod.snd (gd (qU.f m4 m5 a1_2))) → brc (m9 != 0) (K (AV.tup [AV.agg [AV.int IntKind.i64 0, AV.int IntKind.i64 0], AV.int IntKind.i64 m9])) (brc (Option.isSome (bO.f k m7 m8 m2)) (∀ (m10 : Int), m10 = Prod.fst (gd (bO.f k m7 m8 m2)) → ∀ (m11 : Int), m11 = Prod.fst (Prod.snd (gd (bO.f k m7 m8 m2))) → ∀ (m12 : Int), m12 = Prod.snd (Prod.snd (gd (bO.f k m7 m8 m2))) → K (AV.tup [AV.agg [AV.int IntKind.i64 m10, AV.int IntKind.i64 m11], AV.int IntKind.i64 m12])) False)) False) (brc (m6 != 0) (K (AV.tup [AV.agg [AV.int IntKind.i64 0, AV.int IntKind.i64 0], AV.int IntKind.i64 m6])) (brc (Option.isSome (bO.f k m4 m5 m2)) (∀ (m7 : Int), m7 = Prod.fst (gd (bO.f k m4 m5 m2)) → ∀ (m8 : Int), m8 = Prod.fst (Prod.snd (gd (bO.f k m4 m5 m2))) → ∀ (m9 : Int), m9 = Prod.snd (Prod.snd (gd (bO.f k m4 m5 m2))) → K (AV.tup [AV.agg [AV.int IntKind.i64 m7, AV.int IntKind.i64 m8], AV.int IntKind.i64 m9])) False))) False) (brc (m3 == 0) (brc (Option.isSome (qU.f m0 m1 a1_2)) (∀ (m4 : Int), m4 = Prod.fst (gd (qU.f m0 m1 a1_2)) → ∀ (m5 : Int), m5 = Prod.fst (Prod.snd (gd (qU.f m0 m1 a1_2))) → ∀ (m6 : Int), m6 = Prod.snd (Prod.snd (gd (qU.f m0 m1 a1_2))) → brc (m6 != 0) (K (AV.tup [AV.agg [AV.int IntKind.i64 0, AV.int IntKind.i64 0], AV.int IntKind.i64 m6])) (brc (Option.isSome (bO.f k m4 m5 m2)) (∀ (m7 : Int), m7 = Prod.fst (gd (bO.f k m4 m5 m2)) → ∀ (m8 : Int), m8 = Prod.fst (Prod.snd (gd (bO.f k m4 m5 m2))) → ∀ (m9 : Int), m9 = Prod.snd (Prod.snd (gd (bO.f k m4 m5 m2))) → K (AV.tup [AV.agg [AV.int IntKind.i64 m7, AV.int IntKind.i64 m8], AV.int IntKind.i64 m9])) False)) False) (brc (m3 != 0) (K (AV.tup [AV.agg [AV.int IntKind.i64 0, AV.int IntKind.i64 0], AV.int IntKind.i64 m3])) (brc (Option.isSome (bO.f k m0 m1 m2)) (∀ (m4 : Int), m4 = Prod.fst (gd (bO.f k m0 m1 m2)) → ∀ (m5 : Int), m5 = Prod.fst (Prod.snd (gd (bO.f k m0 m1 m2))) → ∀ (m6 : Int), m6 = Prod.snd (Prod.snd (gd (bO.f k m0 m1 m2))) → K (AV.tup [AV.agg [AV.int IntKind.i64 m4, AV.int IntKind.i64 m5], AV.int IntKind.i64 m6])) False)))) (brc (m3 == 0) (brc (Option.isSome (qU.f m0 m1 a1_2)) (∀ (m4 : Int), m4 = Prod.fst (gd (qU.f m0 m1 a1_2)) → ∀ (m5 : Int), m5 = Prod.fst (Prod.snd (gd (qU.f m0 m1 a1_2))) → ∀ (m6 : Int), m6 = Prod.snd (Prod.snd (gd (qU.f m0 m1 a1_2))) → brc (m6 != 0) (K (AV.tup [AV.agg [AV.int IntKind.i64 0, AV.int IntKind.i64 0], AV.int IntKind.i64 m6])) (brc (Option.isSome (bO.f k m4 m5 m2)) (∀ (m7 : Int), m7 = Prod.fst (gd (bO.f k m4 m5 m2)) → ∀ (m8 : Int), m8 = Prod.fst (Prod.snd (gd (bO.f k m4 m5 m2))) → ∀ (m9 : Int), m9 = Prod.snd (Prod.snd (gd (bO.f k m4 m5 m2))) → K (AV.tup [AV.agg [AV.int IntKind.i64 m7, AV.int IntKind.i64 m8], AV.int IntKind.i64 m9])) False)) False) (brc (m3 != 0) (K (AV.tup [AV.agg [AV.int IntKind.i64 0, AV.int IntKind.i64 0], AV.int IntKind.i64 m3])) (brc (Option.isSome (bO.f k m0 m1 m2)) (∀ (m4 : Int), m4 = Prod.fst (gd (bO.f k m0 m1 m2)) → ∀ (m5 : Int), m5 = Prod.fst (Prod.snd (gd (bO.f k m0 m1 m2))) → ∀ (m6 : Int), m6 = Prod.snd (Prod.snd (gd (bO.f k m0 m1 m2))) → K (AV.tup [AV.agg [AV.int IntKind.i64 m4, AV.int IntKind.i64 m5], AV.int IntKind.i64 m6])) False)))) False) := by kernel_rfl
set_option maxHeartbeats 1000000 in
set_option maxRecDepth 100000 in
theorem zO.calls (k : Nat) (a0_0 : Int) (a0_1 : Int) (a1_0 : Int) (a1_1 : Int) (a1_2 : Int) (a1_3 : Int) (r1 : Int) (r2 : Int) (r3 : Int) (w : World) (h : zO.f k a0_0 a0_1 a1_0 a1_1 a1_2 a1_3 = some (r1, r2, r3)) :
 Calls Tryz.prog 44 #[.agg #[.int .i64 a0_0, .int .i64 a0_1], .agg #[.int .i64 a1_0, .int .i64 a1_1, .int .i64 a1_2, .int .i64 a1_3]] w fun e w' => e = .returned (.tuple #[.agg #[.int .i64 r1, .int .i64 r2], .int .i64 r3]) ∧ Below w.heap.size w w' := by
 refine bZ (A := [.agg #[.int .i64 a0_0, .int .i64 a0_1], .agg #[.int .i64 a1_0, .int .i64 a1_1, .int .i64 a1_2, .int .i64 a1_3]]) (v := .tup [.agg [.int .i64 r1, .int .i64 r2], .int .i64 r3]) (kP (qF.cok k) (kP (zA.cok k) (kP (qU.cok) (kP (bO.cok k) (jV))))) ((zO.vc k a0_0 a0_1 a1_0 a1_1 a1_2 a1_3 _).mpr ?_) (by simp [kG, kK, kL, kH, kS, kM, jR]) (fun ρ V' hV => by simpa [kG, kK, kL, kH, kS, kM, bU] using hV)
 unfold zO.f at h
 cases k with
 | zero =>
  (try simp only [zO.j0, zO.j1] at h)
  (try simp only [bne, Option.bind_eq_some_iff, bS] at h)
  (try simp only [bne, zM, wrap_i64])
  first
   | grind (splits := 60) [kD]
   | ((repeat' (first | (have or_ : Or _ _ := h; clear or_; rcases h with h | h) | (have or_ : Exists _ := h; clear or_; obtain ⟨_, h⟩ := h) | (have or_ : And _ _ := h; clear or_; obtain ⟨hq_, h⟩ := h))) <;> (try simp only [Option.some.injEq, Prod.mk.injEq, reduceCtorEq] at h) <;> (try subst_vars) <;> first | (simp_all [kD] <;> (try omega) <;> done) | grind (splits := 60) [kD])
   | (intros; subst_vars; simp_all [kD]; done)
 | succ k =>
  cases k with
  | zero =>
   (try simp only [zO.j0, zO.j1] at h)
   (try simp only [bne, Option.bind_eq_some_iff, bS] at h)
   (try simp only [bne, zM, wrap_i64])
   first
    | grind (splits := 60) [kD, qF.up, zA.up, bO.up]
    | ((repeat' (first | (have or_ : Or _ _ := h; clear or_; rcases h with h | h) | (have or_ : Exists _ := h; clear or_; obtain ⟨_, h⟩ := h) | (have or_ : And _ _ := h; clear or_; obtain ⟨hq_, h⟩ := h; (try first | replace hq_ := qF.le (n := 0 + 1) hq_ (by omega) | replace hq_ := zA.le (n := 0 + 1) hq_ (by omega) | replace hq_ := bO.le (n := 0 + 1) hq_ (by omega))))) <;> (try simp only [Option.some.injEq, Prod.mk.injEq, reduceCtorEq] at h) <;> (try subst_vars) <;> first | (simp_all [kD] <;> (try omega) <;> done) | grind (splits := 60) [kD, qF.up, zA.up, bO.up])
    | (intros; subst_vars; simp_all [kD]; done)
  | succ k =>
   (try simp only [zO.j0, zO.j1] at h)
   (try simp only [bne, Option.bind_eq_some_iff, bS] at h)
   (try simp only [bne, zM, wrap_i64])
   first
    | grind (splits := 60) [kD, qF.up, zA.up, bO.up]
    | ((repeat' (first | (have or_ : Or _ _ := h; clear or_; rcases h with h | h) | (have or_ : Exists _ := h; clear or_; obtain ⟨_, h⟩ := h) | (have or_ : And _ _ := h; clear or_; obtain ⟨hq_, h⟩ := h; (try first | replace hq_ := qF.le (n := k + 1 + 1) hq_ (by omega) | replace hq_ := zA.le (n := k + 1 + 1) hq_ (by omega) | replace hq_ := bO.le (n := k + 1 + 1) hq_ (by omega))))) <;> (try simp only [Option.some.injEq, Prod.mk.injEq, reduceCtorEq] at h) <;> (try subst_vars) <;> first | (simp_all [kD] <;> (try omega) <;> done) | grind (splits := 60) [kD, qF.up, zA.up, bO.up])
    | (intros; subst_vars; simp_all [kD]; done)
end Go.Proofs.YtimgphlfaninnaaGreat.P
