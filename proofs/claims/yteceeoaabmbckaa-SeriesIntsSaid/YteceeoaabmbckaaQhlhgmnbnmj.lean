/- Fixed calls, reckoned out by the abstract machine. -/
import Derived.Test.YteceeoaabmbckaaQmnoibphaaf
import Derived.Test.YteceeoaabmbckaaQelbohmadpp
import Derived.Laws.Externs
namespace Go.Proofs.Yteceeoaabmbckaa.A
open Go Go.RowKit Go.Proofs
set_option linter.unusedVariables false
set_option maxRecDepth 100000
theorem add64_run (a0 a1 a2 : Int) (w : World) (h0 : 0 ≤ a0) (h1 : 0 ≤ a1) (h2 : 0 ≤ a2) (h3 : a2 ≤ 1) :
    (callFunc 12 #[.int .u64 a0, .int .u64 a1, .int .u64 a2]).run Try.prog w = .ok (.value (.tuple #[.int .u64 ((a0 + a1 + a2) % 18446744073709551616), .int .u64 ((a0 + a1 + a2) / 18446744073709551616)])) w := by
  rw [run_callFunc_extern Try.func12 (by kernel_rfl) (by kernel_rfl) (by kernel_rfl) (e := add64Entry) (by kernel_rfl), run_add64 a0 a1 a2 h0 h1 h2 h3]
  rfl
def addCon : Con
  | [.int .u64 a, .int .u64 b, .int .u64 c] => some (decide (0 ≤ a) && decide (0 ≤ b) && decide (0 ≤ c) && decide (c ≤ 1), .tup [.int .u64 ((a + b + c) % 18446744073709551616), .int .u64 ((a + b + c) / 18446744073709551616)])
  | _ => none
theorem addCon_ok : COk Try.prog 12 addCon := by
  intro args p v hc hp w A hA
  unfold addCon at hc
  split at hc
  · rename_i a b c
    simp only [Option.some.injEq, Prod.mk.injEq] at hc
    obtain ⟨rfl, rfl⟩ := hc
    simp only [Bool.and_eq_true, decide_eq_true_eq] at hp
    obtain ⟨⟨⟨h0, h1⟩, h2⟩, h3⟩ := hp
    obtain rfl : A = [.int .u64 a, .int .u64 b, .int .u64 c] := by simpa [rl_cons, rl_nil, rv_int] using hA
    exact gives_of_run (add64_run a b c w h0 h1 h2 h3) (fun _ => by simp [rl_cons, rl_nil, rv_int, rv_tup])
  · cases hc
noncomputable def TK0 : Tab := tab [(12, addCon)]
theorem TK0_ok : TabOk Try.prog TK0 := tab_cons addCon_ok tab_nil
def M0 : List (List AV × AV) := [([], .int .i64 (-2453698))]
theorem M0_0 : runC Try.prog 450 (runT Try.prog 450 TK0 8) 88 [] = some (true, .int .i64 (-2453698)) := by kernel_rfl
theorem M0_ok : COk Try.prog 88 (memo M0) := memo_ok mixed (runT_ok mixed 450 TK0_ok 8) (memo_cons M0_0 (memo_nil))
noncomputable def TK1 : Tab := tab [(12, addCon), (88, memo M0)]
theorem TK1_ok : TabOk Try.prog TK1 := tab_cons addCon_ok (tab_cons M0_ok (tab_nil))
def M1 : List (List AV × AV) := [([], .int .i64 106754173)]
theorem M1_0 : runC Try.prog 450 (runT Try.prog 450 TK1 8) 89 [] = some (true, .int .i64 106754173) := by kernel_rfl
theorem M1_ok : COk Try.prog 89 (memo M1) := memo_ok mixed (runT_ok mixed 450 TK1_ok 8) (memo_cons M1_0 (memo_nil))
noncomputable def TK2 : Tab := tab [(12, addCon), (88, memo M0), (89, memo M1)]
theorem TK2_ok : TabOk Try.prog TK2 := tab_cons addCon_ok (tab_cons M0_ok (tab_cons M1_ok (tab_nil)))
def M2 : List (List AV × AV) := [([(.int .i64 2024)], .int .i64 8766)]
theorem M2_0 : runC Try.prog 450 (runT Try.prog 450 TK2 8) 73 [(.int .i64 2024)] = some (true, .int .i64 8766) := by kernel_rfl
theorem M2_ok : COk Try.prog 73 (memo M2) := memo_ok mixed (runT_ok mixed 450 TK2_ok 8) (memo_cons M2_0 (memo_nil))
noncomputable def TK3 : Tab := tab [(12, addCon), (88, memo M0), (89, memo M1), (73, memo M2)]
theorem TK3_ok : TabOk Try.prog TK3 := tab_cons addCon_ok (tab_cons M0_ok (tab_cons M1_ok (tab_cons M2_ok (tab_nil))))
def M3 : List (List AV × AV) := [([(.int .i64 2024), (.int .i64 1), (.int .i64 31)], .agg [.int .i64 0, .int .i64 759974400000000]), ([(.int .i64 2024), (.int .i64 5), (.int .i64 1)], .agg [.int .i64 0, .int .i64 767836800000000]), ([(.int .i64 2024), (.int .i64 2), (.int .i64 29)], .agg [.int .i64 0, .int .i64 762480000000000]), ([(.int .i64 2024), (.int .i64 3), (.int .i64 29)], .agg [.int .i64 0, .int .i64 764985600000000]), ([(.int .i64 2024), (.int .i64 4), (.int .i64 29)], .agg [.int .i64 0, .int .i64 767664000000000])]
theorem M3_0 : runC Try.prog 450 (runT Try.prog 450 TK3 8) 18 [(.int .i64 2024), (.int .i64 1), (.int .i64 31)] = some (true, .agg [.int .i64 0, .int .i64 759974400000000]) := by kernel_rfl
theorem M3_1 : runC Try.prog 450 (runT Try.prog 450 TK3 8) 18 [(.int .i64 2024), (.int .i64 5), (.int .i64 1)] = some (true, .agg [.int .i64 0, .int .i64 767836800000000]) := by kernel_rfl
theorem M3_2 : runC Try.prog 450 (runT Try.prog 450 TK3 8) 18 [(.int .i64 2024), (.int .i64 2), (.int .i64 29)] = some (true, .agg [.int .i64 0, .int .i64 762480000000000]) := by kernel_rfl
theorem M3_3 : runC Try.prog 450 (runT Try.prog 450 TK3 8) 18 [(.int .i64 2024), (.int .i64 3), (.int .i64 29)] = some (true, .agg [.int .i64 0, .int .i64 764985600000000]) := by kernel_rfl
theorem M3_4 : runC Try.prog 450 (runT Try.prog 450 TK3 8) 18 [(.int .i64 2024), (.int .i64 4), (.int .i64 29)] = some (true, .agg [.int .i64 0, .int .i64 767664000000000]) := by kernel_rfl
theorem M3_ok : COk Try.prog 18 (memo M3) := memo_ok mixed (runT_ok mixed 450 TK3_ok 8) (memo_cons M3_0 (memo_cons M3_1 (memo_cons M3_2 (memo_cons M3_3 (memo_cons M3_4 (memo_nil))))))
noncomputable def TK4 : Tab := tab [(12, addCon), (88, memo M0), (89, memo M1), (73, memo M2), (18, memo M3)]
theorem TK4_ok : TabOk Try.prog TK4 := tab_cons addCon_ok (tab_cons M0_ok (tab_cons M1_ok (tab_cons M2_ok (tab_cons M3_ok (tab_nil)))))
def M4 : List (List AV × AV) := [([(.agg [.int .i64 0, .int .i64 759974400000000]), (.agg [.int .i64 0, .int .i64 767836800000000]), (.agg [.int .i64 0, .int .i64 1, .int .i64 0, .int .i64 0]), (.int .i64 9)], .tup [.nu 47 2 4 [.int .i64 0, .int .i64 759974400000000, .int .i64 0, .int .i64 762480000000000, .int .i64 0, .int .i64 764985600000000, .int .i64 0, .int .i64 767664000000000], .int .i64 0])]
theorem M4_0 : runC Try.prog 450 (runT Try.prog 450 TK4 8) 17 [(.agg [.int .i64 0, .int .i64 759974400000000]), (.agg [.int .i64 0, .int .i64 767836800000000]), (.agg [.int .i64 0, .int .i64 1, .int .i64 0, .int .i64 0]), (.int .i64 9)] = some (true, .tup [.nu 47 2 4 [.int .i64 0, .int .i64 759974400000000, .int .i64 0, .int .i64 762480000000000, .int .i64 0, .int .i64 764985600000000, .int .i64 0, .int .i64 767664000000000], .int .i64 0]) := by kernel_rfl
theorem M4_ok : COk Try.prog 17 (memo M4) := memo_ok mixed (runT_ok mixed 450 TK4_ok 8) (memo_cons M4_0 (memo_nil))
noncomputable def TK5 : Tab := tab [(12, addCon), (88, memo M0), (89, memo M1), (73, memo M2), (18, memo M3), (17, memo M4)]
theorem TK5_ok : TabOk Try.prog TK5 := tab_cons addCon_ok (tab_cons M0_ok (tab_cons M1_ok (tab_cons M2_ok (tab_cons M3_ok (tab_cons M4_ok (tab_nil))))))
theorem known_run : runC Try.prog 450 (runT Try.prog 450 TK5 8) 10 [] = some (true, .bool true) := by kernel_rfl
theorem known_calls (w : World) : Calls Try.prog 10 #[] w fun e w' => e = .returned (.bool true) ∧ Below w.heap.size w w' := calls_of_runC mixed (runT_ok mixed 450 TK5_ok 8) known_run rfl .nil (fun V hV => by simpa [rv_bool] using hV)
end Go.Proofs.Yteceeoaabmbckaa.A
