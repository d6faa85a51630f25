import Derived.Lib.SmallJoins
import Derived.Test.YtimgphlfaninnaaGreatRows
import Derived.Test.YtimgphlfaninnaaGreatQjpojcbflhg
import Derived.WalkKit
import Derived.ProofKit
import Derived.OpenShut
import Derived.ShutString
import Derived.ChangeOld
import Derived.Below
import Derived.SizedLaws
namespace Go.Proofs.YtimgphlfaninnaaGreat.stampAdds
open Go Go.ChangeShapes Go.WideShapes Go.ChangeAt Go.RowKit
open Go.ChangeMaps (open_string shut_string)
set_option linter.unusedVariables false
theorem own : ownKnob Tryz.prog.godebug = none := by kernel_rfl
theorem laidOut : laidOutB Tryz.prog = true := by kernel_rfl
set_option maxRecDepth 100000 in
theorem lifted (os : Os) (started : os.Started) (H : Type) (enc : TypeId × Value → H) :
 ReturnsInHanded {} Tryz.checked os 4 .any (Rows.stampAddsSpec.pre6 enc Tryz.prog Tryz.f4 Rows.stampAddsRow.domain false) (Rows.stampAddsSpec.post enc Tryz.prog Tryz.f4 false true false false) := by
 refine returnsInHanded_of_change_sized (C := Tryz.checked) own started (by kernel_rfl) Tryz.func4
  (ChangeSpec.witness6 (enc := enc) (C := Tryz.checked) false ⟨#[], #[.agg #[.string ⟨#[]⟩, .int .i64 0, .int .i64 0, .bool false, .string ⟨#[]⟩, .slice none 0 0, .bool false, .int .i64 0, .int .i64 0, .int .i64 0, .int .i64 0, .int .i64 0, .int .i64 0, .int .i64 0, .int .u8 0, .int .i64 0, .string ⟨#[]⟩, .int .i64 0, .int .i64 0, .int .i64 0, .int .i64 0, .int .i64 0, .int .u8 0, .int .i64 0, .string ⟨#[]⟩], .agg #[.int .i64 0, .int .i64 0], .agg #[.int .i64 0, .int .i64 0, .int .i64 0, .int .i64 0]], []⟩ 9 (by kernel_rfl) (by kernel_rfl) (by kernel_rfl) (by kernel_rfl)) ?_
 intro W base args ds gs before hval0 hW hcnd hsz0 _
 have hval : ∀ (j : Nat) t v, Tryz.f4.params[j]? = some t → args[j]? = some v → Value.okWide Tryz.prog W .any base t v := hval0
 have hW' := hW
 obtain ⟨p, q, hA0, hV, rfl, hfz, hnd⟩ := hW
 have hA : DataW.TrodAll enc Tryz.prog W 0 (fun _ => true) true Tryz.f4.params.toList args.toList ds p := hA0
 have hsz : (DataW.weightsEach Tryz.prog (Tryz.f4.params.toList ++ Rows.stampAddsSpec.plain.varTypes Tryz.prog) (ds ++ gs)).all (· ≤ reachBytes) = true := hsz0
 rw [Tryz.params4] at hA hval hsz
 obtain ⟨v0, vs0, d0, ds0, p0, q0, hargs, rfl, rfl, h0, r0⟩ := trodAll_cons hA
 obtain ⟨v1, vs1, d1, ds1, p1, q1, rfl, rfl, rfl, h1, r1⟩ := trodAll_cons r0
 obtain ⟨v2, vs2, d2, ds2, p2, q2, rfl, rfl, rfl, h2, r2⟩ := trodAll_cons r1
 obtain ⟨rfl, rfl, rfl⟩ := trodAll_nil r2
 obtain rfl : args = #[v0, v1, v2] := by cases args; simp_all
 obtain ⟨rfl, rfl⟩ := trodVars_none hV
 have k0 := h0
 have lt0 : ∀ x ∈ p0, x.block < W.heap.size := by obtain ⟨m, hm⟩ := k0; exact DataW.trod_lt m _ _ _ hm
 obtain ⟨z0, rvz0, bz0, nz0⟩ := P.open_table (hval 0 34 v0 rfl rfl) h0 fun n hn => of_decide_eq_true (List.all_eq_true.1 hsz n (DataW.weights_mem_each (j := 0) rfl rfl n hn))
 have k1 := h1
 have lt1 : ∀ x ∈ p1, x.block < W.heap.size := by obtain ⟨m, hm⟩ := k1; exact DataW.trod_lt m _ _ _ hm
 obtain ⟨v1_0, v1_1, y1_0, y1_1, n1_, rfl, rfl, rfl, h1_0, h1_1⟩ := Joins.open_agg2 Tryz.underlying36 (by kernel_rfl) (by kernel_rfl) (hval 1 36 v1 rfl rfl) h1
 obtain ⟨a1_0, e1_0, rfl, w1_0⟩ := DataW.trod_int Tryz.underlying3 h1_0
 obtain rfl := (List.cons.inj e1_0).1
 obtain ⟨a1_1, e1_1, rfl, w1_1⟩ := DataW.trod_int Tryz.underlying2 h1_1
 obtain rfl := (List.cons.inj e1_1).1
 have k2 := h2
 have lt2 : ∀ x ∈ p2, x.block < W.heap.size := by obtain ⟨m, hm⟩ := k2; exact DataW.trod_lt m _ _ _ hm
 obtain ⟨v2_0, v2_1, v2_2, v2_3, y2_0, y2_1, y2_2, y2_3, n2_, rfl, rfl, rfl, h2_0, h2_1, h2_2, h2_3⟩ := Joins.open_agg4 Tryz.underlying59 (by kernel_rfl) (by kernel_rfl) (hval 2 59 v2 rfl rfl) h2
 obtain ⟨a2_0, e2_0, rfl, w2_0⟩ := DataW.trod_int Tryz.underlying3 h2_0
 obtain rfl := (List.cons.inj e2_0).1
 obtain ⟨a2_1, e2_1, rfl, w2_1⟩ := DataW.trod_int Tryz.underlying2 h2_1
 obtain rfl := (List.cons.inj e2_1).1
 obtain ⟨a2_2, e2_2, rfl, w2_2⟩ := DataW.trod_int Tryz.underlying2 h2_2
 obtain rfl := (List.cons.inj e2_2).1
 obtain ⟨a2_3, e2_3, rfl, w2_3⟩ := DataW.trod_int Tryz.underlying2 h2_3
 obtain rfl := (List.cons.inj e2_3).1
 clear hA0 hval0 hsz0 hsz
 refine (P.adds_calls bz0 nz0 w1_1 w2_2 w2_3 (.cons rvz0 (.cons (.agg (.cons (.int _ _) (.cons (.int _ _) .nil))) (.cons (.agg (.cons (.int _ _) (.cons (.int _ _) (.cons (.int _ _) (.cons (.int _ _) .nil))))) .nil)))).mono fun e W' ⟨he, bel⟩ => ?_
 subst he
 exact ⟨_, rfl, _, _, _, [], _, [], hW', trodAll_mk1 (shut_bool Tryz.underlying4 _), (trodAll_cons_mk (Below.trod laidOut (by kernel_rfl) (of_decide_eq_true (by kernel_rfl)) k0 bel lt0) (trodAll_cons_mk (Below.trod laidOut (by kernel_rfl) (of_decide_eq_true (by kernel_rfl)) k1 bel lt1) (trodAll_cons_mk (Below.trod laidOut (by kernel_rfl) (of_decide_eq_true (by kernel_rfl)) k2 bel lt2) trodAll_mk0))), rfl, bel.frame _, fun h => by cases h⟩
theorem over : Rows.stampAddsRow.holds Tryz.pinned (OpenSpec.ofChange Rows.stampAddsSpec) :=
 OpenClaim.holds_of_wide 4 Tryz.f4 rfl rfl rfl rfl rfl rfl rfl ⟨rfl, rfl, rfl, rfl, rfl⟩ rfl rfl rfl rfl rfl (by kernel_rfl) Tryz.func4 (by kernel_rfl)
  (of_decide_eq_true (by kernel_rfl)) (by unfold Func.isWrapper; first | (rw [if_pos (by decide +kernel)]; kernel_rfl) | (rw [if_neg (by decide +kernel)]; exact ⟨rfl, rfl⟩))
  (fun os started H enc _ => lifted os started H enc)
theorem proved : Rows.StampAddsSaid := over
#print axioms proved
end Go.Proofs.YtimgphlfaninnaaGreat.stampAdds
namespace Go.Proofs.YtimgphlfaninnaaGreat
theorem stampAdds_holds : Rows.StampAddsSaid := stampAdds.proved
end Go.Proofs.YtimgphlfaninnaaGreat
