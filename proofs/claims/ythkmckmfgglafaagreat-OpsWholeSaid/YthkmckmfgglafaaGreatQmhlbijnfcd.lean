-- Written by a program of the session (a print of the seat's translation, functions given by hand among it). Lean checks it.
import Derived.Test.YthkmckmfgglafaaGreatQeiellgheod
import Derived.Test.YthkmckmfgglafaaGreatQmkjlcblnfm
import Derived.Test.YthkmckmfgglafaaGreatQfffdgmglkb
import Derived.Test.YthkmckmfgglafaaGreatQeblgjmhjig
namespace Go.Proofs.YthkmckmfgglafaaGreat.P
open Go.RowKit Go.Proofs.YthkmckmfgglafaaGreatW.PrintWords Go.Proofs.YthkmckmfgglafaaGreatW.PrintLast Go.Proofs.YthkmckmfgglafaaGreatW.PrintMore
attribute [local go_sem] max2_int min2_int max_two min_two max_three min_three max_four min_four   -- for this text's walks alone
set_option linter.unusedVariables false
set_option linter.unusedSimpArgs false
mutual
def ops_Bin.j0 : Nat → Bool → Int → Int → Int → Int → Int → Int → Int → Int → Option (Int × Int × Int)
  | 0, _, _, _, _, _, _, _, _, _ => none
  | k + 1, x28, x237000, x237001, x237002, x237003, x238000, x238001, x239000, x239001 => if x28 = true then (some (0, 0, 1)) else ((ops_exact.f k x237002 86400000000 x237003).bind fun bt243 => (if x237001 = 0 then (if x237000 = 0 then (if x239000 = 0 then (if bt243.2 = 0 then (ops_Bin.j1 k bt243.1 (decide (bt243.1 < 0)) x238000 x238001 x239000 x239001) else (ops_Bin.j1 k bt243.1 true x238000 x238001 x239000 x239001)) else (ops_Bin.j1 k bt243.1 true x238000 x238001 x239000 x239001)) else (ops_Bin.j1 k bt243.1 true x238000 x238001 x239000 x239001)) else (ops_Bin.j1 k bt243.1 true x238000 x238001 x239000 x239001)))
def ops_Bin.j1 : Nat → Int → Bool → Int → Int → Int → Int → Option (Int × Int × Int)
  | 0, _, _, _, _, _, _ => none
  | k + 1, x8, x38, x238000, x238001, x239000, x239001 => if x38 = true then (some (0, 0, 10)) else (if x8 = 0 then (some (0, 0, 11)) else (if x238000 = 0 then ((num_Sub.f x238001 x239001).bind fun bt245 => ((num_Mod.f bt245.1 x8).bind fun bt247 => ((num_Sub.f x238001 bt247.1).bind fun bt249 => ((ops_made.f k bt249.1 (([bt245.2, bt247.2, bt249.2] : List Int))).bind fun bt254 => (some (bt254.1, bt254.2.1, bt254.2.2)))))) else (some (x238000, x238001, 0))))
end
def ops_Bin.f (k : Nat) (a0_0 : Int) (a0_1 : Int) (a0_2 : Int) (a0_3 : Int) (a1_0 : Int) (a1_1 : Int) (a2_0 : Int) (a2_1 : Int) : Option (Int × Int × Int) := (span_Right.f a0_0 a0_1 a0_2 a0_3).bind fun t240 => (if t240 = true then ((day_RightStamp.f k a1_0 a1_1).bind fun t241 => (if t241 = true then ((day_RightStamp.f k a2_0 a2_1).bind fun t242 => (ops_Bin.j0 k (!t242) a0_0 a0_1 a0_2 a0_3 a1_0 a1_1 a2_0 a2_1)) else (ops_Bin.j0 k true a0_0 a0_1 a0_2 a0_3 a1_0 a1_1 a2_0 a2_1))) else (ops_Bin.j0 k true a0_0 a0_1 a0_2 a0_3 a1_0 a1_1 a2_0 a2_1))
set_option maxHeartbeats 8000000 in
set_option maxRecDepth 100000 in
theorem ops_Bin.calls (k : Nat) (a0_0 : Int) (a0_1 : Int) (a0_2 : Int) (a0_3 : Int) (a1_0 : Int) (a1_1 : Int) (a2_0 : Int) (a2_1 : Int) (r1 : Int) (r2 : Int) (r3 : Int) (w : World) (h : ops_Bin.f k a0_0 a0_1 a0_2 a0_3 a1_0 a1_1 a2_0 a2_1 = some (r1, r2, r3)) :
    Calls Tryz.prog 12 #[.agg #[.int .i64 a0_0, .int .i64 a0_1, .int .i64 a0_2, .int .i64 a0_3], .agg #[.int .i64 a1_0, .int .i64 a1_1], .agg #[.int .i64 a2_0, .int .i64 a2_1]] w fun e w' => e = .returned (.tuple #[.agg #[.int .i64 r1, .int .i64 r2], .int .i64 r3]) ∧ Below w.heap.size w w' := by
  have hu32 := Tryz.underlying32
  have hu23 := Tryz.underlying23
  have HB := Aside0.mk (Below.refl w.heap.size w)
  have H : ((span_Right.f a0_0 a0_1 a0_2 a0_3).bind fun t240 => (if t240 = true then ((day_RightStamp.f k a1_0 a1_1).bind fun t241 => (if t241 = true then ((day_RightStamp.f k a2_0 a2_1).bind fun t242 => (ops_Bin.j0 k (!t242) a0_0 a0_1 a0_2 a0_3 a1_0 a1_1 a2_0 a2_1)) else (ops_Bin.j0 k true a0_0 a0_1 a0_2 a0_3 a1_0 a1_1 a2_0 a2_1))) else (ops_Bin.j0 k true a0_0 a0_1 a0_2 a0_3 a1_0 a1_1 a2_0 a2_1))) = some (r1, r2, r3) := h
  clear h
  have HC4 := Aside0.mk H
  clear H
  go_enter Tryz.func12, Tryz.ntmps12
  go_upto_region 1 with (first | ((with_reducible refine gate_dst (N := 3) rfl ?_); refine kO ?hg (N := 3) ?hd (cs := #[.int .i64 a0_0, .int .i64 a0_1, .int .i64 a0_2, .int .i64 a0_3]) (t := 32) ?hr ?_; (case hd => rfl); (case hg => rfl); (case hr => first | (go_simp; done) | (go_simp; rfl)); intro gb236 hg w5 hbox hb; have n0_ := Aside0.mk (kJ (by repeat (first | (with_reducible first | exact HB.out | apply kB | apply kA | apply kC) | exact HB.out)) hb); have n1_ := Aside0.mk (hbox); have n2_ := Aside0.mk ((by rw [hg]; exact (kL (by repeat (first | (with_reducible first | exact HB.out | apply kB | apply kA | apply kC) | exact HB.out))) : w.heap.size ≤ gb236)); have n3_ := Aside0.mk ((by rw [hg]; exact (kL (by repeat (first | (with_reducible first | exact HB.out | apply kB | apply kA | apply kC) | exact HB.out))) : w.heap.size ≤ gb236)); clear HB; have HB := n0_; have BK236 := n1_; have GW236 := n2_; have GE236 := n3_; clear n0_ n1_ n2_ n3_; clear hb hbox hg) | ((with_reducible refine gate_dst (N := 4) rfl ?_); refine kO ?hg (N := 4) ?hd (cs := #[.int .i64 a1_0, .int .i64 a1_1]) (t := 23) ?hr ?_; (case hd => rfl); (case hg => rfl); (case hr => first | (go_simp; done) | (go_simp; rfl)); intro gb237 hg w6 hbox hb; have n0_ := Aside0.mk (kM (g := gb236) (o := .cells #[.int .i64 a0_0, .int .i64 a0_1, .int .i64 a0_2, .int .i64 a0_3] 32 (0, 0)) (by (with_reducible repeat (first | refine kE ?_ _ | refine kH ?_ | refine kF ?_ _)); exact BK236.out) hb); have n1_ := Aside0.mk (kJ (by repeat (first | (with_reducible first | exact HB.out | apply kB | apply kA | apply kC | refine kD ?_ GE236.out) | exact HB.out)) hb); have n2_ := Aside0.mk (hbox); have n3_ := Aside0.mk ((by rw [hg]; exact (kL (by repeat (first | (with_reducible first | exact HB.out | apply kB | apply kA | apply kC | refine kD ?_ GE236.out) | exact HB.out))) : w.heap.size ≤ gb237)); have n4_ := Aside0.mk ((by rw [hg]; exact (kL (by repeat (first | (with_reducible first | exact HB.out | apply kB | apply kA | apply kC | refine kD ?_ GE236.out) | exact HB.out))) : w.heap.size ≤ gb237)); have n5_ := Aside0.mk ((by rw [hg]; exact Nat.ne_of_lt (blk_lt (g := gb236) (o := .cells #[.int .i64 a0_0, .int .i64 a0_1, .int .i64 a0_2, .int .i64 a0_3] 32 (0, 0)) (by (with_reducible repeat (first | refine kE ?_ _ | refine kH ?_ | refine kF ?_ _)); exact BK236.out)) : gb236 ≠ gb237)); have n6_ := Aside0.mk ((by rw [hg]; exact Nat.ne_of_gt (blk_lt (g := gb236) (o := .cells #[.int .i64 a0_0, .int .i64 a0_1, .int .i64 a0_2, .int .i64 a0_3] 32 (0, 0)) (by (with_reducible repeat (first | refine kE ?_ _ | refine kH ?_ | refine kF ?_ _)); exact BK236.out)) : gb237 ≠ gb236)); clear BK236; clear HB; have BK236 := n0_; have HB := n1_; have BK237 := n2_; have GW237 := n3_; have GE237 := n4_; have NB236_237 := n5_; have NB237_236 := n6_; clear n0_ n1_ n2_ n3_ n4_ n5_ n6_; clear hb hbox hg) | ((with_reducible refine gate_dst (N := 5) rfl ?_); refine kO ?hg (N := 5) ?hd (cs := #[.int .i64 a2_0, .int .i64 a2_1]) (t := 23) ?hr ?_; (case hd => rfl); (case hg => rfl); (case hr => first | (go_simp; done) | (go_simp; rfl)); intro gb238 hg w7 hbox hb; have n0_ := Aside0.mk (kM (g := gb236) (o := .cells #[.int .i64 a0_0, .int .i64 a0_1, .int .i64 a0_2, .int .i64 a0_3] 32 (0, 0)) (by (with_reducible repeat (first | refine kE ?_ _ | refine kH ?_ | refine kF ?_ _)); exact BK236.out) hb); have n1_ := Aside0.mk (kM (g := gb237) (o := .cells #[.int .i64 a1_0, .int .i64 a1_1] 23 (0, 0)) (by (with_reducible repeat (first | refine kE ?_ _ | refine kH ?_ | refine kF ?_ _)); exact BK237.out) hb); have n2_ := Aside0.mk (kJ (by repeat (first | (with_reducible first | exact HB.out | apply kB | apply kA | apply kC | refine kD ?_ GE236.out | refine kD ?_ GE237.out) | exact HB.out)) hb); have n3_ := Aside0.mk (hbox); have n4_ := Aside0.mk ((by rw [hg]; exact (kL (by repeat (first | (with_reducible first | exact HB.out | apply kB | apply kA | apply kC | refine kD ?_ GE236.out | refine kD ?_ GE237.out) | exact HB.out))) : w.heap.size ≤ gb238)); have n5_ := Aside0.mk ((by rw [hg]; exact (kL (by repeat (first | (with_reducible first | exact HB.out | apply kB | apply kA | apply kC | refine kD ?_ GE236.out | refine kD ?_ GE237.out) | exact HB.out))) : w.heap.size ≤ gb238)); have n6_ := Aside0.mk ((by rw [hg]; exact Nat.ne_of_lt (blk_lt (g := gb236) (o := .cells #[.int .i64 a0_0, .int .i64 a0_1, .int .i64 a0_2, .int .i64 a0_3] 32 (0, 0)) (by (with_reducible repeat (first | refine kE ?_ _ | refine kH ?_ | refine kF ?_ _)); exact BK236.out)) : gb236 ≠ gb238)); have n7_ := Aside0.mk ((by rw [hg]; exact Nat.ne_of_gt (blk_lt (g := gb236) (o := .cells #[.int .i64 a0_0, .int .i64 a0_1, .int .i64 a0_2, .int .i64 a0_3] 32 (0, 0)) (by (with_reducible repeat (first | refine kE ?_ _ | refine kH ?_ | refine kF ?_ _)); exact BK236.out)) : gb238 ≠ gb236)); have n8_ := Aside0.mk ((by rw [hg]; exact Nat.ne_of_lt (blk_lt (g := gb237) (o := .cells #[.int .i64 a1_0, .int .i64 a1_1] 23 (0, 0)) (by (with_reducible repeat (first | refine kE ?_ _ | refine kH ?_ | refine kF ?_ _)); exact BK237.out)) : gb237 ≠ gb238)); have n9_ := Aside0.mk ((by rw [hg]; exact Nat.ne_of_gt (blk_lt (g := gb237) (o := .cells #[.int .i64 a1_0, .int .i64 a1_1] 23 (0, 0)) (by (with_reducible repeat (first | refine kE ?_ _ | refine kH ?_ | refine kF ?_ _)); exact BK237.out)) : gb238 ≠ gb237)); clear BK236; clear BK237; clear HB; have BK236 := n0_; have BK237 := n1_; have HB := n2_; have BK238 := n3_; have GW238 := n4_; have GE238 := n5_; have NB236_238 := n6_; have NB238_236 := n7_; have NB237_238 := n8_; have NB238_237 := n9_; clear n0_ n1_ n2_ n3_ n4_ n5_ n6_ n7_ n8_ n9_; clear hb hbox hg) | ((with_reducible refine gate_dst (N := 6) rfl ?_); refine kO ?hg (N := 6) ?hd (cs := #[.int .i64 0, .int .i64 0]) (t := 23) ?hr ?_; (case hd => rfl); (case hg => rfl); (case hr => first | (go_simp; done) | (go_simp; rfl)); intro gb239 hg w8 hbox hb; have n0_ := Aside0.mk (kM (g := gb236) (o := .cells #[.int .i64 a0_0, .int .i64 a0_1, .int .i64 a0_2, .int .i64 a0_3] 32 (0, 0)) (by (with_reducible repeat (first | refine kE ?_ _ | refine kH ?_ | refine kF ?_ _)); exact BK236.out) hb); have n1_ := Aside0.mk (kM (g := gb237) (o := .cells #[.int .i64 a1_0, .int .i64 a1_1] 23 (0, 0)) (by (with_reducible repeat (first | refine kE ?_ _ | refine kH ?_ | refine kF ?_ _)); exact BK237.out) hb); have n2_ := Aside0.mk (kM (g := gb238) (o := .cells #[.int .i64 a2_0, .int .i64 a2_1] 23 (0, 0)) (by (with_reducible repeat (first | refine kE ?_ _ | refine kH ?_ | refine kF ?_ _)); exact BK238.out) hb); have n3_ := Aside0.mk (kJ (by repeat (first | (with_reducible first | exact HB.out | apply kB | apply kA | apply kC | refine kD ?_ GE236.out | refine kD ?_ GE237.out | refine kD ?_ GE238.out) | exact HB.out)) hb); have n4_ := Aside0.mk (hbox); have n5_ := Aside0.mk ((by rw [hg]; exact (kL (by repeat (first | (with_reducible first | exact HB.out | apply kB | apply kA | apply kC | refine kD ?_ GE236.out | refine kD ?_ GE237.out | refine kD ?_ GE238.out) | exact HB.out))) : w.heap.size ≤ gb239)); have n6_ := Aside0.mk ((by rw [hg]; exact (kL (by repeat (first | (with_reducible first | exact HB.out | apply kB | apply kA | apply kC | refine kD ?_ GE236.out | refine kD ?_ GE237.out | refine kD ?_ GE238.out) | exact HB.out))) : w.heap.size ≤ gb239)); have n7_ := Aside0.mk ((by rw [hg]; exact Nat.ne_of_lt (blk_lt (g := gb236) (o := .cells #[.int .i64 a0_0, .int .i64 a0_1, .int .i64 a0_2, .int .i64 a0_3] 32 (0, 0)) (by (with_reducible repeat (first | refine kE ?_ _ | refine kH ?_ | refine kF ?_ _)); exact BK236.out)) : gb236 ≠ gb239)); have n8_ := Aside0.mk ((by rw [hg]; exact Nat.ne_of_gt (blk_lt (g := gb236) (o := .cells #[.int .i64 a0_0, .int .i64 a0_1, .int .i64 a0_2, .int .i64 a0_3] 32 (0, 0)) (by (with_reducible repeat (first | refine kE ?_ _ | refine kH ?_ | refine kF ?_ _)); exact BK236.out)) : gb239 ≠ gb236)); have n9_ := Aside0.mk ((by rw [hg]; exact Nat.ne_of_lt (blk_lt (g := gb237) (o := .cells #[.int .i64 a1_0, .int .i64 a1_1] 23 (0, 0)) (by (with_reducible repeat (first | refine kE ?_ _ | refine kH ?_ | refine kF ?_ _)); exact BK237.out)) : gb237 ≠ gb239)); have n10_ := Aside0.mk ((by rw [hg]; exact Nat.ne_of_gt (blk_lt (g := gb237) (o := .cells #[.int .i64 a1_0, .int .i64 a1_1] 23 (0, 0)) (by (with_reducible repeat (first | refine kE ?_ _ | refine kH ?_ | refine kF ?_ _)); exact BK237.out)) : gb239 ≠ gb237)); have n11_ := Aside0.mk ((by rw [hg]; exact Nat.ne_of_lt (blk_lt (g := gb238) (o := .cells #[.int .i64 a2_0, .int .i64 a2_1] 23 (0, 0)) (by (with_reducible repeat (first | refine kE ?_ _ | refine kH ?_ | refine kF ?_ _)); exact BK238.out)) : gb238 ≠ gb239)); have n12_ := Aside0.mk ((by rw [hg]; exact Nat.ne_of_gt (blk_lt (g := gb238) (o := .cells #[.int .i64 a2_0, .int .i64 a2_1] 23 (0, 0)) (by (with_reducible repeat (first | refine kE ?_ _ | refine kH ?_ | refine kF ?_ _)); exact BK238.out)) : gb239 ≠ gb238)); clear BK236; clear BK237; clear BK238; clear HB; have BK236 := n0_; have BK237 := n1_; have BK238 := n2_; have HB := n3_; have BK239 := n4_; have GW239 := n5_; have GE239 := n6_; have NB236_239 := n7_; have NB239_236 := n8_; have NB237_239 := n9_; have NB239_237 := n10_; have NB238_239 := n11_; have NB239_238 := n12_; clear n0_ n1_ n2_ n3_ n4_ n5_ n6_ n7_ n8_ n9_ n10_ n11_ n12_; clear hb hbox hg))
  (try simp only [Act.put, List.setIfInBounds_toArray, List.set_cons_zero, List.set_cons_succ])
  go_cut [28] (fun v28 wc => ∃ (kq : Nat) (x28_3 : Bool), v28 = .bool x28_3 ∧ Aside0 (ops_Bin.j0 kq x28_3 a0_0 a0_1 a0_2 a0_3 a1_0 a1_1 a2_0 a2_1 = some (r1, r2, r3)) ∧ Aside0 (kq ≤ k) ∧ Aside0 (wc.heap[gb236]? = some (.cells #[.int .i64 a0_0, .int .i64 a0_1, .int .i64 a0_2, .int .i64 a0_3] 32 (0, 0))) ∧ Aside0 (wc.heap[gb237]? = some (.cells #[.int .i64 a1_0, .int .i64 a1_1] 23 (0, 0))) ∧ Aside0 (wc.heap[gb238]? = some (.cells #[.int .i64 a2_0, .int .i64 a2_1] 23 (0, 0))) ∧ Aside0 (wc.heap[gb239]? = some (.cells #[.int .i64 0, .int .i64 0] 23 (0, 0))) ∧ Aside0 (Below w.heap.size w wc))
  case first =>
    have H := HC4.out
    clear HC4
    replace H := Option.bind_eq_some_iff.mp H
    obtain ⟨t240, A90, H⟩ := H
    replace H : (if t240 = true then ((day_RightStamp.f k a1_0 a1_1).bind fun t241 => (if t241 = true then ((day_RightStamp.f k a2_0 a2_1).bind fun t242 => (ops_Bin.j0 k (!t242) a0_0 a0_1 a0_2 a0_3 a1_0 a1_1 a2_0 a2_1)) else (ops_Bin.j0 k true a0_0 a0_1 a0_2 a0_3 a1_0 a1_1 a2_0 a2_1))) else (ops_Bin.j0 k true a0_0 a0_1 a0_2 a0_3 a1_0 a1_1 a2_0 a2_1)) = some (r1, r2, r3) := H
    have A9 := Aside0.mk A90
    clear A90
    by_cases c10 : t240 = true
    · subst c10
      have H1 : ((day_RightStamp.f k a1_0 a1_1).bind fun t241 => (if t241 = true then ((day_RightStamp.f k a2_0 a2_1).bind fun t242 => (ops_Bin.j0 k (!t242) a0_0 a0_1 a0_2 a0_3 a1_0 a1_1 a2_0 a2_1)) else (ops_Bin.j0 k true a0_0 a0_1 a0_2 a0_3 a1_0 a1_1 a2_0 a2_1))) = some (r1, r2, r3) := by rw [if_pos rfl] at H; exact H
      clear H
      have H := H1
      clear H1
      replace H := Option.bind_eq_some_iff.mp H
      obtain ⟨t241, A110, H⟩ := H
      replace H : (if t241 = true then ((day_RightStamp.f k a2_0 a2_1).bind fun t242 => (ops_Bin.j0 k (!t242) a0_0 a0_1 a0_2 a0_3 a1_0 a1_1 a2_0 a2_1)) else (ops_Bin.j0 k true a0_0 a0_1 a0_2 a0_3 a1_0 a1_1 a2_0 a2_1)) = some (r1, r2, r3) := H
      have A11 := Aside0.mk A110
      clear A110
      by_cases c12 : t241 = true
      · subst c12
        have H1 : ((day_RightStamp.f k a2_0 a2_1).bind fun t242 => (ops_Bin.j0 k (!t242) a0_0 a0_1 a0_2 a0_3 a1_0 a1_1 a2_0 a2_1)) = some (r1, r2, r3) := by rw [if_pos rfl] at H; exact H
        clear H
        have H := H1
        clear H1
        replace H := Option.bind_eq_some_iff.mp H
        obtain ⟨t242, A130, H⟩ := H
        replace H : (ops_Bin.j0 k (!t242) a0_0 a0_1 a0_2 a0_3 a1_0 a1_1 a2_0 a2_1) = some (r1, r2, r3) := H
        have A13 := Aside0.mk A130
        clear A130
        have H' := Aside0.mk H
        clear H
        have hnb14 := NB236_237.out
        have hnc14 := NB237_236.out
        have hnb15 := NB236_238.out
        have hnc15 := NB238_236.out
        have hnb16 := NB236_239.out
        have hnc16 := NB239_236.out
        have hcz17_0 : w8.cell? ⟨gb236, 0, none⟩ = some (.int .i64 a0_0) := (kI BK236.out 0).trans rfl
        have hcz17_1 : w8.cell? ⟨gb236, 1, none⟩ = some (.int .i64 a0_1) := (kI BK236.out 1).trans rfl
        have hcz17_2 : w8.cell? ⟨gb236, 2, none⟩ = some (.int .i64 a0_2) := (kI BK236.out 2).trans rfl
        have hcz17_3 : w8.cell? ⟨gb236, 3, none⟩ = some (.int .i64 a0_3) := (kI BK236.out 3).trans rfl
        have hfz17_0 := kG BK236.out 0
        have hfz17_1 := kG BK236.out 1
        have hfz17_2 := kG BK236.out 2
        have hfz17_3 := kG BK236.out 3
        go_wp2_with (first | ((with_reducible refine kK (f := 43) rfl ?_); refine kN (some 17) rfl rfl Tryz.func43 (by kernel_rfl) rfl #[.agg #[.int .i64 a0_0, .int .i64 a0_1, .int .i64 a0_2, .int .i64 a0_3]] rfl (by (try simp only [List.map_toArray, List.map_cons, List.map_nil]); first | done | rfl | (simp only [List.length_drop, List.length_take]; rfl)) ?_; (with_reducible refine (span_Right.calls a0_0 a0_1 a0_2 a0_3 true _ A9.out).mono ?_); rintro e w18 ⟨rfl, hb⟩; refine ⟨_, rfl, ?_⟩; have n0_ := Aside0.mk (kM (g := gb236) (o := .cells #[.int .i64 a0_0, .int .i64 a0_1, .int .i64 a0_2, .int .i64 a0_3] 32 (0, 0)) (by (with_reducible repeat (first | refine kE ?_ _ | refine kH ?_ | refine kF ?_ _)); exact BK236.out) hb); have n1_ := Aside0.mk (kM (g := gb237) (o := .cells #[.int .i64 a1_0, .int .i64 a1_1] 23 (0, 0)) (by (with_reducible repeat (first | refine kE ?_ _ | refine kH ?_ | refine kF ?_ _)); exact BK237.out) hb); have n2_ := Aside0.mk (kM (g := gb238) (o := .cells #[.int .i64 a2_0, .int .i64 a2_1] 23 (0, 0)) (by (with_reducible repeat (first | refine kE ?_ _ | refine kH ?_ | refine kF ?_ _)); exact BK238.out) hb); have n3_ := Aside0.mk (kM (g := gb239) (o := .cells #[.int .i64 0, .int .i64 0] 23 (0, 0)) (by (with_reducible repeat (first | refine kE ?_ _ | refine kH ?_ | refine kF ?_ _)); exact BK239.out) hb); have n4_ := Aside0.mk (kJ (by repeat (first | (with_reducible first | exact HB.out | apply kB | apply kA | apply kC | refine kD ?_ GE236.out | refine kD ?_ GE237.out | refine kD ?_ GE238.out | refine kD ?_ GE239.out) | exact HB.out)) hb); clear BK236; clear BK237; clear BK238; clear BK239; clear HB; have BK236 := n0_; have BK237 := n1_; have BK238 := n2_; have BK239 := n3_; have HB := n4_; clear n0_ n1_ n2_ n3_ n4_; (try clear hb); (try clear hb2); (try clear hk); (try clear hi); have hnb19 := NB237_238.out; have hnc19 := NB238_237.out; have hnb20 := NB237_239.out; have hnc20 := NB239_237.out; have hcz21_0 : w18.cell? ⟨gb237, 0, none⟩ = some (.int .i64 a1_0) := (kI BK237.out 0).trans rfl; have hcz21_1 : w18.cell? ⟨gb237, 1, none⟩ = some (.int .i64 a1_1) := (kI BK237.out 1).trans rfl; have hfz21_0 := kG BK237.out 0; have hfz21_1 := kG BK237.out 1) | (go_at_call 44; (with_reducible refine (day_RightStamp.calls k a1_0 a1_1 true _ A11.out).mono ?_); rintro e w22 ⟨rfl, hb⟩; have n0_ := Aside0.mk (kM (g := gb236) (o := .cells #[.int .i64 a0_0, .int .i64 a0_1, .int .i64 a0_2, .int .i64 a0_3] 32 (0, 0)) (by (with_reducible repeat (first | refine kE ?_ _ | refine kH ?_ | refine kF ?_ _)); exact BK236.out) hb); have n1_ := Aside0.mk (kM (g := gb237) (o := .cells #[.int .i64 a1_0, .int .i64 a1_1] 23 (0, 0)) (by (with_reducible repeat (first | refine kE ?_ _ | refine kH ?_ | refine kF ?_ _)); exact BK237.out) hb); have n2_ := Aside0.mk (kM (g := gb238) (o := .cells #[.int .i64 a2_0, .int .i64 a2_1] 23 (0, 0)) (by (with_reducible repeat (first | refine kE ?_ _ | refine kH ?_ | refine kF ?_ _)); exact BK238.out) hb); have n3_ := Aside0.mk (kM (g := gb239) (o := .cells #[.int .i64 0, .int .i64 0] 23 (0, 0)) (by (with_reducible repeat (first | refine kE ?_ _ | refine kH ?_ | refine kF ?_ _)); exact BK239.out) hb); have n4_ := Aside0.mk (kJ (by repeat (first | (with_reducible first | exact HB.out | apply kB | apply kA | apply kC | refine kD ?_ GE236.out | refine kD ?_ GE237.out | refine kD ?_ GE238.out | refine kD ?_ GE239.out) | exact HB.out)) hb); clear BK236; clear BK237; clear BK238; clear BK239; clear HB; have BK236 := n0_; have BK237 := n1_; have BK238 := n2_; have BK239 := n3_; have HB := n4_; clear n0_ n1_ n2_ n3_ n4_; (try clear hb); (try clear hb2); (try clear hk); (try clear hi); have hnb23 := NB238_239.out; have hnc23 := NB239_238.out; have hcz24_0 : w22.cell? ⟨gb238, 0, none⟩ = some (.int .i64 a2_0) := (kI BK238.out 0).trans rfl; have hcz24_1 : w22.cell? ⟨gb238, 1, none⟩ = some (.int .i64 a2_1) := (kI BK238.out 1).trans rfl; have hfz24_0 := kG BK238.out 0; have hfz24_1 := kG BK238.out 1) | (go_at_call 44; (with_reducible refine (day_RightStamp.calls k a2_0 a2_1 t242 _ A13.out).mono ?_); rintro e w25 ⟨rfl, hb⟩; have n0_ := Aside0.mk (kM (g := gb236) (o := .cells #[.int .i64 a0_0, .int .i64 a0_1, .int .i64 a0_2, .int .i64 a0_3] 32 (0, 0)) (by (with_reducible repeat (first | refine kE ?_ _ | refine kH ?_ | refine kF ?_ _)); exact BK236.out) hb); have n1_ := Aside0.mk (kM (g := gb237) (o := .cells #[.int .i64 a1_0, .int .i64 a1_1] 23 (0, 0)) (by (with_reducible repeat (first | refine kE ?_ _ | refine kH ?_ | refine kF ?_ _)); exact BK237.out) hb); have n2_ := Aside0.mk (kM (g := gb238) (o := .cells #[.int .i64 a2_0, .int .i64 a2_1] 23 (0, 0)) (by (with_reducible repeat (first | refine kE ?_ _ | refine kH ?_ | refine kF ?_ _)); exact BK238.out) hb); have n3_ := Aside0.mk (kM (g := gb239) (o := .cells #[.int .i64 0, .int .i64 0] 23 (0, 0)) (by (with_reducible repeat (first | refine kE ?_ _ | refine kH ?_ | refine kF ?_ _)); exact BK239.out) hb); have n4_ := Aside0.mk (kJ (by repeat (first | (with_reducible first | exact HB.out | apply kB | apply kA | apply kC | refine kD ?_ GE236.out | refine kD ?_ GE237.out | refine kD ?_ GE238.out | refine kD ?_ GE239.out) | exact HB.out)) hb); clear BK236; clear BK237; clear BK238; clear BK239; clear HB; have BK236 := n0_; have BK237 := n1_; have BK238 := n2_; have BK239 := n3_; have HB := n4_; clear n0_ n1_ n2_ n3_ n4_; (try clear hb); (try clear hb2); (try clear hk); (try clear hi)))
        go_meet
        case rel => exact ⟨_, (!t242), (by first | rfl | (simp; done) | (simp [*]; done)), H', ⟨by first | omega | exact Nat.le_refl _⟩, ⟨by (with_reducible repeat (first | refine kE ?_ _ | refine kH ?_ | refine kF ?_ _)); exact BK236.out⟩, ⟨by (with_reducible repeat (first | refine kE ?_ _ | refine kH ?_ | refine kF ?_ _)); exact BK237.out⟩, ⟨by (with_reducible repeat (first | refine kE ?_ _ | refine kH ?_ | refine kF ?_ _)); exact BK238.out⟩, ⟨by (with_reducible repeat (first | refine kE ?_ _ | refine kH ?_ | refine kF ?_ _)); exact BK239.out⟩, ⟨by repeat (first | (with_reducible first | exact HB.out | apply kB | apply kA | apply kC | refine kD ?_ GE236.out | refine kD ?_ GE237.out | refine kD ?_ GE238.out | refine kD ?_ GE239.out) | exact HB.out)⟩⟩
      · replace c12 := Bool.eq_false_iff.mpr c12
        subst c12
        have H1 : (ops_Bin.j0 k true a0_0 a0_1 a0_2 a0_3 a1_0 a1_1 a2_0 a2_1) = some (r1, r2, r3) := by rw [if_neg (show ¬ (false = true) by decide)] at H; exact H
        clear H
        have H := H1
        clear H1
        have H' := Aside0.mk H
        clear H
        have hnb26 := NB236_237.out
        have hnc26 := NB237_236.out
        have hnb27 := NB236_238.out
        have hnc27 := NB238_236.out
        have hnb28 := NB236_239.out
        have hnc28 := NB239_236.out
        have hcz29_0 : w8.cell? ⟨gb236, 0, none⟩ = some (.int .i64 a0_0) := (kI BK236.out 0).trans rfl
        have hcz29_1 : w8.cell? ⟨gb236, 1, none⟩ = some (.int .i64 a0_1) := (kI BK236.out 1).trans rfl
        have hcz29_2 : w8.cell? ⟨gb236, 2, none⟩ = some (.int .i64 a0_2) := (kI BK236.out 2).trans rfl
        have hcz29_3 : w8.cell? ⟨gb236, 3, none⟩ = some (.int .i64 a0_3) := (kI BK236.out 3).trans rfl
        have hfz29_0 := kG BK236.out 0
        have hfz29_1 := kG BK236.out 1
        have hfz29_2 := kG BK236.out 2
        have hfz29_3 := kG BK236.out 3
        go_wp2_with (first | ((with_reducible refine kK (f := 43) rfl ?_); refine kN (some 17) rfl rfl Tryz.func43 (by kernel_rfl) rfl #[.agg #[.int .i64 a0_0, .int .i64 a0_1, .int .i64 a0_2, .int .i64 a0_3]] rfl (by (try simp only [List.map_toArray, List.map_cons, List.map_nil]); first | done | rfl | (simp only [List.length_drop, List.length_take]; rfl)) ?_; (with_reducible refine (span_Right.calls a0_0 a0_1 a0_2 a0_3 true _ A9.out).mono ?_); rintro e w30 ⟨rfl, hb⟩; refine ⟨_, rfl, ?_⟩; have n0_ := Aside0.mk (kM (g := gb236) (o := .cells #[.int .i64 a0_0, .int .i64 a0_1, .int .i64 a0_2, .int .i64 a0_3] 32 (0, 0)) (by (with_reducible repeat (first | refine kE ?_ _ | refine kH ?_ | refine kF ?_ _)); exact BK236.out) hb); have n1_ := Aside0.mk (kM (g := gb237) (o := .cells #[.int .i64 a1_0, .int .i64 a1_1] 23 (0, 0)) (by (with_reducible repeat (first | refine kE ?_ _ | refine kH ?_ | refine kF ?_ _)); exact BK237.out) hb); have n2_ := Aside0.mk (kM (g := gb238) (o := .cells #[.int .i64 a2_0, .int .i64 a2_1] 23 (0, 0)) (by (with_reducible repeat (first | refine kE ?_ _ | refine kH ?_ | refine kF ?_ _)); exact BK238.out) hb); have n3_ := Aside0.mk (kM (g := gb239) (o := .cells #[.int .i64 0, .int .i64 0] 23 (0, 0)) (by (with_reducible repeat (first | refine kE ?_ _ | refine kH ?_ | refine kF ?_ _)); exact BK239.out) hb); have n4_ := Aside0.mk (kJ (by repeat (first | (with_reducible first | exact HB.out | apply kB | apply kA | apply kC | refine kD ?_ GE236.out | refine kD ?_ GE237.out | refine kD ?_ GE238.out | refine kD ?_ GE239.out) | exact HB.out)) hb); clear BK236; clear BK237; clear BK238; clear BK239; clear HB; have BK236 := n0_; have BK237 := n1_; have BK238 := n2_; have BK239 := n3_; have HB := n4_; clear n0_ n1_ n2_ n3_ n4_; (try clear hb); (try clear hb2); (try clear hk); (try clear hi); have hnb31 := NB237_238.out; have hnc31 := NB238_237.out; have hnb32 := NB237_239.out; have hnc32 := NB239_237.out; have hcz33_0 : w30.cell? ⟨gb237, 0, none⟩ = some (.int .i64 a1_0) := (kI BK237.out 0).trans rfl; have hcz33_1 : w30.cell? ⟨gb237, 1, none⟩ = some (.int .i64 a1_1) := (kI BK237.out 1).trans rfl; have hfz33_0 := kG BK237.out 0; have hfz33_1 := kG BK237.out 1) | (go_at_call 44; (with_reducible refine (day_RightStamp.calls k a1_0 a1_1 false _ A11.out).mono ?_); rintro e w34 ⟨rfl, hb⟩; have n0_ := Aside0.mk (kM (g := gb236) (o := .cells #[.int .i64 a0_0, .int .i64 a0_1, .int .i64 a0_2, .int .i64 a0_3] 32 (0, 0)) (by (with_reducible repeat (first | refine kE ?_ _ | refine kH ?_ | refine kF ?_ _)); exact BK236.out) hb); have n1_ := Aside0.mk (kM (g := gb237) (o := .cells #[.int .i64 a1_0, .int .i64 a1_1] 23 (0, 0)) (by (with_reducible repeat (first | refine kE ?_ _ | refine kH ?_ | refine kF ?_ _)); exact BK237.out) hb); have n2_ := Aside0.mk (kM (g := gb238) (o := .cells #[.int .i64 a2_0, .int .i64 a2_1] 23 (0, 0)) (by (with_reducible repeat (first | refine kE ?_ _ | refine kH ?_ | refine kF ?_ _)); exact BK238.out) hb); have n3_ := Aside0.mk (kM (g := gb239) (o := .cells #[.int .i64 0, .int .i64 0] 23 (0, 0)) (by (with_reducible repeat (first | refine kE ?_ _ | refine kH ?_ | refine kF ?_ _)); exact BK239.out) hb); have n4_ := Aside0.mk (kJ (by repeat (first | (with_reducible first | exact HB.out | apply kB | apply kA | apply kC | refine kD ?_ GE236.out | refine kD ?_ GE237.out | refine kD ?_ GE238.out | refine kD ?_ GE239.out) | exact HB.out)) hb); clear BK236; clear BK237; clear BK238; clear BK239; clear HB; have BK236 := n0_; have BK237 := n1_; have BK238 := n2_; have BK239 := n3_; have HB := n4_; clear n0_ n1_ n2_ n3_ n4_; (try clear hb); (try clear hb2); (try clear hk); (try clear hi)))
        go_meet
        case rel => exact ⟨_, (true), (by first | rfl | (simp; done) | (simp [*]; done)), H', ⟨by first | omega | exact Nat.le_refl _⟩, ⟨by (with_reducible repeat (first | refine kE ?_ _ | refine kH ?_ | refine kF ?_ _)); exact BK236.out⟩, ⟨by (with_reducible repeat (first | refine kE ?_ _ | refine kH ?_ | refine kF ?_ _)); exact BK237.out⟩, ⟨by (with_reducible repeat (first | refine kE ?_ _ | refine kH ?_ | refine kF ?_ _)); exact BK238.out⟩, ⟨by (with_reducible repeat (first | refine kE ?_ _ | refine kH ?_ | refine kF ?_ _)); exact BK239.out⟩, ⟨by repeat (first | (with_reducible first | exact HB.out | apply kB | apply kA | apply kC | refine kD ?_ GE236.out | refine kD ?_ GE237.out | refine kD ?_ GE238.out | refine kD ?_ GE239.out) | exact HB.out)⟩⟩
    · replace c10 := Bool.eq_false_iff.mpr c10
      subst c10
      have H1 : (ops_Bin.j0 k true a0_0 a0_1 a0_2 a0_3 a1_0 a1_1 a2_0 a2_1) = some (r1, r2, r3) := by rw [if_neg (show ¬ (false = true) by decide)] at H; exact H
      clear H
      have H := H1
      clear H1
      have H' := Aside0.mk H
      clear H
      have hnb35 := NB236_237.out
      have hnc35 := NB237_236.out
      have hnb36 := NB236_238.out
      have hnc36 := NB238_236.out
      have hnb37 := NB236_239.out
      have hnc37 := NB239_236.out
      have hcz38_0 : w8.cell? ⟨gb236, 0, none⟩ = some (.int .i64 a0_0) := (kI BK236.out 0).trans rfl
      have hcz38_1 : w8.cell? ⟨gb236, 1, none⟩ = some (.int .i64 a0_1) := (kI BK236.out 1).trans rfl
      have hcz38_2 : w8.cell? ⟨gb236, 2, none⟩ = some (.int .i64 a0_2) := (kI BK236.out 2).trans rfl
      have hcz38_3 : w8.cell? ⟨gb236, 3, none⟩ = some (.int .i64 a0_3) := (kI BK236.out 3).trans rfl
      have hfz38_0 := kG BK236.out 0
      have hfz38_1 := kG BK236.out 1
      have hfz38_2 := kG BK236.out 2
      have hfz38_3 := kG BK236.out 3
      go_wp2_with (first | ((with_reducible refine kK (f := 43) rfl ?_); refine kN (some 17) rfl rfl Tryz.func43 (by kernel_rfl) rfl #[.agg #[.int .i64 a0_0, .int .i64 a0_1, .int .i64 a0_2, .int .i64 a0_3]] rfl (by (try simp only [List.map_toArray, List.map_cons, List.map_nil]); first | done | rfl | (simp only [List.length_drop, List.length_take]; rfl)) ?_; (with_reducible refine (span_Right.calls a0_0 a0_1 a0_2 a0_3 false _ A9.out).mono ?_); rintro e w39 ⟨rfl, hb⟩; refine ⟨_, rfl, ?_⟩; have n0_ := Aside0.mk (kM (g := gb236) (o := .cells #[.int .i64 a0_0, .int .i64 a0_1, .int .i64 a0_2, .int .i64 a0_3] 32 (0, 0)) (by (with_reducible repeat (first | refine kE ?_ _ | refine kH ?_ | refine kF ?_ _)); exact BK236.out) hb); have n1_ := Aside0.mk (kM (g := gb237) (o := .cells #[.int .i64 a1_0, .int .i64 a1_1] 23 (0, 0)) (by (with_reducible repeat (first | refine kE ?_ _ | refine kH ?_ | refine kF ?_ _)); exact BK237.out) hb); have n2_ := Aside0.mk (kM (g := gb238) (o := .cells #[.int .i64 a2_0, .int .i64 a2_1] 23 (0, 0)) (by (with_reducible repeat (first | refine kE ?_ _ | refine kH ?_ | refine kF ?_ _)); exact BK238.out) hb); have n3_ := Aside0.mk (kM (g := gb239) (o := .cells #[.int .i64 0, .int .i64 0] 23 (0, 0)) (by (with_reducible repeat (first | refine kE ?_ _ | refine kH ?_ | refine kF ?_ _)); exact BK239.out) hb); have n4_ := Aside0.mk (kJ (by repeat (first | (with_reducible first | exact HB.out | apply kB | apply kA | apply kC | refine kD ?_ GE236.out | refine kD ?_ GE237.out | refine kD ?_ GE238.out | refine kD ?_ GE239.out) | exact HB.out)) hb); clear BK236; clear BK237; clear BK238; clear BK239; clear HB; have BK236 := n0_; have BK237 := n1_; have BK238 := n2_; have BK239 := n3_; have HB := n4_; clear n0_ n1_ n2_ n3_ n4_; (try clear hb); (try clear hb2); (try clear hk); (try clear hi)))
      go_meet
      case rel => exact ⟨_, (true), (by first | rfl | (simp; done) | (simp [*]; done)), H', ⟨by first | omega | exact Nat.le_refl _⟩, ⟨by (with_reducible repeat (first | refine kE ?_ _ | refine kH ?_ | refine kF ?_ _)); exact BK236.out⟩, ⟨by (with_reducible repeat (first | refine kE ?_ _ | refine kH ?_ | refine kF ?_ _)); exact BK237.out⟩, ⟨by (with_reducible repeat (first | refine kE ?_ _ | refine kH ?_ | refine kF ?_ _)); exact BK238.out⟩, ⟨by (with_reducible repeat (first | refine kE ?_ _ | refine kH ?_ | refine kF ?_ _)); exact BK239.out⟩, ⟨by repeat (first | (with_reducible first | exact HB.out | apply kB | apply kA | apply kC | refine kD ?_ GE236.out | refine kD ?_ GE237.out | refine kD ?_ GE238.out | refine kD ?_ GE239.out) | exact HB.out)⟩⟩
  case rest =>
    clear HC4
    try clear c1
    try clear c2
    try clear p2
    try clear c3
    try clear c4
    try clear c10
    try clear c12
    try clear c14
    try clear c15
    try clear c16
    try clear c19
    try clear c20
    try clear c23
    try clear c26
    try clear c27
    try clear c28
    try clear c31
    try clear c32
    try clear c35
    try clear c36
    try clear c37
    try clear hcz17_0
    try clear hcz17_1
    try clear hcz17_2
    try clear hcz17_3
    try clear hcz21_0
    try clear hcz21_1
    try clear hcz24_0
    try clear hcz24_1
    try clear hcz29_0
    try clear hcz29_1
    try clear hcz29_2
    try clear hcz29_3
    try clear hcz33_0
    try clear hcz33_1
    try clear hcz38_0
    try clear hcz38_1
    try clear hcz38_2
    try clear hcz38_3
    try clear hfz17_0
    try clear hfz17_1
    try clear hfz17_2
    try clear hfz17_3
    try clear hfz21_0
    try clear hfz21_1
    try clear hfz24_0
    try clear hfz24_1
    try clear hfz29_0
    try clear hfz29_1
    try clear hfz29_2
    try clear hfz29_3
    try clear hfz33_0
    try clear hfz33_1
    try clear hfz38_0
    try clear hfz38_1
    try clear hfz38_2
    try clear hfz38_3
    obtain ⟨kq, x28_3, rfl, HA, HJ3, BK236, BK237, BK238, BK239, HB⟩ := hcut
    cases kq with
    | zero => exact absurd HA.out (by simp [ops_Bin.j0])
    | succ kj3 =>
      have H := HA.out
      clear HA
      simp only [ops_Bin.j0] at H
      by_cases c40 : x28_3 = true
      · subst c40
        have H1 : (some (0, 0, 1)) = some (r1, r2, r3) := by rw [if_pos rfl] at H; exact H
        clear H
        have H := H1
        clear H1
        simp only [Option.some.injEq, Prod.mk.injEq] at H
        obtain ⟨rfl, rfl, rfl⟩ := H
        have hnb41 := NB239_236.out
        have hnc41 := NB236_239.out
        have hnb42 := NB239_237.out
        have hnc42 := NB237_239.out
        have hnb43 := NB239_238.out
        have hnc43 := NB238_239.out
        have hcz44_0 : wc.cell? ⟨gb239, 0, none⟩ = some (.int .i64 0) := (kI BK239.out 0).trans rfl
        have hcz44_1 : wc.cell? ⟨gb239, 1, none⟩ = some (.int .i64 0) := (kI BK239.out 1).trans rfl
        have hfz44_0 := kG BK239.out 0
        have hfz44_1 := kG BK239.out 1
        go_wp2
        refine bodyPost_ret (results_ct rfl _ _ gb239 23 #[.int .i64 0, .int .i64 0] (0, 0) _ rfl (by (with_reducible repeat (first | refine kE ?_ _ | refine kH ?_ | refine kF ?_ _)); refine blk_put (cs := #[.int .i64 0, .int .i64 0]) ?_ 1 _ rfl; (with_reducible repeat (first | refine kE ?_ _ | refine kH ?_ | refine kF ?_ _)); refine blk_put (cs := #[.int .i64 0, .int .i64 0]) ?_ 0 _ rfl; (with_reducible repeat (first | refine kE ?_ _ | refine kH ?_ | refine kF ?_ _)); exact BK239.out) Tryz.underlying23 rfl (by kernel_rfl)) rfl ?_
        exact ⟨by first | rfl | (simp [errW_none, errW_some] <;> rfl) | (simp [*, errW_none, errW_some] <;> rfl), by repeat (first | (with_reducible first | exact HB.out | apply kB | apply kA | apply kC | refine kD ?_ GE236.out | refine kD ?_ GE237.out | refine kD ?_ GE238.out | refine kD ?_ GE239.out) | exact HB.out)⟩
      · replace c40 := Bool.eq_false_iff.mpr c40
        subst c40
        have H1 : ((ops_exact.f kj3 a0_2 86400000000 a0_3).bind fun bt243 => (if a0_1 = 0 then (if a0_0 = 0 then (if a2_0 = 0 then (if bt243.2 = 0 then (ops_Bin.j1 kj3 bt243.1 (decide (bt243.1 < 0)) a1_0 a1_1 a2_0 a2_1) else (ops_Bin.j1 kj3 bt243.1 true a1_0 a1_1 a2_0 a2_1)) else (ops_Bin.j1 kj3 bt243.1 true a1_0 a1_1 a2_0 a2_1)) else (ops_Bin.j1 kj3 bt243.1 true a1_0 a1_1 a2_0 a2_1)) else (ops_Bin.j1 kj3 bt243.1 true a1_0 a1_1 a2_0 a2_1))) = some (r1, r2, r3) := by rw [if_neg (show ¬ (false = true) by decide)] at H; exact H
        clear H
        have H := H1
        clear H1
        replace H := Option.bind_eq_some_iff.mp H
        obtain ⟨⟨t243, t244⟩, A450, H⟩ := H
        replace H : (if a0_1 = 0 then (if a0_0 = 0 then (if a2_0 = 0 then (if t244 = 0 then (ops_Bin.j1 kj3 t243 (decide (t243 < 0)) a1_0 a1_1 a2_0 a2_1) else (ops_Bin.j1 kj3 t243 true a1_0 a1_1 a2_0 a2_1)) else (ops_Bin.j1 kj3 t243 true a1_0 a1_1 a2_0 a2_1)) else (ops_Bin.j1 kj3 t243 true a1_0 a1_1 a2_0 a2_1)) else (ops_Bin.j1 kj3 t243 true a1_0 a1_1 a2_0 a2_1)) = some (r1, r2, r3) := H
        have A45 := Aside0.mk A450
        clear A450
        have HC46 := Aside0.mk H
        clear H
        have hnb47 := NB236_237.out
        have hnc47 := NB237_236.out
        have hnb48 := NB236_238.out
        have hnc48 := NB238_236.out
        have hnb49 := NB236_239.out
        have hnc49 := NB239_236.out
        have hcz50_0 : wc.cell? ⟨gb236, 0, none⟩ = some (.int .i64 a0_0) := (kI BK236.out 0).trans rfl
        have hcz50_1 : wc.cell? ⟨gb236, 1, none⟩ = some (.int .i64 a0_1) := (kI BK236.out 1).trans rfl
        have hcz50_2 : wc.cell? ⟨gb236, 2, none⟩ = some (.int .i64 a0_2) := (kI BK236.out 2).trans rfl
        have hcz50_3 : wc.cell? ⟨gb236, 3, none⟩ = some (.int .i64 a0_3) := (kI BK236.out 3).trans rfl
        have hfz50_0 := kG BK236.out 0
        have hfz50_1 := kG BK236.out 1
        have hfz50_2 := kG BK236.out 2
        have hfz50_3 := kG BK236.out 3
        go_upto_region 4 with (first | ((with_reducible refine kK (f := 45) rfl ?_); refine kN (some 35) rfl rfl Tryz.func45 (by kernel_rfl) rfl #[.int .i64 a0_2, .int .i64 86400000000, .int .i64 a0_3] rfl (by (try simp only [List.map_toArray, List.map_cons, List.map_nil]); first | done | rfl | (simp only [List.length_drop, List.length_take]; rfl)) ?_; (with_reducible refine (ops_exact.calls kj3 a0_2 86400000000 a0_3 t243 t244 _ A45.out).mono ?_); rintro e w51 ⟨rfl, hb⟩; refine ⟨_, rfl, ?_⟩; have n0_ := Aside0.mk (kM (g := gb236) (o := .cells #[.int .i64 a0_0, .int .i64 a0_1, .int .i64 a0_2, .int .i64 a0_3] 32 (0, 0)) (by (with_reducible repeat (first | refine kE ?_ _ | refine kH ?_ | refine kF ?_ _)); exact BK236.out) hb); have n1_ := Aside0.mk (kM (g := gb237) (o := .cells #[.int .i64 a1_0, .int .i64 a1_1] 23 (0, 0)) (by (with_reducible repeat (first | refine kE ?_ _ | refine kH ?_ | refine kF ?_ _)); exact BK237.out) hb); have n2_ := Aside0.mk (kM (g := gb238) (o := .cells #[.int .i64 a2_0, .int .i64 a2_1] 23 (0, 0)) (by (with_reducible repeat (first | refine kE ?_ _ | refine kH ?_ | refine kF ?_ _)); exact BK238.out) hb); have n3_ := Aside0.mk (kM (g := gb239) (o := .cells #[.int .i64 0, .int .i64 0] 23 (0, 0)) (by (with_reducible repeat (first | refine kE ?_ _ | refine kH ?_ | refine kF ?_ _)); exact BK239.out) hb); have n4_ := Aside0.mk (kJ (by repeat (first | (with_reducible first | exact HB.out | apply kB | apply kA | apply kC | refine kD ?_ GE236.out | refine kD ?_ GE237.out | refine kD ?_ GE238.out | refine kD ?_ GE239.out) | exact HB.out)) hb); clear BK236; clear BK237; clear BK238; clear BK239; clear HB; have BK236 := n0_; have BK237 := n1_; have BK238 := n2_; have BK239 := n3_; have HB := n4_; clear n0_ n1_ n2_ n3_ n4_; (try clear hb); (try clear hb2); (try clear hk); (try clear hi)))
        (try simp only [Act.put, List.setIfInBounds_toArray, List.set_cons_zero, List.set_cons_succ])
        go_cut [38] (fun v38 wc => ∃ (kq : Nat) (x38_45 : Bool), v38 = .bool x38_45 ∧ Aside0 (ops_Bin.j1 kq t243 x38_45 a1_0 a1_1 a2_0 a2_1 = some (r1, r2, r3)) ∧ Aside0 (kq ≤ kj3) ∧ Aside0 (wc.heap[gb236]? = some (.cells #[.int .i64 a0_0, .int .i64 a0_1, .int .i64 a0_2, .int .i64 a0_3] 32 (0, 0))) ∧ Aside0 (wc.heap[gb237]? = some (.cells #[.int .i64 a1_0, .int .i64 a1_1] 23 (0, 0))) ∧ Aside0 (wc.heap[gb238]? = some (.cells #[.int .i64 a2_0, .int .i64 a2_1] 23 (0, 0))) ∧ Aside0 (wc.heap[gb239]? = some (.cells #[.int .i64 0, .int .i64 0] 23 (0, 0))) ∧ Aside0 (Below w.heap.size w wc))
        case first =>
          have H := HC46.out
          clear HC46
          by_cases c52 : a0_1 = 0
          · rw [if_pos c52] at H
            have c52b0 : (a0_1 == 0) = true := beq_iff_eq.mpr c52
            have c52b1 : (a0_1 != 0) = false := bne_eq_false_iff_eq.mpr c52
            clear c52
            (first | rw [c52b0] | (simp only [i64_w, i32_w]; rw [c52b0]) | skip)
            by_cases c53 : a0_0 = 0
            · rw [if_pos c53] at H
              have c53b0 : (a0_0 == 0) = true := beq_iff_eq.mpr c53
              have c53b1 : (a0_0 != 0) = false := bne_eq_false_iff_eq.mpr c53
              clear c53
              by_cases c54 : a2_0 = 0
              · rw [if_pos c54] at H
                have c54b0 : (a2_0 == 0) = true := beq_iff_eq.mpr c54
                have c54b1 : (a2_0 != 0) = false := bne_eq_false_iff_eq.mpr c54
                clear c54
                by_cases c55 : t244 = 0
                · rw [if_pos c55] at H
                  have c55b0 : (t244 == 0) = true := beq_iff_eq.mpr c55
                  have c55b1 : (t244 != 0) = false := bne_eq_false_iff_eq.mpr c55
                  clear c55
                  have H' := Aside0.mk H
                  clear H
                  have hnb56 := NB236_237.out
                  have hnc56 := NB237_236.out
                  have hnb57 := NB236_238.out
                  have hnc57 := NB238_236.out
                  have hnb58 := NB236_239.out
                  have hnc58 := NB239_236.out
                  have hcz59_0 : w51.cell? ⟨gb236, 0, none⟩ = some (.int .i64 a0_0) := (kI BK236.out 0).trans rfl
                  have hcz59_1 : w51.cell? ⟨gb236, 1, none⟩ = some (.int .i64 a0_1) := (kI BK236.out 1).trans rfl
                  have hcz59_2 : w51.cell? ⟨gb236, 2, none⟩ = some (.int .i64 a0_2) := (kI BK236.out 2).trans rfl
                  have hcz59_3 : w51.cell? ⟨gb236, 3, none⟩ = some (.int .i64 a0_3) := (kI BK236.out 3).trans rfl
                  have hfz59_0 := kG BK236.out 0
                  have hfz59_1 := kG BK236.out 1
                  have hfz59_2 := kG BK236.out 2
                  have hfz59_3 := kG BK236.out 3
                  have hnb60 := NB238_237.out
                  have hnc60 := NB237_238.out
                  have hnb61 := NB238_239.out
                  have hnc61 := NB239_238.out
                  have hcz62_0 : w51.cell? ⟨gb238, 0, none⟩ = some (.int .i64 a2_0) := (kI BK238.out 0).trans rfl
                  have hcz62_1 : w51.cell? ⟨gb238, 1, none⟩ = some (.int .i64 a2_1) := (kI BK238.out 1).trans rfl
                  have hfz62_0 := kG BK238.out 0
                  have hfz62_1 := kG BK238.out 1
                  go_wp2
                  go_meet
                  case rel => exact ⟨_, (decide (t243 < 0)), (by first | rfl | (simp; done) | (simp [*]; done)), H', ⟨by have := HJ3.out; first | omega | exact Nat.le_refl _⟩, ⟨by (with_reducible repeat (first | refine kE ?_ _ | refine kH ?_ | refine kF ?_ _)); exact BK236.out⟩, ⟨by (with_reducible repeat (first | refine kE ?_ _ | refine kH ?_ | refine kF ?_ _)); exact BK237.out⟩, ⟨by (with_reducible repeat (first | refine kE ?_ _ | refine kH ?_ | refine kF ?_ _)); exact BK238.out⟩, ⟨by (with_reducible repeat (first | refine kE ?_ _ | refine kH ?_ | refine kF ?_ _)); exact BK239.out⟩, ⟨by repeat (first | (with_reducible first | exact HB.out | apply kB | apply kA | apply kC | refine kD ?_ GE236.out | refine kD ?_ GE237.out | refine kD ?_ GE238.out | refine kD ?_ GE239.out) | exact HB.out)⟩⟩
                · rw [if_neg c55] at H
                  have c55b0 : (t244 == 0) = false := beq_eq_false_iff_ne.mpr c55
                  have c55b1 : (t244 != 0) = true := bne_iff_ne.mpr c55
                  have H' := Aside0.mk H
                  clear H
                  have hnb63 := NB236_237.out
                  have hnc63 := NB237_236.out
                  have hnb64 := NB236_238.out
                  have hnc64 := NB238_236.out
                  have hnb65 := NB236_239.out
                  have hnc65 := NB239_236.out
                  have hcz66_0 : w51.cell? ⟨gb236, 0, none⟩ = some (.int .i64 a0_0) := (kI BK236.out 0).trans rfl
                  have hcz66_1 : w51.cell? ⟨gb236, 1, none⟩ = some (.int .i64 a0_1) := (kI BK236.out 1).trans rfl
                  have hcz66_2 : w51.cell? ⟨gb236, 2, none⟩ = some (.int .i64 a0_2) := (kI BK236.out 2).trans rfl
                  have hcz66_3 : w51.cell? ⟨gb236, 3, none⟩ = some (.int .i64 a0_3) := (kI BK236.out 3).trans rfl
                  have hfz66_0 := kG BK236.out 0
                  have hfz66_1 := kG BK236.out 1
                  have hfz66_2 := kG BK236.out 2
                  have hfz66_3 := kG BK236.out 3
                  have hnb67 := NB238_237.out
                  have hnc67 := NB237_238.out
                  have hnb68 := NB238_239.out
                  have hnc68 := NB239_238.out
                  have hcz69_0 : w51.cell? ⟨gb238, 0, none⟩ = some (.int .i64 a2_0) := (kI BK238.out 0).trans rfl
                  have hcz69_1 : w51.cell? ⟨gb238, 1, none⟩ = some (.int .i64 a2_1) := (kI BK238.out 1).trans rfl
                  have hfz69_0 := kG BK238.out 0
                  have hfz69_1 := kG BK238.out 1
                  go_wp2
                  go_meet
                  case rel => exact ⟨_, (true), (by first | rfl | (simp; done) | (simp [*]; done)), H', ⟨by have := HJ3.out; first | omega | exact Nat.le_refl _⟩, ⟨by (with_reducible repeat (first | refine kE ?_ _ | refine kH ?_ | refine kF ?_ _)); exact BK236.out⟩, ⟨by (with_reducible repeat (first | refine kE ?_ _ | refine kH ?_ | refine kF ?_ _)); exact BK237.out⟩, ⟨by (with_reducible repeat (first | refine kE ?_ _ | refine kH ?_ | refine kF ?_ _)); exact BK238.out⟩, ⟨by (with_reducible repeat (first | refine kE ?_ _ | refine kH ?_ | refine kF ?_ _)); exact BK239.out⟩, ⟨by repeat (first | (with_reducible first | exact HB.out | apply kB | apply kA | apply kC | refine kD ?_ GE236.out | refine kD ?_ GE237.out | refine kD ?_ GE238.out | refine kD ?_ GE239.out) | exact HB.out)⟩⟩
              · rw [if_neg c54] at H
                have c54b0 : (a2_0 == 0) = false := beq_eq_false_iff_ne.mpr c54
                have c54b1 : (a2_0 != 0) = true := bne_iff_ne.mpr c54
                have H' := Aside0.mk H
                clear H
                have hnb70 := NB236_237.out
                have hnc70 := NB237_236.out
                have hnb71 := NB236_238.out
                have hnc71 := NB238_236.out
                have hnb72 := NB236_239.out
                have hnc72 := NB239_236.out
                have hcz73_0 : w51.cell? ⟨gb236, 0, none⟩ = some (.int .i64 a0_0) := (kI BK236.out 0).trans rfl
                have hcz73_1 : w51.cell? ⟨gb236, 1, none⟩ = some (.int .i64 a0_1) := (kI BK236.out 1).trans rfl
                have hcz73_2 : w51.cell? ⟨gb236, 2, none⟩ = some (.int .i64 a0_2) := (kI BK236.out 2).trans rfl
                have hcz73_3 : w51.cell? ⟨gb236, 3, none⟩ = some (.int .i64 a0_3) := (kI BK236.out 3).trans rfl
                have hfz73_0 := kG BK236.out 0
                have hfz73_1 := kG BK236.out 1
                have hfz73_2 := kG BK236.out 2
                have hfz73_3 := kG BK236.out 3
                have hnb74 := NB238_237.out
                have hnc74 := NB237_238.out
                have hnb75 := NB238_239.out
                have hnc75 := NB239_238.out
                have hcz76_0 : w51.cell? ⟨gb238, 0, none⟩ = some (.int .i64 a2_0) := (kI BK238.out 0).trans rfl
                have hcz76_1 : w51.cell? ⟨gb238, 1, none⟩ = some (.int .i64 a2_1) := (kI BK238.out 1).trans rfl
                have hfz76_0 := kG BK238.out 0
                have hfz76_1 := kG BK238.out 1
                go_wp2
                go_meet
                case rel => exact ⟨_, (true), (by first | rfl | (simp; done) | (simp [*]; done)), H', ⟨by have := HJ3.out; first | omega | exact Nat.le_refl _⟩, ⟨by (with_reducible repeat (first | refine kE ?_ _ | refine kH ?_ | refine kF ?_ _)); exact BK236.out⟩, ⟨by (with_reducible repeat (first | refine kE ?_ _ | refine kH ?_ | refine kF ?_ _)); exact BK237.out⟩, ⟨by (with_reducible repeat (first | refine kE ?_ _ | refine kH ?_ | refine kF ?_ _)); exact BK238.out⟩, ⟨by (with_reducible repeat (first | refine kE ?_ _ | refine kH ?_ | refine kF ?_ _)); exact BK239.out⟩, ⟨by repeat (first | (with_reducible first | exact HB.out | apply kB | apply kA | apply kC | refine kD ?_ GE236.out | refine kD ?_ GE237.out | refine kD ?_ GE238.out | refine kD ?_ GE239.out) | exact HB.out)⟩⟩
            · rw [if_neg c53] at H
              have c53b0 : (a0_0 == 0) = false := beq_eq_false_iff_ne.mpr c53
              have c53b1 : (a0_0 != 0) = true := bne_iff_ne.mpr c53
              have H' := Aside0.mk H
              clear H
              have hnb77 := NB236_237.out
              have hnc77 := NB237_236.out
              have hnb78 := NB236_238.out
              have hnc78 := NB238_236.out
              have hnb79 := NB236_239.out
              have hnc79 := NB239_236.out
              have hcz80_0 : w51.cell? ⟨gb236, 0, none⟩ = some (.int .i64 a0_0) := (kI BK236.out 0).trans rfl
              have hcz80_1 : w51.cell? ⟨gb236, 1, none⟩ = some (.int .i64 a0_1) := (kI BK236.out 1).trans rfl
              have hcz80_2 : w51.cell? ⟨gb236, 2, none⟩ = some (.int .i64 a0_2) := (kI BK236.out 2).trans rfl
              have hcz80_3 : w51.cell? ⟨gb236, 3, none⟩ = some (.int .i64 a0_3) := (kI BK236.out 3).trans rfl
              have hfz80_0 := kG BK236.out 0
              have hfz80_1 := kG BK236.out 1
              have hfz80_2 := kG BK236.out 2
              have hfz80_3 := kG BK236.out 3
              go_wp2
              go_meet
              case rel => exact ⟨_, (true), (by first | rfl | (simp; done) | (simp [*]; done)), H', ⟨by have := HJ3.out; first | omega | exact Nat.le_refl _⟩, ⟨by (with_reducible repeat (first | refine kE ?_ _ | refine kH ?_ | refine kF ?_ _)); exact BK236.out⟩, ⟨by (with_reducible repeat (first | refine kE ?_ _ | refine kH ?_ | refine kF ?_ _)); exact BK237.out⟩, ⟨by (with_reducible repeat (first | refine kE ?_ _ | refine kH ?_ | refine kF ?_ _)); exact BK238.out⟩, ⟨by (with_reducible repeat (first | refine kE ?_ _ | refine kH ?_ | refine kF ?_ _)); exact BK239.out⟩, ⟨by repeat (first | (with_reducible first | exact HB.out | apply kB | apply kA | apply kC | refine kD ?_ GE236.out | refine kD ?_ GE237.out | refine kD ?_ GE238.out | refine kD ?_ GE239.out) | exact HB.out)⟩⟩
          · rw [if_neg c52] at H
            have c52b0 : (a0_1 == 0) = false := beq_eq_false_iff_ne.mpr c52
            have c52b1 : (a0_1 != 0) = true := bne_iff_ne.mpr c52
            (first | rw [c52b0] | (simp only [i64_w, i32_w]; rw [c52b0]) | skip)
            have H' := Aside0.mk H
            clear H
            have hnb81 := NB236_237.out
            have hnc81 := NB237_236.out
            have hnb82 := NB236_238.out
            have hnc82 := NB238_236.out
            have hnb83 := NB236_239.out
            have hnc83 := NB239_236.out
            have hcz84_0 : w51.cell? ⟨gb236, 0, none⟩ = some (.int .i64 a0_0) := (kI BK236.out 0).trans rfl
            have hcz84_1 : w51.cell? ⟨gb236, 1, none⟩ = some (.int .i64 a0_1) := (kI BK236.out 1).trans rfl
            have hcz84_2 : w51.cell? ⟨gb236, 2, none⟩ = some (.int .i64 a0_2) := (kI BK236.out 2).trans rfl
            have hcz84_3 : w51.cell? ⟨gb236, 3, none⟩ = some (.int .i64 a0_3) := (kI BK236.out 3).trans rfl
            have hfz84_0 := kG BK236.out 0
            have hfz84_1 := kG BK236.out 1
            have hfz84_2 := kG BK236.out 2
            have hfz84_3 := kG BK236.out 3
            go_wp2
            go_meet
            case rel => exact ⟨_, (true), (by first | rfl | (simp; done) | (simp [*]; done)), H', ⟨by have := HJ3.out; first | omega | exact Nat.le_refl _⟩, ⟨by (with_reducible repeat (first | refine kE ?_ _ | refine kH ?_ | refine kF ?_ _)); exact BK236.out⟩, ⟨by (with_reducible repeat (first | refine kE ?_ _ | refine kH ?_ | refine kF ?_ _)); exact BK237.out⟩, ⟨by (with_reducible repeat (first | refine kE ?_ _ | refine kH ?_ | refine kF ?_ _)); exact BK238.out⟩, ⟨by (with_reducible repeat (first | refine kE ?_ _ | refine kH ?_ | refine kF ?_ _)); exact BK239.out⟩, ⟨by repeat (first | (with_reducible first | exact HB.out | apply kB | apply kA | apply kC | refine kD ?_ GE236.out | refine kD ?_ GE237.out | refine kD ?_ GE238.out | refine kD ?_ GE239.out) | exact HB.out)⟩⟩
        case rest =>
          clear HC46
          try clear c1
          try clear c2
          try clear p2
          try clear c3
          try clear c4
          try clear c5
          try clear c6
          try clear c7
          try clear c8
          try clear c10
          try clear c12
          try clear c14
          try clear c15
          try clear c16
          try clear c19
          try clear c20
          try clear c23
          try clear c26
          try clear c27
          try clear c28
          try clear c31
          try clear c32
          try clear c35
          try clear c36
          try clear c37
          try clear c40
          try clear c41
          try clear c42
          try clear c43
          try clear c45
          try clear c47
          try clear c48
          try clear c49
          try clear c52
          try clear c52b0
          try clear c52b1
          try clear c53
          try clear c53b0
          try clear c53b1
          try clear c54
          try clear c54b0
          try clear c54b1
          try clear c55
          try clear c55b0
          try clear c55b1
          try clear c56
          try clear c57
          try clear c58
          try clear c60
          try clear c61
          try clear c63
          try clear c64
          try clear c65
          try clear c67
          try clear c68
          try clear c70
          try clear c71
          try clear c72
          try clear c74
          try clear c75
          try clear c77
          try clear c78
          try clear c79
          try clear c81
          try clear c82
          try clear c83
          try clear hcz17_0
          try clear hcz17_1
          try clear hcz17_2
          try clear hcz17_3
          try clear hcz21_0
          try clear hcz21_1
          try clear hcz24_0
          try clear hcz24_1
          try clear hcz29_0
          try clear hcz29_1
          try clear hcz29_2
          try clear hcz29_3
          try clear hcz33_0
          try clear hcz33_1
          try clear hcz38_0
          try clear hcz38_1
          try clear hcz38_2
          try clear hcz38_3
          try clear hcz44_0
          try clear hcz44_1
          try clear hcz50_0
          try clear hcz50_1
          try clear hcz50_2
          try clear hcz50_3
          try clear hcz59_0
          try clear hcz59_1
          try clear hcz59_2
          try clear hcz59_3
          try clear hcz62_0
          try clear hcz62_1
          try clear hcz66_0
          try clear hcz66_1
          try clear hcz66_2
          try clear hcz66_3
          try clear hcz69_0
          try clear hcz69_1
          try clear hcz73_0
          try clear hcz73_1
          try clear hcz73_2
          try clear hcz73_3
          try clear hcz76_0
          try clear hcz76_1
          try clear hcz80_0
          try clear hcz80_1
          try clear hcz80_2
          try clear hcz80_3
          try clear hcz84_0
          try clear hcz84_1
          try clear hcz84_2
          try clear hcz84_3
          try clear hfz17_0
          try clear hfz17_1
          try clear hfz17_2
          try clear hfz17_3
          try clear hfz21_0
          try clear hfz21_1
          try clear hfz24_0
          try clear hfz24_1
          try clear hfz29_0
          try clear hfz29_1
          try clear hfz29_2
          try clear hfz29_3
          try clear hfz33_0
          try clear hfz33_1
          try clear hfz38_0
          try clear hfz38_1
          try clear hfz38_2
          try clear hfz38_3
          try clear hfz44_0
          try clear hfz44_1
          try clear hfz50_0
          try clear hfz50_1
          try clear hfz50_2
          try clear hfz50_3
          try clear hfz59_0
          try clear hfz59_1
          try clear hfz59_2
          try clear hfz59_3
          try clear hfz62_0
          try clear hfz62_1
          try clear hfz66_0
          try clear hfz66_1
          try clear hfz66_2
          try clear hfz66_3
          try clear hfz69_0
          try clear hfz69_1
          try clear hfz73_0
          try clear hfz73_1
          try clear hfz73_2
          try clear hfz73_3
          try clear hfz76_0
          try clear hfz76_1
          try clear hfz80_0
          try clear hfz80_1
          try clear hfz80_2
          try clear hfz80_3
          try clear hfz84_0
          try clear hfz84_1
          try clear hfz84_2
          try clear hfz84_3
          try clear p2
          obtain ⟨kq, x38_45, rfl, HA, HJ45, BK236, BK237, BK238, BK239, HB⟩ := hcut
          cases kq with
          | zero => exact absurd HA.out (by simp [ops_Bin.j1])
          | succ kj45 =>
            have H := HA.out
            clear HA
            simp only [ops_Bin.j1] at H
            by_cases c85 : x38_45 = true
            · subst c85
              have H1 : (some (0, 0, 10)) = some (r1, r2, r3) := by rw [if_pos rfl] at H; exact H
              clear H
              have H := H1
              clear H1
              simp only [Option.some.injEq, Prod.mk.injEq] at H
              obtain ⟨rfl, rfl, rfl⟩ := H
              have hnb86 := NB239_236.out
              have hnc86 := NB236_239.out
              have hnb87 := NB239_237.out
              have hnc87 := NB237_239.out
              have hnb88 := NB239_238.out
              have hnc88 := NB238_239.out
              have hcz89_0 : wc.cell? ⟨gb239, 0, none⟩ = some (.int .i64 0) := (kI BK239.out 0).trans rfl
              have hcz89_1 : wc.cell? ⟨gb239, 1, none⟩ = some (.int .i64 0) := (kI BK239.out 1).trans rfl
              have hfz89_0 := kG BK239.out 0
              have hfz89_1 := kG BK239.out 1
              go_wp2
              refine bodyPost_ret (results_ct rfl _ _ gb239 23 #[.int .i64 0, .int .i64 0] (0, 0) _ rfl (by (with_reducible repeat (first | refine kE ?_ _ | refine kH ?_ | refine kF ?_ _)); refine blk_put (cs := #[.int .i64 0, .int .i64 0]) ?_ 1 _ rfl; (with_reducible repeat (first | refine kE ?_ _ | refine kH ?_ | refine kF ?_ _)); refine blk_put (cs := #[.int .i64 0, .int .i64 0]) ?_ 0 _ rfl; (with_reducible repeat (first | refine kE ?_ _ | refine kH ?_ | refine kF ?_ _)); exact BK239.out) Tryz.underlying23 rfl (by kernel_rfl)) rfl ?_
              exact ⟨by first | rfl | (simp [errW_none, errW_some] <;> rfl) | (simp [*, errW_none, errW_some] <;> rfl), by repeat (first | (with_reducible first | exact HB.out | apply kB | apply kA | apply kC | refine kD ?_ GE236.out | refine kD ?_ GE237.out | refine kD ?_ GE238.out | refine kD ?_ GE239.out) | exact HB.out)⟩
            · replace c85 := Bool.eq_false_iff.mpr c85
              subst c85
              have H1 : (if t243 = 0 then (some (0, 0, 11)) else (if a1_0 = 0 then ((num_Sub.f a1_1 a2_1).bind fun bt245 => ((num_Mod.f bt245.1 t243).bind fun bt247 => ((num_Sub.f a1_1 bt247.1).bind fun bt249 => ((ops_made.f kj45 bt249.1 (([bt245.2, bt247.2, bt249.2] : List Int))).bind fun bt254 => (some (bt254.1, bt254.2.1, bt254.2.2)))))) else (some (a1_0, a1_1, 0)))) = some (r1, r2, r3) := by rw [if_neg (show ¬ (false = true) by decide)] at H; exact H
              clear H
              have H := H1
              clear H1
              by_cases c90 : t243 = 0
              · rw [if_pos c90] at H
                have c90b0 : (t243 == 0) = true := beq_iff_eq.mpr c90
                have c90b1 : (t243 != 0) = false := bne_eq_false_iff_eq.mpr c90
                clear c90
                simp only [Option.some.injEq, Prod.mk.injEq] at H
                obtain ⟨rfl, rfl, rfl⟩ := H
                have hnb91 := NB239_236.out
                have hnc91 := NB236_239.out
                have hnb92 := NB239_237.out
                have hnc92 := NB237_239.out
                have hnb93 := NB239_238.out
                have hnc93 := NB238_239.out
                have hcz94_0 : wc.cell? ⟨gb239, 0, none⟩ = some (.int .i64 0) := (kI BK239.out 0).trans rfl
                have hcz94_1 : wc.cell? ⟨gb239, 1, none⟩ = some (.int .i64 0) := (kI BK239.out 1).trans rfl
                have hfz94_0 := kG BK239.out 0
                have hfz94_1 := kG BK239.out 1
                go_wp2
                refine bodyPost_ret (results_ct rfl _ _ gb239 23 #[.int .i64 0, .int .i64 0] (0, 0) _ rfl (by (with_reducible repeat (first | refine kE ?_ _ | refine kH ?_ | refine kF ?_ _)); refine blk_put (cs := #[.int .i64 0, .int .i64 0]) ?_ 1 _ rfl; (with_reducible repeat (first | refine kE ?_ _ | refine kH ?_ | refine kF ?_ _)); refine blk_put (cs := #[.int .i64 0, .int .i64 0]) ?_ 0 _ rfl; (with_reducible repeat (first | refine kE ?_ _ | refine kH ?_ | refine kF ?_ _)); exact BK239.out) Tryz.underlying23 rfl (by kernel_rfl)) rfl ?_
                exact ⟨by first | rfl | (simp [errW_none, errW_some] <;> rfl) | (simp [*, errW_none, errW_some] <;> rfl), by repeat (first | (with_reducible first | exact HB.out | apply kB | apply kA | apply kC | refine kD ?_ GE236.out | refine kD ?_ GE237.out | refine kD ?_ GE238.out | refine kD ?_ GE239.out) | exact HB.out)⟩
              · rw [if_neg c90] at H
                have c90b0 : (t243 == 0) = false := beq_eq_false_iff_ne.mpr c90
                have c90b1 : (t243 != 0) = true := bne_iff_ne.mpr c90
                by_cases c95 : a1_0 = 0
                · rw [if_pos c95] at H
                  have c95b0 : (a1_0 == 0) = true := beq_iff_eq.mpr c95
                  have c95b1 : (a1_0 != 0) = false := bne_eq_false_iff_eq.mpr c95
                  clear c95
                  replace H := Option.bind_eq_some_iff.mp H
                  obtain ⟨⟨t245, t246⟩, A960, H⟩ := H
                  replace H : ((num_Mod.f t245 t243).bind fun bt247 => ((num_Sub.f a1_1 bt247.1).bind fun bt249 => ((ops_made.f kj45 bt249.1 (([t246, bt247.2, bt249.2] : List Int))).bind fun bt254 => (some (bt254.1, bt254.2.1, bt254.2.2))))) = some (r1, r2, r3) := H
                  have A96 := Aside0.mk A960
                  clear A960
                  replace H := Option.bind_eq_some_iff.mp H
                  obtain ⟨⟨t247, t248⟩, A970, H⟩ := H
                  replace H : ((num_Sub.f a1_1 t247).bind fun bt249 => ((ops_made.f kj45 bt249.1 (([t246, t248, bt249.2] : List Int))).bind fun bt254 => (some (bt254.1, bt254.2.1, bt254.2.2)))) = some (r1, r2, r3) := H
                  have A97 := Aside0.mk A970
                  clear A970
                  replace H := Option.bind_eq_some_iff.mp H
                  obtain ⟨⟨t249, t250⟩, A980, H⟩ := H
                  replace H : ((ops_made.f kj45 t249 (([t246, t248, t250] : List Int))).bind fun bt254 => (some (bt254.1, bt254.2.1, bt254.2.2))) = some (r1, r2, r3) := H
                  have A98 := Aside0.mk A980
                  clear A980
                  obtain ⟨y251, hy251⟩ : ∃ y_ : List Int, y_ = (([t246, t248, t250] : List Int)) := ⟨_, rfl⟩
                  replace H : ((ops_made.f kj45 t249 y251).bind fun bt254 => (some (bt254.1, bt254.2.1, bt254.2.2))) = some (r1, r2, r3) := by first | (rw [hy251]; with_reducible exact H) | (have H2_ := (Option.bind_some _ _).symm.trans H; rw [hy251]; with_reducible exact H2_) | (have H2_ := (Option.bind_some _ _).symm.trans H; with_reducible exact H2_) | with_reducible exact H | (rw [hy251]; exact H) | exact H
                  have Ny251 := Aside0.mk hy251
                  clear hy251
                  replace H := Option.bind_eq_some_iff.mp H
                  obtain ⟨⟨t254, t255, t256⟩, A990, H⟩ := H
                  replace H : (some (t254, t255, t256)) = some (r1, r2, r3) := H
                  have A99 := Aside0.mk A990
                  clear A990
                  simp only [Option.some.injEq, Prod.mk.injEq] at H
                  obtain ⟨rfl, rfl, rfl⟩ := H
                  have hnb100 := NB237_236.out
                  have hnc100 := NB236_237.out
                  have hnb101 := NB237_238.out
                  have hnc101 := NB238_237.out
                  have hnb102 := NB237_239.out
                  have hnc102 := NB239_237.out
                  have hcz103_0 : wc.cell? ⟨gb237, 0, none⟩ = some (.int .i64 a1_0) := (kI BK237.out 0).trans rfl
                  have hcz103_1 : wc.cell? ⟨gb237, 1, none⟩ = some (.int .i64 a1_1) := (kI BK237.out 1).trans rfl
                  have hfz103_0 := kG BK237.out 0
                  have hfz103_1 := kG BK237.out 1
                  have hnb104 := NB238_236.out
                  have hnc104 := NB236_238.out
                  have hnb105 := NB238_239.out
                  have hnc105 := NB239_238.out
                  have hcz106_0 : wc.cell? ⟨gb238, 0, none⟩ = some (.int .i64 a2_0) := (kI BK238.out 0).trans rfl
                  have hcz106_1 : wc.cell? ⟨gb238, 1, none⟩ = some (.int .i64 a2_1) := (kI BK238.out 1).trans rfl
                  have hfz106_0 := kG BK238.out 0
                  have hfz106_1 := kG BK238.out 1
                  go_wp2_with (first | ((with_reducible refine kK (f := 46) rfl ?_); refine kN (some 75) rfl rfl Tryz.func46 (by kernel_rfl) rfl #[.int .i64 a1_1, .int .i64 a2_1] rfl (by (try simp only [List.map_toArray, List.map_cons, List.map_nil]); first | done | rfl | (simp only [List.length_drop, List.length_take]; rfl)) ?_; (with_reducible refine (num_Sub.calls a1_1 a2_1 t245 t246 _ A96.out).mono ?_); rintro e w' ⟨rfl, ⟨nd, rfl⟩⟩; refine ⟨_, rfl, ?_⟩; (try (rw [drewN_self wc]; generalize hq_ : World.drewN wc _ = wc; have n0_ : Aside0 (wc.heap[gb236]? = some (.cells #[.int .i64 a0_0, .int .i64 a0_1, .int .i64 a0_2, .int .i64 a0_3] 32 (0, 0))) := ⟨by rw [← hq_]; exact (by (with_reducible repeat (first | refine kE ?_ _ | refine kH ?_ | refine kF ?_ _)); exact BK236.out)⟩; have n1_ : Aside0 (wc.heap[gb237]? = some (.cells #[.int .i64 a1_0, .int .i64 a1_1] 23 (0, 0))) := ⟨by rw [← hq_]; exact (by (with_reducible repeat (first | refine kE ?_ _ | refine kH ?_ | refine kF ?_ _)); exact BK237.out)⟩; have n2_ : Aside0 (wc.heap[gb238]? = some (.cells #[.int .i64 a2_0, .int .i64 a2_1] 23 (0, 0))) := ⟨by rw [← hq_]; exact (by (with_reducible repeat (first | refine kE ?_ _ | refine kH ?_ | refine kF ?_ _)); exact BK238.out)⟩; have n3_ : Aside0 (wc.heap[gb239]? = some (.cells #[.int .i64 0, .int .i64 0] 23 (0, 0))) := ⟨by rw [← hq_]; exact (by (with_reducible repeat (first | refine kE ?_ _ | refine kH ?_ | refine kF ?_ _)); exact BK239.out)⟩; have n4_ : Aside0 (Below w.heap.size w wc) := ⟨by rw [← hq_]; exact (by repeat (first | (with_reducible first | exact HB.out | apply kB | apply kA | apply kC | refine kD ?_ GE236.out | refine kD ?_ GE237.out | refine kD ?_ GE238.out | refine kD ?_ GE239.out) | exact HB.out))⟩; clear BK236 BK237 BK238 BK239 HB hq_; have BK236 := n0_; have BK237 := n1_; have BK238 := n2_; have BK239 := n3_; have HB := n4_; clear n0_ n1_ n2_ n3_ n4_; (try have hcz94_0 : wc.cell? ⟨gb239, 0, none⟩ = some (.int .i64 0) := (kI BK239.out 0).trans rfl); (try have hcz94_1 : wc.cell? ⟨gb239, 1, none⟩ = some (.int .i64 0) := (kI BK239.out 1).trans rfl); (try have hcz50_0 : wc.cell? ⟨gb236, 0, none⟩ = some (.int .i64 a0_0) := (kI BK236.out 0).trans rfl); (try have hcz50_1 : wc.cell? ⟨gb236, 1, none⟩ = some (.int .i64 a0_1) := (kI BK236.out 1).trans rfl); (try have hcz50_2 : wc.cell? ⟨gb236, 2, none⟩ = some (.int .i64 a0_2) := (kI BK236.out 2).trans rfl); (try have hcz50_3 : wc.cell? ⟨gb236, 3, none⟩ = some (.int .i64 a0_3) := (kI BK236.out 3).trans rfl); (try have hcz103_0 : wc.cell? ⟨gb237, 0, none⟩ = some (.int .i64 a1_0) := (kI BK237.out 0).trans rfl); (try have hcz103_1 : wc.cell? ⟨gb237, 1, none⟩ = some (.int .i64 a1_1) := (kI BK237.out 1).trans rfl); (try have hcz106_0 : wc.cell? ⟨gb238, 0, none⟩ = some (.int .i64 a2_0) := (kI BK238.out 0).trans rfl); (try have hcz106_1 : wc.cell? ⟨gb238, 1, none⟩ = some (.int .i64 a2_1) := (kI BK238.out 1).trans rfl)))) | ((with_reducible refine kK (f := 47) rfl ?_); refine kN (some 81) rfl rfl Tryz.func47 (by kernel_rfl) rfl #[.int .i64 t245, .int .i64 t243] rfl (by (try simp only [List.map_toArray, List.map_cons, List.map_nil]); first | done | rfl | (simp only [List.length_drop, List.length_take]; rfl)) ?_; (with_reducible refine (num_Mod.calls t245 t243 t247 t248 _ A97.out).mono ?_); rintro e w' ⟨rfl, ⟨nd, rfl⟩⟩; refine ⟨_, rfl, ?_⟩; (try (rw [drewN_self wc]; generalize hq_ : World.drewN wc _ = wc; have n0_ : Aside0 (wc.heap[gb236]? = some (.cells #[.int .i64 a0_0, .int .i64 a0_1, .int .i64 a0_2, .int .i64 a0_3] 32 (0, 0))) := ⟨by rw [← hq_]; exact (by (with_reducible repeat (first | refine kE ?_ _ | refine kH ?_ | refine kF ?_ _)); exact BK236.out)⟩; have n1_ : Aside0 (wc.heap[gb237]? = some (.cells #[.int .i64 a1_0, .int .i64 a1_1] 23 (0, 0))) := ⟨by rw [← hq_]; exact (by (with_reducible repeat (first | refine kE ?_ _ | refine kH ?_ | refine kF ?_ _)); exact BK237.out)⟩; have n2_ : Aside0 (wc.heap[gb238]? = some (.cells #[.int .i64 a2_0, .int .i64 a2_1] 23 (0, 0))) := ⟨by rw [← hq_]; exact (by (with_reducible repeat (first | refine kE ?_ _ | refine kH ?_ | refine kF ?_ _)); exact BK238.out)⟩; have n3_ : Aside0 (wc.heap[gb239]? = some (.cells #[.int .i64 0, .int .i64 0] 23 (0, 0))) := ⟨by rw [← hq_]; exact (by (with_reducible repeat (first | refine kE ?_ _ | refine kH ?_ | refine kF ?_ _)); exact BK239.out)⟩; have n4_ : Aside0 (Below w.heap.size w wc) := ⟨by rw [← hq_]; exact (by repeat (first | (with_reducible first | exact HB.out | apply kB | apply kA | apply kC | refine kD ?_ GE236.out | refine kD ?_ GE237.out | refine kD ?_ GE238.out | refine kD ?_ GE239.out) | exact HB.out))⟩; clear BK236 BK237 BK238 BK239 HB hq_; have BK236 := n0_; have BK237 := n1_; have BK238 := n2_; have BK239 := n3_; have HB := n4_; clear n0_ n1_ n2_ n3_ n4_; (try have hcz94_0 : wc.cell? ⟨gb239, 0, none⟩ = some (.int .i64 0) := (kI BK239.out 0).trans rfl); (try have hcz94_1 : wc.cell? ⟨gb239, 1, none⟩ = some (.int .i64 0) := (kI BK239.out 1).trans rfl); (try have hcz50_0 : wc.cell? ⟨gb236, 0, none⟩ = some (.int .i64 a0_0) := (kI BK236.out 0).trans rfl); (try have hcz50_1 : wc.cell? ⟨gb236, 1, none⟩ = some (.int .i64 a0_1) := (kI BK236.out 1).trans rfl); (try have hcz50_2 : wc.cell? ⟨gb236, 2, none⟩ = some (.int .i64 a0_2) := (kI BK236.out 2).trans rfl); (try have hcz50_3 : wc.cell? ⟨gb236, 3, none⟩ = some (.int .i64 a0_3) := (kI BK236.out 3).trans rfl); (try have hcz103_0 : wc.cell? ⟨gb237, 0, none⟩ = some (.int .i64 a1_0) := (kI BK237.out 0).trans rfl); (try have hcz103_1 : wc.cell? ⟨gb237, 1, none⟩ = some (.int .i64 a1_1) := (kI BK237.out 1).trans rfl); (try have hcz106_0 : wc.cell? ⟨gb238, 0, none⟩ = some (.int .i64 a2_0) := (kI BK238.out 0).trans rfl); (try have hcz106_1 : wc.cell? ⟨gb238, 1, none⟩ = some (.int .i64 a2_1) := (kI BK238.out 1).trans rfl)))) | ((with_reducible refine kK (f := 46) rfl ?_); refine kN (some 88) rfl rfl Tryz.func46 (by kernel_rfl) rfl #[.int .i64 a1_1, .int .i64 t247] rfl (by (try simp only [List.map_toArray, List.map_cons, List.map_nil]); first | done | rfl | (simp only [List.length_drop, List.length_take]; rfl)) ?_; (with_reducible refine (num_Sub.calls a1_1 t247 t249 t250 _ A98.out).mono ?_); rintro e w' ⟨rfl, ⟨nd, rfl⟩⟩; refine ⟨_, rfl, ?_⟩; (try (rw [drewN_self wc]; generalize hq_ : World.drewN wc _ = wc; have n0_ : Aside0 (wc.heap[gb236]? = some (.cells #[.int .i64 a0_0, .int .i64 a0_1, .int .i64 a0_2, .int .i64 a0_3] 32 (0, 0))) := ⟨by rw [← hq_]; exact (by (with_reducible repeat (first | refine kE ?_ _ | refine kH ?_ | refine kF ?_ _)); exact BK236.out)⟩; have n1_ : Aside0 (wc.heap[gb237]? = some (.cells #[.int .i64 a1_0, .int .i64 a1_1] 23 (0, 0))) := ⟨by rw [← hq_]; exact (by (with_reducible repeat (first | refine kE ?_ _ | refine kH ?_ | refine kF ?_ _)); exact BK237.out)⟩; have n2_ : Aside0 (wc.heap[gb238]? = some (.cells #[.int .i64 a2_0, .int .i64 a2_1] 23 (0, 0))) := ⟨by rw [← hq_]; exact (by (with_reducible repeat (first | refine kE ?_ _ | refine kH ?_ | refine kF ?_ _)); exact BK238.out)⟩; have n3_ : Aside0 (wc.heap[gb239]? = some (.cells #[.int .i64 0, .int .i64 0] 23 (0, 0))) := ⟨by rw [← hq_]; exact (by (with_reducible repeat (first | refine kE ?_ _ | refine kH ?_ | refine kF ?_ _)); exact BK239.out)⟩; have n4_ : Aside0 (Below w.heap.size w wc) := ⟨by rw [← hq_]; exact (by repeat (first | (with_reducible first | exact HB.out | apply kB | apply kA | apply kC | refine kD ?_ GE236.out | refine kD ?_ GE237.out | refine kD ?_ GE238.out | refine kD ?_ GE239.out) | exact HB.out))⟩; clear BK236 BK237 BK238 BK239 HB hq_; have BK236 := n0_; have BK237 := n1_; have BK238 := n2_; have BK239 := n3_; have HB := n4_; clear n0_ n1_ n2_ n3_ n4_; (try have hcz94_0 : wc.cell? ⟨gb239, 0, none⟩ = some (.int .i64 0) := (kI BK239.out 0).trans rfl); (try have hcz94_1 : wc.cell? ⟨gb239, 1, none⟩ = some (.int .i64 0) := (kI BK239.out 1).trans rfl); (try have hcz50_0 : wc.cell? ⟨gb236, 0, none⟩ = some (.int .i64 a0_0) := (kI BK236.out 0).trans rfl); (try have hcz50_1 : wc.cell? ⟨gb236, 1, none⟩ = some (.int .i64 a0_1) := (kI BK236.out 1).trans rfl); (try have hcz50_2 : wc.cell? ⟨gb236, 2, none⟩ = some (.int .i64 a0_2) := (kI BK236.out 2).trans rfl); (try have hcz50_3 : wc.cell? ⟨gb236, 3, none⟩ = some (.int .i64 a0_3) := (kI BK236.out 3).trans rfl); (try have hcz103_0 : wc.cell? ⟨gb237, 0, none⟩ = some (.int .i64 a1_0) := (kI BK237.out 0).trans rfl); (try have hcz103_1 : wc.cell? ⟨gb237, 1, none⟩ = some (.int .i64 a1_1) := (kI BK237.out 1).trans rfl); (try have hcz106_0 : wc.cell? ⟨gb238, 0, none⟩ = some (.int .i64 a2_0) := (kI BK238.out 0).trans rfl); (try have hcz106_1 : wc.cell? ⟨gb238, 1, none⟩ = some (.int .i64 a2_1) := (kI BK238.out 1).trans rfl)))) | ((with_reducible refine gate_dst (N := 95) rfl ?_); refine Kd.R_lit (Kd.int .i64) _ 24 ?hg (N := 95) ?hd (xs := ([t246, t248, t250] : List Int)) (inner := [.int .i64 t246, .int .i64 t248, .int .i64 t250]) (ok := fun _ => True) (okp := fun _ => True) ?hr ?hp (fun _ hk => hk) trivial (Below.refl _ _) (Nat.le_refl _) (by simp) ?_; (case hd => rfl); (case hg => rfl); (case hr => first | (go_simp; done) | (go_simp; rfl)); (case hp => exact (Reps.one (show Kd.M (Kd.int .i64) _ _ _ t246 [.int .i64 t246] from rfl) (Reps.one (show Kd.M (Kd.int .i64) _ _ _ t248 [.int .i64 t248] from rfl) (Reps.one (show Kd.M (Kd.int .i64) _ _ _ t250 [.int .i64 t250] from rfl) (Reps.none _ _))))); intro v252 w107 ho108 hb hg_ hnew_; clear hg_ hnew_; (first | rw [← Ny251.out] at ho108 | (simp only [Int.reduceToNat] at ho108; rw [← Ny251.out] at ho108)); have n0_ := Aside0.mk (Kd.R_lower ho108 (kL (by repeat (first | (with_reducible first | exact HB.out | apply kB | apply kA | apply kC | refine kD ?_ GE236.out | refine kD ?_ GE237.out | refine kD ?_ GE238.out | refine kD ?_ GE239.out) | exact HB.out)))); have n1_ := Aside0.mk (kM (g := gb236) (o := .cells #[.int .i64 a0_0, .int .i64 a0_1, .int .i64 a0_2, .int .i64 a0_3] 32 (0, 0)) (by (with_reducible repeat (first | refine kE ?_ _ | refine kH ?_ | refine kF ?_ _)); exact BK236.out) hb); have n2_ := Aside0.mk (kM (g := gb237) (o := .cells #[.int .i64 a1_0, .int .i64 a1_1] 23 (0, 0)) (by (with_reducible repeat (first | refine kE ?_ _ | refine kH ?_ | refine kF ?_ _)); exact BK237.out) hb); have n3_ := Aside0.mk (kM (g := gb238) (o := .cells #[.int .i64 a2_0, .int .i64 a2_1] 23 (0, 0)) (by (with_reducible repeat (first | refine kE ?_ _ | refine kH ?_ | refine kF ?_ _)); exact BK238.out) hb); have n4_ := Aside0.mk (kM (g := gb239) (o := .cells #[.int .i64 0, .int .i64 0] 23 (0, 0)) (by (with_reducible repeat (first | refine kE ?_ _ | refine kH ?_ | refine kF ?_ _)); exact BK239.out) hb); have n5_ := Aside0.mk (kJ (by repeat (first | (with_reducible first | exact HB.out | apply kB | apply kA | apply kC | refine kD ?_ GE236.out | refine kD ?_ GE237.out | refine kD ?_ GE238.out | refine kD ?_ GE239.out) | exact HB.out)) hb); clear BK236; clear BK237; clear BK238; clear BK239; clear HB; have HO253 := n0_; have BK236 := n1_; have BK237 := n2_; have BK238 := n3_; have BK239 := n4_; have HB := n5_; clear n0_ n1_ n2_ n3_ n4_ n5_; clear hb ho108; obtain ⟨Ao109, co109, eo109⟩ := Kd.R_slice HO253.out; subst eo109) | ((with_reducible refine kK (f := 33) rfl ?_); refine kN (some 96) rfl rfl Tryz.func33 (by kernel_rfl) rfl #[.int .i64 t249, .slice Ao109 y251.length co109] rfl (by (try simp only [List.map_toArray, List.map_cons, List.map_nil]); first | done | rfl | (simp only [List.length_drop, List.length_take]; rfl)) ?_; (with_reducible refine (ops_made.calls kj45 t249 (fun k_ => some k_ = (.slice Ao109 y251.length co109 : Value).ownBlock) (.slice Ao109 y251.length co109) y251 t254 t255 t256 w _ ?side1 ?side2 A99.out).mono ?_); (case side1 => repeat (first | (with_reducible first | exact HB.out | apply kB | apply kA | apply kC | refine kD ?_ GE236.out | refine kD ?_ GE237.out | refine kD ?_ GE238.out | refine kD ?_ GE239.out) | exact HB.out)); (case side2 => exact Kd.R_tight rfl HO253.out); rintro e w110 ⟨rfl, hb, hkp⟩; refine ⟨_, rfl, ?_⟩; have n0_ := Aside0.mk (blk_kept (by (with_reducible repeat (first | refine kE ?_ _ | refine kH ?_ | refine kF ?_ _)); exact BK236.out) hkp (fun hs_ => (fun e_ => (Kd.R_ne HO253.out BK236.out (by decide)) e_) hs_)); have n1_ := Aside0.mk (blk_kept (by (with_reducible repeat (first | refine kE ?_ _ | refine kH ?_ | refine kF ?_ _)); exact BK237.out) hkp (fun hs_ => (fun e_ => (Kd.R_ne HO253.out BK237.out (by decide)) e_) hs_)); have n2_ := Aside0.mk (blk_kept (by (with_reducible repeat (first | refine kE ?_ _ | refine kH ?_ | refine kF ?_ _)); exact BK238.out) hkp (fun hs_ => (fun e_ => (Kd.R_ne HO253.out BK238.out (by decide)) e_) hs_)); have n3_ := Aside0.mk (blk_kept (by (with_reducible repeat (first | refine kE ?_ _ | refine kH ?_ | refine kF ?_ _)); exact BK239.out) hkp (fun hs_ => (fun e_ => (Kd.R_ne HO253.out BK239.out (by decide)) e_) hs_)); have n4_ := Aside0.mk (hb); clear BK236; clear BK237; clear BK238; clear BK239; clear HB; clear HO253; have BK236 := n0_; have BK237 := n1_; have BK238 := n2_; have BK239 := n3_; have HB := n4_; clear n0_ n1_ n2_ n3_ n4_; (try clear hb); (try clear hkp); have hnb111 := NB239_236.out; have hnc111 := NB236_239.out; have hcz112_0 : w110.cell? ⟨gb239, 0, none⟩ = some (.int .i64 0) := (kI BK239.out 0).trans rfl; have hcz112_1 : w110.cell? ⟨gb239, 1, none⟩ = some (.int .i64 0) := (kI BK239.out 1).trans rfl; have hfz112_0 := kG BK239.out 0; have hfz112_1 := kG BK239.out 1))
                  refine bodyPost_ret (results_ct rfl _ _ gb239 23 #[.int .i64 t254, .int .i64 t255] (0, 0) _ rfl (by (with_reducible repeat (first | refine kE ?_ _ | refine kH ?_ | refine kF ?_ _)); refine blk_put (cs := #[.int .i64 t254, .int .i64 0]) ?_ 1 _ rfl; (with_reducible repeat (first | refine kE ?_ _ | refine kH ?_ | refine kF ?_ _)); refine blk_put (cs := #[.int .i64 0, .int .i64 0]) ?_ 0 _ rfl; (with_reducible repeat (first | refine kE ?_ _ | refine kH ?_ | refine kF ?_ _)); exact BK239.out) Tryz.underlying23 rfl (by kernel_rfl)) rfl ?_
                  exact ⟨by first | rfl | (simp [errW_none, errW_some] <;> rfl) | (simp [*, errW_none, errW_some] <;> rfl), by repeat (first | (with_reducible first | exact HB.out | apply kB | apply kA | apply kC | refine kD ?_ GE236.out | refine kD ?_ GE237.out | refine kD ?_ GE238.out | refine kD ?_ GE239.out) | exact HB.out)⟩
                · rw [if_neg c95] at H
                  have c95b0 : (a1_0 == 0) = false := beq_eq_false_iff_ne.mpr c95
                  have c95b1 : (a1_0 != 0) = true := bne_iff_ne.mpr c95
                  simp only [Option.some.injEq, Prod.mk.injEq] at H
                  obtain ⟨rfl, rfl, rfl⟩ := H
                  have hnb113 := NB237_236.out
                  have hnc113 := NB236_237.out
                  have hnb114 := NB237_238.out
                  have hnc114 := NB238_237.out
                  have hnb115 := NB237_239.out
                  have hnc115 := NB239_237.out
                  have hcz116_0 : wc.cell? ⟨gb237, 0, none⟩ = some (.int .i64 a1_0) := (kI BK237.out 0).trans rfl
                  have hcz116_1 : wc.cell? ⟨gb237, 1, none⟩ = some (.int .i64 a1_1) := (kI BK237.out 1).trans rfl
                  have hfz116_0 := kG BK237.out 0
                  have hfz116_1 := kG BK237.out 1
                  have hnb117 := NB239_236.out
                  have hnc117 := NB236_239.out
                  have hnb118 := NB239_238.out
                  have hnc118 := NB238_239.out
                  have hcz119_0 : wc.cell? ⟨gb239, 0, none⟩ = some (.int .i64 0) := (kI BK239.out 0).trans rfl
                  have hcz119_1 : wc.cell? ⟨gb239, 1, none⟩ = some (.int .i64 0) := (kI BK239.out 1).trans rfl
                  have hfz119_0 := kG BK239.out 0
                  have hfz119_1 := kG BK239.out 1
                  go_wp2
                  refine bodyPost_ret (results_ct rfl _ _ gb239 23 #[.int .i64 a1_0, .int .i64 a1_1] (0, 0) _ rfl (by (with_reducible repeat (first | refine kE ?_ _ | refine kH ?_ | refine kF ?_ _)); refine blk_put (cs := #[.int .i64 a1_0, .int .i64 0]) ?_ 1 _ rfl; (with_reducible repeat (first | refine kE ?_ _ | refine kH ?_ | refine kF ?_ _)); refine blk_put (cs := #[.int .i64 0, .int .i64 0]) ?_ 0 _ rfl; (with_reducible repeat (first | refine kE ?_ _ | refine kH ?_ | refine kF ?_ _)); exact BK239.out) Tryz.underlying23 rfl (by kernel_rfl)) rfl ?_
                  exact ⟨by first | rfl | (simp [errW_none, errW_some] <;> rfl) | (simp [*, errW_none, errW_some] <;> rfl), by repeat (first | (with_reducible first | exact HB.out | apply kB | apply kA | apply kC | refine kD ?_ GE236.out | refine kD ?_ GE237.out | refine kD ?_ GE238.out | refine kD ?_ GE239.out) | exact HB.out)⟩
end Go.Proofs.YthkmckmfgglafaaGreat.P
namespace Go.Proofs.YthkmckmfgglafaaGreat.P
open Go.RowKit Go.Proofs.YthkmckmfgglafaaGreatW.PrintWords Go.Proofs.YthkmckmfgglafaaGreatW.PrintLast Go.Proofs.YthkmckmfgglafaaGreatW.PrintMore
attribute [local go_sem] max2_int min2_int max_two min_two max_three min_three max_four min_four   -- for this text's walks alone
set_option linter.unusedVariables false
set_option linter.unusedSimpArgs false
def computuslaw20_known.f : Option (Bool) := some true
theorem computuslaw20_known.calls (r : Bool) (w : World) (h : computuslaw20_known.f = some r) (hR : r = true) :
    Calls Tryz.prog 10 #[] w fun e w' => e = .returned (.bool r) ∧ Below w.heap.size w w' := by
  cases h
  exact A.known_calls w
end Go.Proofs.YthkmckmfgglafaaGreat.P
