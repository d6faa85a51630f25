-- Written by a program of the session (a print of the seat's translation, functions given by hand among it). Lean checks it.
import Derived.Test.YtfpclhkieccojaaQeafcmfchom
import Derived.Test.YtfpclhkieccojaaQhndhnmlajo
import Derived.Test.YtfpclhkieccojaaQcjdphadijg
import Derived.Test.YtfpclhkieccojaaQlgoghoapfb
import Derived.Test.YtfpclhkieccojaaQadolnfklhk
namespace Go.Proofs.Ytfpclhkieccojaa.P
open Go.RowKit Go.Proofs.YtfpclhkieccojaaW.PrintWords Go.Proofs.YtfpclhkieccojaaW.PrintLast Go.Proofs.YtfpclhkieccojaaW.PrintMore
attribute [local go_sem] max2_int min2_int max_two min_two max_three min_three max_four min_four   -- for this text's walks alone
set_option linter.unusedVariables false
set_option linter.unusedSimpArgs false
attribute [local go_sem high] eqA23
mutual
def computuslaw16_SpanBack.j0 : Nat → Int → Bool → Int → Int → Int → Int → Int → Int → Int → Int → Int → Int → Int → Int → Option (Bool)
  | 0, _, _, _, _, _, _, _, _, _, _, _, _, _, _ => none
  | k + 1, x6, x30, x630000, x630001, x630002, x630003, x631000, x631001, x631002, x631003, x637000, x637001, x637002, x637003 => if x30 = true then (some false) else (if x6 = 0 then (if x630000 = 0 then (computuslaw16_SpanBack.j1 k (x631000 != 0) x630000 x630001 x630002 x630003 x631000 x631001 x631002 x631003 x637000 x637001 x637002 x637003) else (computuslaw16_SpanBack.j1 k true x630000 x630001 x630002 x630003 x631000 x631001 x631002 x631003 x637000 x637001 x637002 x637003)) else (computuslaw16_SpanBack.j1 k true x630000 x630001 x630002 x630003 x631000 x631001 x631002 x631003 x637000 x637001 x637002 x637003))
def computuslaw16_SpanBack.j1 : Nat → Bool → Int → Int → Int → Int → Int → Int → Int → Int → Int → Int → Int → Int → Option (Bool)
  | 0, _, _, _, _, _, _, _, _, _, _, _, _, _ => none
  | k + 1, x42, x630000, x630001, x630002, x630003, x631000, x631001, x631002, x631003, x637000, x637001, x637002, x637003 => if x42 = true then ((computuslaw16_known.f k).bind fun t643 => (some t643)) else ((span_Sub.f k x637000 x637001 x637002 x637003 x631000 x631001 x631002 x631003).bind fun bt644 => (if (bt644.1 == x630000 && (bt644.2.1 == x630001 && (bt644.2.2.1 == x630002 && (bt644.2.2.2.1 == x630003)))) = true then (if bt644.2.2.2.2 = 0 then ((computuslaw16_known.f k).bind fun t650 => (some t650)) else (some false)) else (some false)))
end
def computuslaw16_SpanBack.f (k : Nat) (a0_0 : Int) (a0_1 : Int) (a0_2 : Int) (a0_3 : Int) (a1_0 : Int) (a1_1 : Int) (a1_2 : Int) (a1_3 : Int) : Option (Bool) := (span_Add.f k a0_0 a0_1 a0_2 a0_3 a1_0 a1_1 a1_2 a1_3).bind fun bt631 => ((span_Add.f k a1_0 a1_1 a1_2 a1_3 a0_0 a0_1 a0_2 a0_3).bind fun bt637 => (if (!(bt631.1 == bt637.1) || (!(bt631.2.1 == bt637.2.1) || (!(bt631.2.2.1 == bt637.2.2.1) || (!(bt631.2.2.2.1 == bt637.2.2.2.1))))) = true then (computuslaw16_SpanBack.j0 k bt631.2.2.2.2 true a0_0 a0_1 a0_2 a0_3 a1_0 a1_1 a1_2 a1_3 bt631.1 bt631.2.1 bt631.2.2.1 bt631.2.2.2.1) else (computuslaw16_SpanBack.j0 k bt631.2.2.2.2 (bt631.2.2.2.2 != bt637.2.2.2.2) a0_0 a0_1 a0_2 a0_3 a1_0 a1_1 a1_2 a1_3 bt631.1 bt631.2.1 bt631.2.2.1 bt631.2.2.2.1)))
set_option maxHeartbeats 8000000 in
set_option maxRecDepth 100000 in
theorem computuslaw16_SpanBack.calls (k : Nat) (a0_0 : Int) (a0_1 : Int) (a0_2 : Int) (a0_3 : Int) (a1_0 : Int) (a1_1 : Int) (a1_2 : Int) (a1_3 : Int) (r : Bool) (w : World) (h : computuslaw16_SpanBack.f k a0_0 a0_1 a0_2 a0_3 a1_0 a1_1 a1_2 a1_3 = some r) (hR : r = true) :
    Calls Try.prog 7 #[.agg #[.int .i64 a0_0, .int .i64 a0_1, .int .i64 a0_2, .int .i64 a0_3], .agg #[.int .i64 a1_0, .int .i64 a1_1, .int .i64 a1_2, .int .i64 a1_3]] w fun e w' => e = .returned (.bool r) ∧ Below w.heap.size w w' := by
  have HRT := Aside0.mk hR
  clear hR
  have hu23 := Try.underlying23
  have HB := Aside0.mk (Below.refl w.heap.size w)
  have H : ((span_Add.f k a0_0 a0_1 a0_2 a0_3 a1_0 a1_1 a1_2 a1_3).bind fun bt631 => ((span_Add.f k a1_0 a1_1 a1_2 a1_3 a0_0 a0_1 a0_2 a0_3).bind fun bt637 => (if (!(bt631.1 == bt637.1) || (!(bt631.2.1 == bt637.2.1) || (!(bt631.2.2.1 == bt637.2.2.1) || (!(bt631.2.2.2.1 == bt637.2.2.2.1))))) = true then (computuslaw16_SpanBack.j0 k bt631.2.2.2.2 true a0_0 a0_1 a0_2 a0_3 a1_0 a1_1 a1_2 a1_3 bt631.1 bt631.2.1 bt631.2.2.1 bt631.2.2.2.1) else (computuslaw16_SpanBack.j0 k bt631.2.2.2.2 (bt631.2.2.2.2 != bt637.2.2.2.2) a0_0 a0_1 a0_2 a0_3 a1_0 a1_1 a1_2 a1_3 bt631.1 bt631.2.1 bt631.2.2.1 bt631.2.2.2.1)))) = some r := h
  clear h
  replace H := Option.bind_eq_some_iff.mp H
  obtain ⟨⟨t631, t632, t633, t634, t635⟩, A30, H⟩ := H
  replace H : ((span_Add.f k a1_0 a1_1 a1_2 a1_3 a0_0 a0_1 a0_2 a0_3).bind fun bt637 => (if (!(t631 == bt637.1) || (!(t632 == bt637.2.1) || (!(t633 == bt637.2.2.1) || (!(t634 == bt637.2.2.2.1))))) = true then (computuslaw16_SpanBack.j0 k t635 true a0_0 a0_1 a0_2 a0_3 a1_0 a1_1 a1_2 a1_3 t631 t632 t633 t634) else (computuslaw16_SpanBack.j0 k t635 (t635 != bt637.2.2.2.2) a0_0 a0_1 a0_2 a0_3 a1_0 a1_1 a1_2 a1_3 t631 t632 t633 t634))) = some r := H
  have A3 := Aside0.mk A30
  clear A30
  replace H := Option.bind_eq_some_iff.mp H
  obtain ⟨⟨t637, t638, t639, t640, t641⟩, A40, H⟩ := H
  replace H : (if (!(t631 == t637) || (!(t632 == t638) || (!(t633 == t639) || (!(t634 == t640))))) = true then (computuslaw16_SpanBack.j0 k t635 true a0_0 a0_1 a0_2 a0_3 a1_0 a1_1 a1_2 a1_3 t631 t632 t633 t634) else (computuslaw16_SpanBack.j0 k t635 (t635 != t641) a0_0 a0_1 a0_2 a0_3 a1_0 a1_1 a1_2 a1_3 t631 t632 t633 t634)) = some r := H
  have A4 := Aside0.mk A40
  clear A40
  have HC5 := Aside0.mk H
  clear H
  go_enter Try.func7, Try.ntmps7
  go_upto_region 3 with (first | ((with_reducible refine gate_dst (N := 2) rfl ?_); refine box_event ?hg (N := 2) ?hd (cs := #[.int .i64 a0_0, .int .i64 a0_1, .int .i64 a0_2, .int .i64 a0_3]) (t := 23) ?hr ?_; (case hd => rfl); (case hg => rfl); (case hr => first | (go_simp; done) | (go_simp; rfl)); intro gb629 hg w6 hbox hb; have n0_ := Aside0.mk (below_step (by repeat (first | (with_reducible first | exact HB.out | apply below_alloc | apply pw_below_drewN | apply below_drew1) | exact HB.out)) hb); have n1_ := Aside0.mk (hbox); have n2_ := Aside0.mk ((by rw [hg]; exact (below_size (by repeat (first | (with_reducible first | exact HB.out | apply below_alloc | apply pw_below_drewN | apply below_drew1) | exact HB.out))) : w.heap.size ≤ gb629)); have n3_ := Aside0.mk ((by rw [hg]; exact (below_size (by repeat (first | (with_reducible first | exact HB.out | apply below_alloc | apply pw_below_drewN | apply below_drew1) | exact HB.out))) : w.heap.size ≤ gb629)); clear HB; have HB := n0_; have BK629 := n1_; have GW629 := n2_; have GE629 := n3_; clear n0_ n1_ n2_ n3_; clear hb hbox hg) | ((with_reducible refine gate_dst (N := 3) rfl ?_); refine box_event ?hg (N := 3) ?hd (cs := #[.int .i64 a1_0, .int .i64 a1_1, .int .i64 a1_2, .int .i64 a1_3]) (t := 23) ?hr ?_; (case hd => rfl); (case hg => rfl); (case hr => first | (go_simp; done) | (go_simp; rfl)); intro gb630 hg w7 hbox hb; have n0_ := Aside0.mk (blk_below (g := gb629) (o := .cells #[.int .i64 a0_0, .int .i64 a0_1, .int .i64 a0_2, .int .i64 a0_3] 23 (0, 0)) (by (with_reducible repeat (first | refine blk_drewN ?_ _ | refine blk_drew ?_ | refine blk_alloc ?_ _)); exact BK629.out) hb); have n1_ := Aside0.mk (below_step (by repeat (first | (with_reducible first | exact HB.out | apply below_alloc | apply pw_below_drewN | apply below_drew1 | refine below_set ?_ GE629.out) | exact HB.out)) hb); have n2_ := Aside0.mk (hbox); have n3_ := Aside0.mk ((by rw [hg]; exact (below_size (by repeat (first | (with_reducible first | exact HB.out | apply below_alloc | apply pw_below_drewN | apply below_drew1 | refine below_set ?_ GE629.out) | exact HB.out))) : w.heap.size ≤ gb630)); have n4_ := Aside0.mk ((by rw [hg]; exact (below_size (by repeat (first | (with_reducible first | exact HB.out | apply below_alloc | apply pw_below_drewN | apply below_drew1 | refine below_set ?_ GE629.out) | exact HB.out))) : w.heap.size ≤ gb630)); have n5_ := Aside0.mk ((by rw [hg]; exact Nat.ne_of_lt (blk_lt (g := gb629) (o := .cells #[.int .i64 a0_0, .int .i64 a0_1, .int .i64 a0_2, .int .i64 a0_3] 23 (0, 0)) (by (with_reducible repeat (first | refine blk_drewN ?_ _ | refine blk_drew ?_ | refine blk_alloc ?_ _)); exact BK629.out)) : gb629 ≠ gb630)); have n6_ := Aside0.mk ((by rw [hg]; exact Nat.ne_of_gt (blk_lt (g := gb629) (o := .cells #[.int .i64 a0_0, .int .i64 a0_1, .int .i64 a0_2, .int .i64 a0_3] 23 (0, 0)) (by (with_reducible repeat (first | refine blk_drewN ?_ _ | refine blk_drew ?_ | refine blk_alloc ?_ _)); exact BK629.out)) : gb630 ≠ gb629)); clear BK629; clear HB; have BK629 := n0_; have HB := n1_; have BK630 := n2_; have GW630 := n3_; have GE630 := n4_; have NB629_630 := n5_; have NB630_629 := n6_; clear n0_ n1_ n2_ n3_ n4_ n5_ n6_; clear hb hbox hg; have hnb8 := NB629_630.out; have hnc8 := NB630_629.out; have hcz9_0 : w7.cell? ⟨gb629, 0, none⟩ = some (.int .i64 a0_0) := (blk_cell BK629.out 0).trans rfl; have hcz9_1 : w7.cell? ⟨gb629, 1, none⟩ = some (.int .i64 a0_1) := (blk_cell BK629.out 1).trans rfl; have hcz9_2 : w7.cell? ⟨gb629, 2, none⟩ = some (.int .i64 a0_2) := (blk_cell BK629.out 2).trans rfl; have hcz9_3 : w7.cell? ⟨gb629, 3, none⟩ = some (.int .i64 a0_3) := (blk_cell BK629.out 3).trans rfl; have hfz9_0 := blk_frozen BK629.out 0; have hfz9_1 := blk_frozen BK629.out 1; have hfz9_2 := blk_frozen BK629.out 2; have hfz9_3 := blk_frozen BK629.out 3; have hcz10_0 : w7.cell? ⟨gb630, 0, none⟩ = some (.int .i64 a1_0) := (blk_cell BK630.out 0).trans rfl; have hcz10_1 : w7.cell? ⟨gb630, 1, none⟩ = some (.int .i64 a1_1) := (blk_cell BK630.out 1).trans rfl; have hcz10_2 : w7.cell? ⟨gb630, 2, none⟩ = some (.int .i64 a1_2) := (blk_cell BK630.out 2).trans rfl; have hcz10_3 : w7.cell? ⟨gb630, 3, none⟩ = some (.int .i64 a1_3) := (blk_cell BK630.out 3).trans rfl; have hfz10_0 := blk_frozen BK630.out 0; have hfz10_1 := blk_frozen BK630.out 1; have hfz10_2 := blk_frozen BK630.out 2; have hfz10_3 := blk_frozen BK630.out 3) | ((with_reducible refine gate_callee (f := 23) rfl ?_); refine goesL_ (some 14) rfl rfl Try.func23 (by kernel_rfl) rfl #[.agg #[.int .i64 a0_0, .int .i64 a0_1, .int .i64 a0_2, .int .i64 a0_3], .agg #[.int .i64 a1_0, .int .i64 a1_1, .int .i64 a1_2, .int .i64 a1_3]] rfl (by (try simp only [List.map_toArray, List.map_cons, List.map_nil]); first | done | rfl | (simp only [List.length_drop, List.length_take]; rfl)) ?_; (with_reducible refine (span_Add.calls k a0_0 a0_1 a0_2 a0_3 a1_0 a1_1 a1_2 a1_3 t631 t632 t633 t634 t635 _ A3.out).mono ?_); rintro e w11 ⟨rfl, hb⟩; refine ⟨_, rfl, ?_⟩; have n0_ := Aside0.mk (blk_below (g := gb629) (o := .cells #[.int .i64 a0_0, .int .i64 a0_1, .int .i64 a0_2, .int .i64 a0_3] 23 (0, 0)) (by (with_reducible repeat (first | refine blk_drewN ?_ _ | refine blk_drew ?_ | refine blk_alloc ?_ _)); exact BK629.out) hb); have n1_ := Aside0.mk (blk_below (g := gb630) (o := .cells #[.int .i64 a1_0, .int .i64 a1_1, .int .i64 a1_2, .int .i64 a1_3] 23 (0, 0)) (by (with_reducible repeat (first | refine blk_drewN ?_ _ | refine blk_drew ?_ | refine blk_alloc ?_ _)); exact BK630.out) hb); have n2_ := Aside0.mk (below_step (by repeat (first | (with_reducible first | exact HB.out | apply below_alloc | apply pw_below_drewN | apply below_drew1 | refine below_set ?_ GE629.out | refine below_set ?_ GE630.out) | exact HB.out)) hb); clear BK629; clear BK630; clear HB; have BK629 := n0_; have BK630 := n1_; have HB := n2_; clear n0_ n1_ n2_; (try clear hb); (try clear hb2); (try clear hk); (try clear hi)) | ((with_reducible refine gate_dst (N := 5) rfl ?_); refine box_event ?hg (N := 5) ?hd (cs := #[.int .i64 0, .int .i64 0, .int .i64 0, .int .i64 0]) (t := 23) ?hr ?_; (case hd => rfl); (case hg => rfl); (case hr => first | (go_simp; done) | (go_simp; rfl)); intro gb636 hg w12 hbox hb; have n0_ := Aside0.mk (blk_below (g := gb629) (o := .cells #[.int .i64 a0_0, .int .i64 a0_1, .int .i64 a0_2, .int .i64 a0_3] 23 (0, 0)) (by (with_reducible repeat (first | refine blk_drewN ?_ _ | refine blk_drew ?_ | refine blk_alloc ?_ _)); exact BK629.out) hb); have n1_ := Aside0.mk (blk_below (g := gb630) (o := .cells #[.int .i64 a1_0, .int .i64 a1_1, .int .i64 a1_2, .int .i64 a1_3] 23 (0, 0)) (by (with_reducible repeat (first | refine blk_drewN ?_ _ | refine blk_drew ?_ | refine blk_alloc ?_ _)); exact BK630.out) hb); have n2_ := Aside0.mk (below_step (by repeat (first | (with_reducible first | exact HB.out | apply below_alloc | apply pw_below_drewN | apply below_drew1 | refine below_set ?_ GE629.out | refine below_set ?_ GE630.out) | exact HB.out)) hb); have n3_ := Aside0.mk (hbox); have n4_ := Aside0.mk ((by rw [hg]; exact (below_size (by repeat (first | (with_reducible first | exact HB.out | apply below_alloc | apply pw_below_drewN | apply below_drew1 | refine below_set ?_ GE629.out | refine below_set ?_ GE630.out) | exact HB.out))) : w.heap.size ≤ gb636)); have n5_ := Aside0.mk ((by rw [hg]; exact (below_size (by repeat (first | (with_reducible first | exact HB.out | apply below_alloc | apply pw_below_drewN | apply below_drew1 | refine below_set ?_ GE629.out | refine below_set ?_ GE630.out) | exact HB.out))) : w.heap.size ≤ gb636)); have n6_ := Aside0.mk ((by rw [hg]; exact Nat.ne_of_lt (blk_lt (g := gb629) (o := .cells #[.int .i64 a0_0, .int .i64 a0_1, .int .i64 a0_2, .int .i64 a0_3] 23 (0, 0)) (by (with_reducible repeat (first | refine blk_drewN ?_ _ | refine blk_drew ?_ | refine blk_alloc ?_ _)); exact BK629.out)) : gb629 ≠ gb636)); have n7_ := Aside0.mk ((by rw [hg]; exact Nat.ne_of_gt (blk_lt (g := gb629) (o := .cells #[.int .i64 a0_0, .int .i64 a0_1, .int .i64 a0_2, .int .i64 a0_3] 23 (0, 0)) (by (with_reducible repeat (first | refine blk_drewN ?_ _ | refine blk_drew ?_ | refine blk_alloc ?_ _)); exact BK629.out)) : gb636 ≠ gb629)); have n8_ := Aside0.mk ((by rw [hg]; exact Nat.ne_of_lt (blk_lt (g := gb630) (o := .cells #[.int .i64 a1_0, .int .i64 a1_1, .int .i64 a1_2, .int .i64 a1_3] 23 (0, 0)) (by (with_reducible repeat (first | refine blk_drewN ?_ _ | refine blk_drew ?_ | refine blk_alloc ?_ _)); exact BK630.out)) : gb630 ≠ gb636)); have n9_ := Aside0.mk ((by rw [hg]; exact Nat.ne_of_gt (blk_lt (g := gb630) (o := .cells #[.int .i64 a1_0, .int .i64 a1_1, .int .i64 a1_2, .int .i64 a1_3] 23 (0, 0)) (by (with_reducible repeat (first | refine blk_drewN ?_ _ | refine blk_drew ?_ | refine blk_alloc ?_ _)); exact BK630.out)) : gb636 ≠ gb630)); clear BK629; clear BK630; clear HB; have BK629 := n0_; have BK630 := n1_; have HB := n2_; have BK636 := n3_; have GW636 := n4_; have GE636 := n5_; have NB629_636 := n6_; have NB636_629 := n7_; have NB630_636 := n8_; have NB636_630 := n9_; clear n0_ n1_ n2_ n3_ n4_ n5_ n6_ n7_ n8_ n9_; clear hb hbox hg; have hnb13 := NB636_629.out; have hnc13 := NB629_636.out; have hnb14 := NB636_630.out; have hnc14 := NB630_636.out; have hcz15_0 : w12.cell? ⟨gb636, 0, none⟩ = some (.int .i64 0) := (blk_cell BK636.out 0).trans rfl; have hcz15_1 : w12.cell? ⟨gb636, 1, none⟩ = some (.int .i64 0) := (blk_cell BK636.out 1).trans rfl; have hcz15_2 : w12.cell? ⟨gb636, 2, none⟩ = some (.int .i64 0) := (blk_cell BK636.out 2).trans rfl; have hcz15_3 : w12.cell? ⟨gb636, 3, none⟩ = some (.int .i64 0) := (blk_cell BK636.out 3).trans rfl; have hfz15_0 := blk_frozen BK636.out 0; have hfz15_1 := blk_frozen BK636.out 1; have hfz15_2 := blk_frozen BK636.out 2; have hfz15_3 := blk_frozen BK636.out 3; have hcz16_0 : w12.cell? ⟨gb630, 0, none⟩ = some (.int .i64 a1_0) := (blk_cell BK630.out 0).trans rfl; have hcz16_1 : w12.cell? ⟨gb630, 1, none⟩ = some (.int .i64 a1_1) := (blk_cell BK630.out 1).trans rfl; have hcz16_2 : w12.cell? ⟨gb630, 2, none⟩ = some (.int .i64 a1_2) := (blk_cell BK630.out 2).trans rfl; have hcz16_3 : w12.cell? ⟨gb630, 3, none⟩ = some (.int .i64 a1_3) := (blk_cell BK630.out 3).trans rfl; have hfz16_0 := blk_frozen BK630.out 0; have hfz16_1 := blk_frozen BK630.out 1; have hfz16_2 := blk_frozen BK630.out 2; have hfz16_3 := blk_frozen BK630.out 3; have hcz17_0 : w12.cell? ⟨gb629, 0, none⟩ = some (.int .i64 a0_0) := (blk_cell BK629.out 0).trans rfl; have hcz17_1 : w12.cell? ⟨gb629, 1, none⟩ = some (.int .i64 a0_1) := (blk_cell BK629.out 1).trans rfl; have hcz17_2 : w12.cell? ⟨gb629, 2, none⟩ = some (.int .i64 a0_2) := (blk_cell BK629.out 2).trans rfl; have hcz17_3 : w12.cell? ⟨gb629, 3, none⟩ = some (.int .i64 a0_3) := (blk_cell BK629.out 3).trans rfl; have hfz17_0 := blk_frozen BK629.out 0; have hfz17_1 := blk_frozen BK629.out 1; have hfz17_2 := blk_frozen BK629.out 2; have hfz17_3 := blk_frozen BK629.out 3) | ((with_reducible refine gate_callee (f := 23) rfl ?_); refine goesL_ (some 20) rfl rfl Try.func23 (by kernel_rfl) rfl #[.agg #[.int .i64 a1_0, .int .i64 a1_1, .int .i64 a1_2, .int .i64 a1_3], .agg #[.int .i64 a0_0, .int .i64 a0_1, .int .i64 a0_2, .int .i64 a0_3]] rfl (by (try simp only [List.map_toArray, List.map_cons, List.map_nil]); first | done | rfl | (simp only [List.length_drop, List.length_take]; rfl)) ?_; (with_reducible refine (span_Add.calls k a1_0 a1_1 a1_2 a1_3 a0_0 a0_1 a0_2 a0_3 t637 t638 t639 t640 t641 _ A4.out).mono ?_); rintro e w18 ⟨rfl, hb⟩; refine ⟨_, rfl, ?_⟩; have n0_ := Aside0.mk (blk_below (g := gb629) (o := .cells #[.int .i64 a0_0, .int .i64 a0_1, .int .i64 a0_2, .int .i64 a0_3] 23 (0, 0)) (by (with_reducible repeat (first | refine blk_drewN ?_ _ | refine blk_drew ?_ | refine blk_alloc ?_ _)); refine blk_far ?_ NB629_636.out _; (with_reducible repeat (first | refine blk_drewN ?_ _ | refine blk_drew ?_ | refine blk_alloc ?_ _)); refine blk_far ?_ NB629_636.out _; (with_reducible repeat (first | refine blk_drewN ?_ _ | refine blk_drew ?_ | refine blk_alloc ?_ _)); refine blk_far ?_ NB629_636.out _; (with_reducible repeat (first | refine blk_drewN ?_ _ | refine blk_drew ?_ | refine blk_alloc ?_ _)); refine blk_far ?_ NB629_636.out _; (with_reducible repeat (first | refine blk_drewN ?_ _ | refine blk_drew ?_ | refine blk_alloc ?_ _)); exact BK629.out) hb); have n1_ := Aside0.mk (blk_below (g := gb630) (o := .cells #[.int .i64 a1_0, .int .i64 a1_1, .int .i64 a1_2, .int .i64 a1_3] 23 (0, 0)) (by (with_reducible repeat (first | refine blk_drewN ?_ _ | refine blk_drew ?_ | refine blk_alloc ?_ _)); refine blk_far ?_ NB630_636.out _; (with_reducible repeat (first | refine blk_drewN ?_ _ | refine blk_drew ?_ | refine blk_alloc ?_ _)); refine blk_far ?_ NB630_636.out _; (with_reducible repeat (first | refine blk_drewN ?_ _ | refine blk_drew ?_ | refine blk_alloc ?_ _)); refine blk_far ?_ NB630_636.out _; (with_reducible repeat (first | refine blk_drewN ?_ _ | refine blk_drew ?_ | refine blk_alloc ?_ _)); refine blk_far ?_ NB630_636.out _; (with_reducible repeat (first | refine blk_drewN ?_ _ | refine blk_drew ?_ | refine blk_alloc ?_ _)); exact BK630.out) hb); have n2_ := Aside0.mk (blk_below (g := gb636) (o := .cells #[.int .i64 t631, .int .i64 t632, .int .i64 t633, .int .i64 t634] 23 (0, 0)) (by (with_reducible repeat (first | refine blk_drewN ?_ _ | refine blk_drew ?_ | refine blk_alloc ?_ _)); refine blk_put (cs := #[.int .i64 t631, .int .i64 t632, .int .i64 t633, .int .i64 0]) ?_ 3 _ rfl; (with_reducible repeat (first | refine blk_drewN ?_ _ | refine blk_drew ?_ | refine blk_alloc ?_ _)); refine blk_put (cs := #[.int .i64 t631, .int .i64 t632, .int .i64 0, .int .i64 0]) ?_ 2 _ rfl; (with_reducible repeat (first | refine blk_drewN ?_ _ | refine blk_drew ?_ | refine blk_alloc ?_ _)); refine blk_put (cs := #[.int .i64 t631, .int .i64 0, .int .i64 0, .int .i64 0]) ?_ 1 _ rfl; (with_reducible repeat (first | refine blk_drewN ?_ _ | refine blk_drew ?_ | refine blk_alloc ?_ _)); refine blk_put (cs := #[.int .i64 0, .int .i64 0, .int .i64 0, .int .i64 0]) ?_ 0 _ rfl; (with_reducible repeat (first | refine blk_drewN ?_ _ | refine blk_drew ?_ | refine blk_alloc ?_ _)); exact BK636.out) hb); have n3_ := Aside0.mk (below_step (by repeat (first | (with_reducible first | exact HB.out | apply below_alloc | apply pw_below_drewN | apply below_drew1 | refine below_set ?_ GE629.out | refine below_set ?_ GE630.out | refine below_set ?_ GE636.out) | exact HB.out)) hb); clear BK629; clear BK630; clear BK636; clear HB; have BK629 := n0_; have BK630 := n1_; have BK636 := n2_; have HB := n3_; clear n0_ n1_ n2_ n3_; (try clear hb); (try clear hb2); (try clear hk); (try clear hi)) | ((with_reducible refine gate_dst (N := 7) rfl ?_); refine box_event ?hg (N := 7) ?hd (cs := #[.int .i64 0, .int .i64 0, .int .i64 0, .int .i64 0]) (t := 23) ?hr ?_; (case hd => rfl); (case hg => rfl); (case hr => first | (go_simp; done) | (go_simp; rfl)); intro gb642 hg w19 hbox hb; have n0_ := Aside0.mk (blk_below (g := gb629) (o := .cells #[.int .i64 a0_0, .int .i64 a0_1, .int .i64 a0_2, .int .i64 a0_3] 23 (0, 0)) (by (with_reducible repeat (first | refine blk_drewN ?_ _ | refine blk_drew ?_ | refine blk_alloc ?_ _)); exact BK629.out) hb); have n1_ := Aside0.mk (blk_below (g := gb630) (o := .cells #[.int .i64 a1_0, .int .i64 a1_1, .int .i64 a1_2, .int .i64 a1_3] 23 (0, 0)) (by (with_reducible repeat (first | refine blk_drewN ?_ _ | refine blk_drew ?_ | refine blk_alloc ?_ _)); exact BK630.out) hb); have n2_ := Aside0.mk (blk_below (g := gb636) (o := .cells #[.int .i64 t631, .int .i64 t632, .int .i64 t633, .int .i64 t634] 23 (0, 0)) (by (with_reducible repeat (first | refine blk_drewN ?_ _ | refine blk_drew ?_ | refine blk_alloc ?_ _)); exact BK636.out) hb); have n3_ := Aside0.mk (below_step (by repeat (first | (with_reducible first | exact HB.out | apply below_alloc | apply pw_below_drewN | apply below_drew1 | refine below_set ?_ GE629.out | refine below_set ?_ GE630.out | refine below_set ?_ GE636.out) | exact HB.out)) hb); have n4_ := Aside0.mk (hbox); have n5_ := Aside0.mk ((by rw [hg]; exact (below_size (by repeat (first | (with_reducible first | exact HB.out | apply below_alloc | apply pw_below_drewN | apply below_drew1 | refine below_set ?_ GE629.out | refine below_set ?_ GE630.out | refine below_set ?_ GE636.out) | exact HB.out))) : w.heap.size ≤ gb642)); have n6_ := Aside0.mk ((by rw [hg]; exact (below_size (by repeat (first | (with_reducible first | exact HB.out | apply below_alloc | apply pw_below_drewN | apply below_drew1 | refine below_set ?_ GE629.out | refine below_set ?_ GE630.out | refine below_set ?_ GE636.out) | exact HB.out))) : w.heap.size ≤ gb642)); have n7_ := Aside0.mk ((by rw [hg]; exact Nat.ne_of_lt (blk_lt (g := gb629) (o := .cells #[.int .i64 a0_0, .int .i64 a0_1, .int .i64 a0_2, .int .i64 a0_3] 23 (0, 0)) (by (with_reducible repeat (first | refine blk_drewN ?_ _ | refine blk_drew ?_ | refine blk_alloc ?_ _)); exact BK629.out)) : gb629 ≠ gb642)); have n8_ := Aside0.mk ((by rw [hg]; exact Nat.ne_of_gt (blk_lt (g := gb629) (o := .cells #[.int .i64 a0_0, .int .i64 a0_1, .int .i64 a0_2, .int .i64 a0_3] 23 (0, 0)) (by (with_reducible repeat (first | refine blk_drewN ?_ _ | refine blk_drew ?_ | refine blk_alloc ?_ _)); exact BK629.out)) : gb642 ≠ gb629)); have n9_ := Aside0.mk ((by rw [hg]; exact Nat.ne_of_lt (blk_lt (g := gb630) (o := .cells #[.int .i64 a1_0, .int .i64 a1_1, .int .i64 a1_2, .int .i64 a1_3] 23 (0, 0)) (by (with_reducible repeat (first | refine blk_drewN ?_ _ | refine blk_drew ?_ | refine blk_alloc ?_ _)); exact BK630.out)) : gb630 ≠ gb642)); have n10_ := Aside0.mk ((by rw [hg]; exact Nat.ne_of_gt (blk_lt (g := gb630) (o := .cells #[.int .i64 a1_0, .int .i64 a1_1, .int .i64 a1_2, .int .i64 a1_3] 23 (0, 0)) (by (with_reducible repeat (first | refine blk_drewN ?_ _ | refine blk_drew ?_ | refine blk_alloc ?_ _)); exact BK630.out)) : gb642 ≠ gb630)); have n11_ := Aside0.mk ((by rw [hg]; exact Nat.ne_of_lt (blk_lt (g := gb636) (o := .cells #[.int .i64 t631, .int .i64 t632, .int .i64 t633, .int .i64 t634] 23 (0, 0)) (by (with_reducible repeat (first | refine blk_drewN ?_ _ | refine blk_drew ?_ | refine blk_alloc ?_ _)); exact BK636.out)) : gb636 ≠ gb642)); have n12_ := Aside0.mk ((by rw [hg]; exact Nat.ne_of_gt (blk_lt (g := gb636) (o := .cells #[.int .i64 t631, .int .i64 t632, .int .i64 t633, .int .i64 t634] 23 (0, 0)) (by (with_reducible repeat (first | refine blk_drewN ?_ _ | refine blk_drew ?_ | refine blk_alloc ?_ _)); exact BK636.out)) : gb642 ≠ gb636)); clear BK629; clear BK630; clear BK636; clear HB; have BK629 := n0_; have BK630 := n1_; have BK636 := n2_; have HB := n3_; have BK642 := n4_; have GW642 := n5_; have GE642 := n6_; have NB629_642 := n7_; have NB642_629 := n8_; have NB630_642 := n9_; have NB642_630 := n10_; have NB636_642 := n11_; have NB642_636 := n12_; clear n0_ n1_ n2_ n3_ n4_ n5_ n6_ n7_ n8_ n9_ n10_ n11_ n12_; clear hb hbox hg; have hnb20 := NB642_629.out; have hnc20 := NB629_642.out; have hnb21 := NB642_630.out; have hnc21 := NB630_642.out; have hnb22 := NB642_636.out; have hnc22 := NB636_642.out; have hcz23_0 : w19.cell? ⟨gb642, 0, none⟩ = some (.int .i64 0) := (blk_cell BK642.out 0).trans rfl; have hcz23_1 : w19.cell? ⟨gb642, 1, none⟩ = some (.int .i64 0) := (blk_cell BK642.out 1).trans rfl; have hcz23_2 : w19.cell? ⟨gb642, 2, none⟩ = some (.int .i64 0) := (blk_cell BK642.out 2).trans rfl; have hcz23_3 : w19.cell? ⟨gb642, 3, none⟩ = some (.int .i64 0) := (blk_cell BK642.out 3).trans rfl; have hfz23_0 := blk_frozen BK642.out 0; have hfz23_1 := blk_frozen BK642.out 1; have hfz23_2 := blk_frozen BK642.out 2; have hfz23_3 := blk_frozen BK642.out 3))
  (try simp only [Act.put, List.setIfInBounds_toArray, List.set_cons_zero, List.set_cons_succ])
  go_cut [30] (fun v30 wc => ∃ (kq : Nat) (x30_4 : Bool), v30 = .bool x30_4 ∧ Aside0 (computuslaw16_SpanBack.j0 kq t635 x30_4 a0_0 a0_1 a0_2 a0_3 a1_0 a1_1 a1_2 a1_3 t631 t632 t633 t634 = some r) ∧ Aside0 (kq ≤ k) ∧ Aside0 (wc.heap[gb629]? = some (.cells #[.int .i64 a0_0, .int .i64 a0_1, .int .i64 a0_2, .int .i64 a0_3] 23 (0, 0))) ∧ Aside0 (wc.heap[gb630]? = some (.cells #[.int .i64 a1_0, .int .i64 a1_1, .int .i64 a1_2, .int .i64 a1_3] 23 (0, 0))) ∧ Aside0 (wc.heap[gb636]? = some (.cells #[.int .i64 t631, .int .i64 t632, .int .i64 t633, .int .i64 t634] 23 (0, 0))) ∧ Aside0 (wc.heap[gb642]? = some (.cells #[.int .i64 t637, .int .i64 t638, .int .i64 t639, .int .i64 t640] 23 (0, 0))) ∧ Aside0 (Below w.heap.size w wc))
  case first =>
    have H := HC5.out
    clear HC5
    by_cases c24 : (!(t631 == t637) || (!(t632 == t638) || (!(t633 == t639) || (!(t634 == t640))))) = true
    · rw [if_pos c24] at H
      have c24b0 : (!(t631 == t637) || (!(t632 == t638) || (!(t633 == t639) || (!(t634 == t640))))) = true := c24
      clear c24
      (first | rw [c24b0] | (simp only [i64_w, i32_w]; rw [c24b0]) | skip)
      have H' := Aside0.mk H
      clear H
      have hnb25 := NB636_629.out
      have hnc25 := NB629_636.out
      have hnb26 := NB636_630.out
      have hnc26 := NB630_636.out
      have hnb27 := NB636_642.out
      have hnc27 := NB642_636.out
      have hcz28_0 : w19.cell? ⟨gb636, 0, none⟩ = some (.int .i64 t631) := (blk_cell BK636.out 0).trans rfl
      have hcz28_1 : w19.cell? ⟨gb636, 1, none⟩ = some (.int .i64 t632) := (blk_cell BK636.out 1).trans rfl
      have hcz28_2 : w19.cell? ⟨gb636, 2, none⟩ = some (.int .i64 t633) := (blk_cell BK636.out 2).trans rfl
      have hcz28_3 : w19.cell? ⟨gb636, 3, none⟩ = some (.int .i64 t634) := (blk_cell BK636.out 3).trans rfl
      have hfz28_0 := blk_frozen BK636.out 0
      have hfz28_1 := blk_frozen BK636.out 1
      have hfz28_2 := blk_frozen BK636.out 2
      have hfz28_3 := blk_frozen BK636.out 3
      have hnb29 := NB642_629.out
      have hnc29 := NB629_642.out
      have hnb30 := NB642_630.out
      have hnc30 := NB630_642.out
      have hcz31_0 : w19.cell? ⟨gb642, 0, none⟩ = some (.int .i64 0) := (blk_cell BK642.out 0).trans rfl
      have hcz31_1 : w19.cell? ⟨gb642, 1, none⟩ = some (.int .i64 0) := (blk_cell BK642.out 1).trans rfl
      have hcz31_2 : w19.cell? ⟨gb642, 2, none⟩ = some (.int .i64 0) := (blk_cell BK642.out 2).trans rfl
      have hcz31_3 : w19.cell? ⟨gb642, 3, none⟩ = some (.int .i64 0) := (blk_cell BK642.out 3).trans rfl
      have hfz31_0 := blk_frozen BK642.out 0
      have hfz31_1 := blk_frozen BK642.out 1
      have hfz31_2 := blk_frozen BK642.out 2
      have hfz31_3 := blk_frozen BK642.out 3
      go_wp2
      go_meet
      case rel => exact ⟨_, (true), (by first | rfl | (simp; done) | (simp [*]; done)), H', ⟨by first | omega | exact Nat.le_refl _⟩, ⟨by (with_reducible repeat (first | refine blk_drewN ?_ _ | refine blk_drew ?_ | refine blk_alloc ?_ _)); refine blk_far ?_ NB629_642.out _; (with_reducible repeat (first | refine blk_drewN ?_ _ | refine blk_drew ?_ | refine blk_alloc ?_ _)); refine blk_far ?_ NB629_642.out _; (with_reducible repeat (first | refine blk_drewN ?_ _ | refine blk_drew ?_ | refine blk_alloc ?_ _)); refine blk_far ?_ NB629_642.out _; (with_reducible repeat (first | refine blk_drewN ?_ _ | refine blk_drew ?_ | refine blk_alloc ?_ _)); refine blk_far ?_ NB629_642.out _; (with_reducible repeat (first | refine blk_drewN ?_ _ | refine blk_drew ?_ | refine blk_alloc ?_ _)); exact BK629.out⟩, ⟨by (with_reducible repeat (first | refine blk_drewN ?_ _ | refine blk_drew ?_ | refine blk_alloc ?_ _)); refine blk_far ?_ NB630_642.out _; (with_reducible repeat (first | refine blk_drewN ?_ _ | refine blk_drew ?_ | refine blk_alloc ?_ _)); refine blk_far ?_ NB630_642.out _; (with_reducible repeat (first | refine blk_drewN ?_ _ | refine blk_drew ?_ | refine blk_alloc ?_ _)); refine blk_far ?_ NB630_642.out _; (with_reducible repeat (first | refine blk_drewN ?_ _ | refine blk_drew ?_ | refine blk_alloc ?_ _)); refine blk_far ?_ NB630_642.out _; (with_reducible repeat (first | refine blk_drewN ?_ _ | refine blk_drew ?_ | refine blk_alloc ?_ _)); exact BK630.out⟩, ⟨by (with_reducible repeat (first | refine blk_drewN ?_ _ | refine blk_drew ?_ | refine blk_alloc ?_ _)); refine blk_far ?_ NB636_642.out _; (with_reducible repeat (first | refine blk_drewN ?_ _ | refine blk_drew ?_ | refine blk_alloc ?_ _)); refine blk_far ?_ NB636_642.out _; (with_reducible repeat (first | refine blk_drewN ?_ _ | refine blk_drew ?_ | refine blk_alloc ?_ _)); refine blk_far ?_ NB636_642.out _; (with_reducible repeat (first | refine blk_drewN ?_ _ | refine blk_drew ?_ | refine blk_alloc ?_ _)); refine blk_far ?_ NB636_642.out _; (with_reducible repeat (first | refine blk_drewN ?_ _ | refine blk_drew ?_ | refine blk_alloc ?_ _)); exact BK636.out⟩, ⟨by (with_reducible repeat (first | refine blk_drewN ?_ _ | refine blk_drew ?_ | refine blk_alloc ?_ _)); refine blk_put (cs := #[.int .i64 t637, .int .i64 t638, .int .i64 t639, .int .i64 0]) ?_ 3 _ rfl; (with_reducible repeat (first | refine blk_drewN ?_ _ | refine blk_drew ?_ | refine blk_alloc ?_ _)); refine blk_put (cs := #[.int .i64 t637, .int .i64 t638, .int .i64 0, .int .i64 0]) ?_ 2 _ rfl; (with_reducible repeat (first | refine blk_drewN ?_ _ | refine blk_drew ?_ | refine blk_alloc ?_ _)); refine blk_put (cs := #[.int .i64 t637, .int .i64 0, .int .i64 0, .int .i64 0]) ?_ 1 _ rfl; (with_reducible repeat (first | refine blk_drewN ?_ _ | refine blk_drew ?_ | refine blk_alloc ?_ _)); refine blk_put (cs := #[.int .i64 0, .int .i64 0, .int .i64 0, .int .i64 0]) ?_ 0 _ rfl; (with_reducible repeat (first | refine blk_drewN ?_ _ | refine blk_drew ?_ | refine blk_alloc ?_ _)); exact BK642.out⟩, ⟨by repeat (first | (with_reducible first | exact HB.out | apply below_alloc | apply pw_below_drewN | apply below_drew1 | refine below_set ?_ GE629.out | refine below_set ?_ GE630.out | refine below_set ?_ GE636.out | refine below_set ?_ GE642.out) | exact HB.out)⟩⟩
    · rw [if_neg c24] at H
      have c24b0 : (!(t631 == t637) || (!(t632 == t638) || (!(t633 == t639) || (!(t634 == t640))))) = false := by simpa using c24
      clear c24
      (first | rw [c24b0] | (simp only [i64_w, i32_w]; rw [c24b0]) | skip)
      have H' := Aside0.mk H
      clear H
      have hnb32 := NB636_629.out
      have hnc32 := NB629_636.out
      have hnb33 := NB636_630.out
      have hnc33 := NB630_636.out
      have hnb34 := NB636_642.out
      have hnc34 := NB642_636.out
      have hcz35_0 : w19.cell? ⟨gb636, 0, none⟩ = some (.int .i64 t631) := (blk_cell BK636.out 0).trans rfl
      have hcz35_1 : w19.cell? ⟨gb636, 1, none⟩ = some (.int .i64 t632) := (blk_cell BK636.out 1).trans rfl
      have hcz35_2 : w19.cell? ⟨gb636, 2, none⟩ = some (.int .i64 t633) := (blk_cell BK636.out 2).trans rfl
      have hcz35_3 : w19.cell? ⟨gb636, 3, none⟩ = some (.int .i64 t634) := (blk_cell BK636.out 3).trans rfl
      have hfz35_0 := blk_frozen BK636.out 0
      have hfz35_1 := blk_frozen BK636.out 1
      have hfz35_2 := blk_frozen BK636.out 2
      have hfz35_3 := blk_frozen BK636.out 3
      have hnb36 := NB642_629.out
      have hnc36 := NB629_642.out
      have hnb37 := NB642_630.out
      have hnc37 := NB630_642.out
      have hcz38_0 : w19.cell? ⟨gb642, 0, none⟩ = some (.int .i64 0) := (blk_cell BK642.out 0).trans rfl
      have hcz38_1 : w19.cell? ⟨gb642, 1, none⟩ = some (.int .i64 0) := (blk_cell BK642.out 1).trans rfl
      have hcz38_2 : w19.cell? ⟨gb642, 2, none⟩ = some (.int .i64 0) := (blk_cell BK642.out 2).trans rfl
      have hcz38_3 : w19.cell? ⟨gb642, 3, none⟩ = some (.int .i64 0) := (blk_cell BK642.out 3).trans rfl
      have hfz38_0 := blk_frozen BK642.out 0
      have hfz38_1 := blk_frozen BK642.out 1
      have hfz38_2 := blk_frozen BK642.out 2
      have hfz38_3 := blk_frozen BK642.out 3
      go_wp2
      go_meet
      case rel => exact ⟨_, ((t635 != t641)), (by first | rfl | (simp; done) | (simp [*]; done)), H', ⟨by first | omega | exact Nat.le_refl _⟩, ⟨by (with_reducible repeat (first | refine blk_drewN ?_ _ | refine blk_drew ?_ | refine blk_alloc ?_ _)); refine blk_far ?_ NB629_642.out _; (with_reducible repeat (first | refine blk_drewN ?_ _ | refine blk_drew ?_ | refine blk_alloc ?_ _)); refine blk_far ?_ NB629_642.out _; (with_reducible repeat (first | refine blk_drewN ?_ _ | refine blk_drew ?_ | refine blk_alloc ?_ _)); refine blk_far ?_ NB629_642.out _; (with_reducible repeat (first | refine blk_drewN ?_ _ | refine blk_drew ?_ | refine blk_alloc ?_ _)); refine blk_far ?_ NB629_642.out _; (with_reducible repeat (first | refine blk_drewN ?_ _ | refine blk_drew ?_ | refine blk_alloc ?_ _)); exact BK629.out⟩, ⟨by (with_reducible repeat (first | refine blk_drewN ?_ _ | refine blk_drew ?_ | refine blk_alloc ?_ _)); refine blk_far ?_ NB630_642.out _; (with_reducible repeat (first | refine blk_drewN ?_ _ | refine blk_drew ?_ | refine blk_alloc ?_ _)); refine blk_far ?_ NB630_642.out _; (with_reducible repeat (first | refine blk_drewN ?_ _ | refine blk_drew ?_ | refine blk_alloc ?_ _)); refine blk_far ?_ NB630_642.out _; (with_reducible repeat (first | refine blk_drewN ?_ _ | refine blk_drew ?_ | refine blk_alloc ?_ _)); refine blk_far ?_ NB630_642.out _; (with_reducible repeat (first | refine blk_drewN ?_ _ | refine blk_drew ?_ | refine blk_alloc ?_ _)); exact BK630.out⟩, ⟨by (with_reducible repeat (first | refine blk_drewN ?_ _ | refine blk_drew ?_ | refine blk_alloc ?_ _)); refine blk_far ?_ NB636_642.out _; (with_reducible repeat (first | refine blk_drewN ?_ _ | refine blk_drew ?_ | refine blk_alloc ?_ _)); refine blk_far ?_ NB636_642.out _; (with_reducible repeat (first | refine blk_drewN ?_ _ | refine blk_drew ?_ | refine blk_alloc ?_ _)); refine blk_far ?_ NB636_642.out _; (with_reducible repeat (first | refine blk_drewN ?_ _ | refine blk_drew ?_ | refine blk_alloc ?_ _)); refine blk_far ?_ NB636_642.out _; (with_reducible repeat (first | refine blk_drewN ?_ _ | refine blk_drew ?_ | refine blk_alloc ?_ _)); exact BK636.out⟩, ⟨by (with_reducible repeat (first | refine blk_drewN ?_ _ | refine blk_drew ?_ | refine blk_alloc ?_ _)); refine blk_put (cs := #[.int .i64 t637, .int .i64 t638, .int .i64 t639, .int .i64 0]) ?_ 3 _ rfl; (with_reducible repeat (first | refine blk_drewN ?_ _ | refine blk_drew ?_ | refine blk_alloc ?_ _)); refine blk_put (cs := #[.int .i64 t637, .int .i64 t638, .int .i64 0, .int .i64 0]) ?_ 2 _ rfl; (with_reducible repeat (first | refine blk_drewN ?_ _ | refine blk_drew ?_ | refine blk_alloc ?_ _)); refine blk_put (cs := #[.int .i64 t637, .int .i64 0, .int .i64 0, .int .i64 0]) ?_ 1 _ rfl; (with_reducible repeat (first | refine blk_drewN ?_ _ | refine blk_drew ?_ | refine blk_alloc ?_ _)); refine blk_put (cs := #[.int .i64 0, .int .i64 0, .int .i64 0, .int .i64 0]) ?_ 0 _ rfl; (with_reducible repeat (first | refine blk_drewN ?_ _ | refine blk_drew ?_ | refine blk_alloc ?_ _)); exact BK642.out⟩, ⟨by repeat (first | (with_reducible first | exact HB.out | apply below_alloc | apply pw_below_drewN | apply below_drew1 | refine below_set ?_ GE629.out | refine below_set ?_ GE630.out | refine below_set ?_ GE636.out | refine below_set ?_ GE642.out) | exact HB.out)⟩⟩
  case rest =>
    clear HC5
    try clear c1
    try clear c2
    try clear p2
    try clear c3
    try clear c7
    try clear c8
    try clear c13
    try clear c14
    try clear c20
    try clear c21
    try clear c22
    try clear c23
    try clear c24
    try clear c24b0
    try clear c25
    try clear c26
    try clear c27
    try clear c29
    try clear c30
    try clear c32
    try clear c33
    try clear c34
    try clear c36
    try clear c37
    try clear hcz10_0
    try clear hcz10_1
    try clear hcz10_2
    try clear hcz10_3
    try clear hcz15_0
    try clear hcz15_1
    try clear hcz15_2
    try clear hcz15_3
    try clear hcz16_0
    try clear hcz16_1
    try clear hcz16_2
    try clear hcz16_3
    try clear hcz17_0
    try clear hcz17_1
    try clear hcz17_2
    try clear hcz17_3
    try clear hcz23_0
    try clear hcz23_1
    try clear hcz23_2
    try clear hcz23_3
    try clear hcz28_0
    try clear hcz28_1
    try clear hcz28_2
    try clear hcz28_3
    try clear hcz31_0
    try clear hcz31_1
    try clear hcz31_2
    try clear hcz31_3
    try clear hcz35_0
    try clear hcz35_1
    try clear hcz35_2
    try clear hcz35_3
    try clear hcz38_0
    try clear hcz38_1
    try clear hcz38_2
    try clear hcz38_3
    try clear hcz9_0
    try clear hcz9_1
    try clear hcz9_2
    try clear hcz9_3
    try clear hfz10_0
    try clear hfz10_1
    try clear hfz10_2
    try clear hfz10_3
    try clear hfz15_0
    try clear hfz15_1
    try clear hfz15_2
    try clear hfz15_3
    try clear hfz16_0
    try clear hfz16_1
    try clear hfz16_2
    try clear hfz16_3
    try clear hfz17_0
    try clear hfz17_1
    try clear hfz17_2
    try clear hfz17_3
    try clear hfz23_0
    try clear hfz23_1
    try clear hfz23_2
    try clear hfz23_3
    try clear hfz28_0
    try clear hfz28_1
    try clear hfz28_2
    try clear hfz28_3
    try clear hfz31_0
    try clear hfz31_1
    try clear hfz31_2
    try clear hfz31_3
    try clear hfz35_0
    try clear hfz35_1
    try clear hfz35_2
    try clear hfz35_3
    try clear hfz38_0
    try clear hfz38_1
    try clear hfz38_2
    try clear hfz38_3
    try clear hfz9_0
    try clear hfz9_1
    try clear hfz9_2
    try clear hfz9_3
    obtain ⟨kq, x30_4, rfl, HA, HJ4, BK629, BK630, BK636, BK642, HB⟩ := hcut
    cases kq with
    | zero => exact absurd HA.out (by simp [computuslaw16_SpanBack.j0])
    | succ kj4 =>
      have H := HA.out
      clear HA
      simp only [computuslaw16_SpanBack.j0] at H
      by_cases c39 : x30_4 = true
      · subst c39
        have H1 : (some false) = some r := by rw [if_pos rfl] at H; exact H
        clear H
        have H := H1
        clear H1
        exact absurd (Option.some.inj H) (by rw [HRT.out]; decide)
      · replace c39 := Bool.eq_false_iff.mpr c39
        subst c39
        have H1 : (if t635 = 0 then (if a0_0 = 0 then (computuslaw16_SpanBack.j1 kj4 (a1_0 != 0) a0_0 a0_1 a0_2 a0_3 a1_0 a1_1 a1_2 a1_3 t631 t632 t633 t634) else (computuslaw16_SpanBack.j1 kj4 true a0_0 a0_1 a0_2 a0_3 a1_0 a1_1 a1_2 a1_3 t631 t632 t633 t634)) else (computuslaw16_SpanBack.j1 kj4 true a0_0 a0_1 a0_2 a0_3 a1_0 a1_1 a1_2 a1_3 t631 t632 t633 t634)) = some r := by rw [if_neg (show ¬ (false = true) by decide)] at H; exact H
        clear H
        have H := H1
        clear H1
        have HC40 := Aside0.mk H
        clear H
        go_upto_region 5 with (fail)
        go_cut [42] (fun v42 wc => ∃ (kq : Nat) (x42_39 : Bool), v42 = .bool x42_39 ∧ Aside0 (computuslaw16_SpanBack.j1 kq x42_39 a0_0 a0_1 a0_2 a0_3 a1_0 a1_1 a1_2 a1_3 t631 t632 t633 t634 = some r) ∧ Aside0 (kq ≤ kj4) ∧ Aside0 (wc.heap[gb629]? = some (.cells #[.int .i64 a0_0, .int .i64 a0_1, .int .i64 a0_2, .int .i64 a0_3] 23 (0, 0))) ∧ Aside0 (wc.heap[gb630]? = some (.cells #[.int .i64 a1_0, .int .i64 a1_1, .int .i64 a1_2, .int .i64 a1_3] 23 (0, 0))) ∧ Aside0 (wc.heap[gb636]? = some (.cells #[.int .i64 t631, .int .i64 t632, .int .i64 t633, .int .i64 t634] 23 (0, 0))) ∧ Aside0 (wc.heap[gb642]? = some (.cells #[.int .i64 t637, .int .i64 t638, .int .i64 t639, .int .i64 t640] 23 (0, 0))) ∧ Aside0 (Below w.heap.size w wc))
        case first =>
          have H := HC40.out
          clear HC40
          by_cases c41 : t635 = 0
          · rw [if_pos c41] at H
            have c41b0 : (t635 == 0) = true := beq_iff_eq.mpr c41
            have c41b1 : (t635 != 0) = false := bne_eq_false_iff_eq.mpr c41
            clear c41
            (first | rw [c41b0] | (simp only [i64_w, i32_w]; rw [c41b0]) | skip)
            by_cases c42 : a0_0 = 0
            · rw [if_pos c42] at H
              have c42b0 : (a0_0 == 0) = true := beq_iff_eq.mpr c42
              have c42b1 : (a0_0 != 0) = false := bne_eq_false_iff_eq.mpr c42
              clear c42
              have H' := Aside0.mk H
              clear H
              have hnb43 := NB629_630.out
              have hnc43 := NB630_629.out
              have hnb44 := NB629_636.out
              have hnc44 := NB636_629.out
              have hnb45 := NB629_642.out
              have hnc45 := NB642_629.out
              have hcz46_0 : wc.cell? ⟨gb629, 0, none⟩ = some (.int .i64 a0_0) := (blk_cell BK629.out 0).trans rfl
              have hcz46_1 : wc.cell? ⟨gb629, 1, none⟩ = some (.int .i64 a0_1) := (blk_cell BK629.out 1).trans rfl
              have hcz46_2 : wc.cell? ⟨gb629, 2, none⟩ = some (.int .i64 a0_2) := (blk_cell BK629.out 2).trans rfl
              have hcz46_3 : wc.cell? ⟨gb629, 3, none⟩ = some (.int .i64 a0_3) := (blk_cell BK629.out 3).trans rfl
              have hfz46_0 := blk_frozen BK629.out 0
              have hfz46_1 := blk_frozen BK629.out 1
              have hfz46_2 := blk_frozen BK629.out 2
              have hfz46_3 := blk_frozen BK629.out 3
              have hnb47 := NB630_636.out
              have hnc47 := NB636_630.out
              have hnb48 := NB630_642.out
              have hnc48 := NB642_630.out
              have hcz49_0 : wc.cell? ⟨gb630, 0, none⟩ = some (.int .i64 a1_0) := (blk_cell BK630.out 0).trans rfl
              have hcz49_1 : wc.cell? ⟨gb630, 1, none⟩ = some (.int .i64 a1_1) := (blk_cell BK630.out 1).trans rfl
              have hcz49_2 : wc.cell? ⟨gb630, 2, none⟩ = some (.int .i64 a1_2) := (blk_cell BK630.out 2).trans rfl
              have hcz49_3 : wc.cell? ⟨gb630, 3, none⟩ = some (.int .i64 a1_3) := (blk_cell BK630.out 3).trans rfl
              have hfz49_0 := blk_frozen BK630.out 0
              have hfz49_1 := blk_frozen BK630.out 1
              have hfz49_2 := blk_frozen BK630.out 2
              have hfz49_3 := blk_frozen BK630.out 3
              go_wp2
              go_meet
              case rel => exact ⟨_, ((a1_0 != 0)), (by first | rfl | (simp; done) | (simp [*]; done)), H', ⟨by have := HJ4.out; first | omega | exact Nat.le_refl _⟩, ⟨by (with_reducible repeat (first | refine blk_drewN ?_ _ | refine blk_drew ?_ | refine blk_alloc ?_ _)); exact BK629.out⟩, ⟨by (with_reducible repeat (first | refine blk_drewN ?_ _ | refine blk_drew ?_ | refine blk_alloc ?_ _)); exact BK630.out⟩, ⟨by (with_reducible repeat (first | refine blk_drewN ?_ _ | refine blk_drew ?_ | refine blk_alloc ?_ _)); exact BK636.out⟩, ⟨by (with_reducible repeat (first | refine blk_drewN ?_ _ | refine blk_drew ?_ | refine blk_alloc ?_ _)); exact BK642.out⟩, ⟨by repeat (first | (with_reducible first | exact HB.out | apply below_alloc | apply pw_below_drewN | apply below_drew1 | refine below_set ?_ GE629.out | refine below_set ?_ GE630.out | refine below_set ?_ GE636.out | refine below_set ?_ GE642.out) | exact HB.out)⟩⟩
            · rw [if_neg c42] at H
              have c42b0 : (a0_0 == 0) = false := beq_eq_false_iff_ne.mpr c42
              have c42b1 : (a0_0 != 0) = true := bne_iff_ne.mpr c42
              have H' := Aside0.mk H
              clear H
              have hnb50 := NB629_630.out
              have hnc50 := NB630_629.out
              have hnb51 := NB629_636.out
              have hnc51 := NB636_629.out
              have hnb52 := NB629_642.out
              have hnc52 := NB642_629.out
              have hcz53_0 : wc.cell? ⟨gb629, 0, none⟩ = some (.int .i64 a0_0) := (blk_cell BK629.out 0).trans rfl
              have hcz53_1 : wc.cell? ⟨gb629, 1, none⟩ = some (.int .i64 a0_1) := (blk_cell BK629.out 1).trans rfl
              have hcz53_2 : wc.cell? ⟨gb629, 2, none⟩ = some (.int .i64 a0_2) := (blk_cell BK629.out 2).trans rfl
              have hcz53_3 : wc.cell? ⟨gb629, 3, none⟩ = some (.int .i64 a0_3) := (blk_cell BK629.out 3).trans rfl
              have hfz53_0 := blk_frozen BK629.out 0
              have hfz53_1 := blk_frozen BK629.out 1
              have hfz53_2 := blk_frozen BK629.out 2
              have hfz53_3 := blk_frozen BK629.out 3
              go_wp2
              go_meet
              case rel => exact ⟨_, (true), (by first | rfl | (simp; done) | (simp [*]; done)), H', ⟨by have := HJ4.out; first | omega | exact Nat.le_refl _⟩, ⟨by (with_reducible repeat (first | refine blk_drewN ?_ _ | refine blk_drew ?_ | refine blk_alloc ?_ _)); exact BK629.out⟩, ⟨by (with_reducible repeat (first | refine blk_drewN ?_ _ | refine blk_drew ?_ | refine blk_alloc ?_ _)); exact BK630.out⟩, ⟨by (with_reducible repeat (first | refine blk_drewN ?_ _ | refine blk_drew ?_ | refine blk_alloc ?_ _)); exact BK636.out⟩, ⟨by (with_reducible repeat (first | refine blk_drewN ?_ _ | refine blk_drew ?_ | refine blk_alloc ?_ _)); exact BK642.out⟩, ⟨by repeat (first | (with_reducible first | exact HB.out | apply below_alloc | apply pw_below_drewN | apply below_drew1 | refine below_set ?_ GE629.out | refine below_set ?_ GE630.out | refine below_set ?_ GE636.out | refine below_set ?_ GE642.out) | exact HB.out)⟩⟩
          · rw [if_neg c41] at H
            have c41b0 : (t635 == 0) = false := beq_eq_false_iff_ne.mpr c41
            have c41b1 : (t635 != 0) = true := bne_iff_ne.mpr c41
            (first | rw [c41b0] | (simp only [i64_w, i32_w]; rw [c41b0]) | skip)
            have H' := Aside0.mk H
            clear H
            go_wp2
            go_meet
            case rel => exact ⟨_, (true), (by first | rfl | (simp; done) | (simp [*]; done)), H', ⟨by have := HJ4.out; first | omega | exact Nat.le_refl _⟩, ⟨by (with_reducible repeat (first | refine blk_drewN ?_ _ | refine blk_drew ?_ | refine blk_alloc ?_ _)); exact BK629.out⟩, ⟨by (with_reducible repeat (first | refine blk_drewN ?_ _ | refine blk_drew ?_ | refine blk_alloc ?_ _)); exact BK630.out⟩, ⟨by (with_reducible repeat (first | refine blk_drewN ?_ _ | refine blk_drew ?_ | refine blk_alloc ?_ _)); exact BK636.out⟩, ⟨by (with_reducible repeat (first | refine blk_drewN ?_ _ | refine blk_drew ?_ | refine blk_alloc ?_ _)); exact BK642.out⟩, ⟨by repeat (first | (with_reducible first | exact HB.out | apply below_alloc | apply pw_below_drewN | apply below_drew1 | refine below_set ?_ GE629.out | refine below_set ?_ GE630.out | refine below_set ?_ GE636.out | refine below_set ?_ GE642.out) | exact HB.out)⟩⟩
        case rest =>
          clear HC40
          try clear c1
          try clear c2
          try clear p2
          try clear c3
          try clear c4
          try clear c5
          try clear c7
          try clear c8
          try clear c13
          try clear c14
          try clear c20
          try clear c21
          try clear c22
          try clear c23
          try clear c24
          try clear c24b0
          try clear c25
          try clear c26
          try clear c27
          try clear c29
          try clear c30
          try clear c32
          try clear c33
          try clear c34
          try clear c36
          try clear c37
          try clear c39
          try clear c41
          try clear c41b0
          try clear c41b1
          try clear c42
          try clear c42b0
          try clear c42b1
          try clear c43
          try clear c44
          try clear c45
          try clear c47
          try clear c48
          try clear c50
          try clear c51
          try clear c52
          try clear hcz10_0
          try clear hcz10_1
          try clear hcz10_2
          try clear hcz10_3
          try clear hcz15_0
          try clear hcz15_1
          try clear hcz15_2
          try clear hcz15_3
          try clear hcz16_0
          try clear hcz16_1
          try clear hcz16_2
          try clear hcz16_3
          try clear hcz17_0
          try clear hcz17_1
          try clear hcz17_2
          try clear hcz17_3
          try clear hcz23_0
          try clear hcz23_1
          try clear hcz23_2
          try clear hcz23_3
          try clear hcz28_0
          try clear hcz28_1
          try clear hcz28_2
          try clear hcz28_3
          try clear hcz31_0
          try clear hcz31_1
          try clear hcz31_2
          try clear hcz31_3
          try clear hcz35_0
          try clear hcz35_1
          try clear hcz35_2
          try clear hcz35_3
          try clear hcz38_0
          try clear hcz38_1
          try clear hcz38_2
          try clear hcz38_3
          try clear hcz46_0
          try clear hcz46_1
          try clear hcz46_2
          try clear hcz46_3
          try clear hcz49_0
          try clear hcz49_1
          try clear hcz49_2
          try clear hcz49_3
          try clear hcz53_0
          try clear hcz53_1
          try clear hcz53_2
          try clear hcz53_3
          try clear hcz9_0
          try clear hcz9_1
          try clear hcz9_2
          try clear hcz9_3
          try clear hfz10_0
          try clear hfz10_1
          try clear hfz10_2
          try clear hfz10_3
          try clear hfz15_0
          try clear hfz15_1
          try clear hfz15_2
          try clear hfz15_3
          try clear hfz16_0
          try clear hfz16_1
          try clear hfz16_2
          try clear hfz16_3
          try clear hfz17_0
          try clear hfz17_1
          try clear hfz17_2
          try clear hfz17_3
          try clear hfz23_0
          try clear hfz23_1
          try clear hfz23_2
          try clear hfz23_3
          try clear hfz28_0
          try clear hfz28_1
          try clear hfz28_2
          try clear hfz28_3
          try clear hfz31_0
          try clear hfz31_1
          try clear hfz31_2
          try clear hfz31_3
          try clear hfz35_0
          try clear hfz35_1
          try clear hfz35_2
          try clear hfz35_3
          try clear hfz38_0
          try clear hfz38_1
          try clear hfz38_2
          try clear hfz38_3
          try clear hfz46_0
          try clear hfz46_1
          try clear hfz46_2
          try clear hfz46_3
          try clear hfz49_0
          try clear hfz49_1
          try clear hfz49_2
          try clear hfz49_3
          try clear hfz53_0
          try clear hfz53_1
          try clear hfz53_2
          try clear hfz53_3
          try clear hfz9_0
          try clear hfz9_1
          try clear hfz9_2
          try clear hfz9_3
          try clear p2
          obtain ⟨kq, x42_39, rfl, HA, HJ39, BK629, BK630, BK636, BK642, HB⟩ := hcut
          cases kq with
          | zero => exact absurd HA.out (by simp [computuslaw16_SpanBack.j1])
          | succ kj39 =>
            have H := HA.out
            clear HA
            simp only [computuslaw16_SpanBack.j1] at H
            by_cases c54 : x42_39 = true
            · subst c54
              have H1 : ((computuslaw16_known.f kj39).bind fun t643 => (some t643)) = some r := by rw [if_pos rfl] at H; exact H
              clear H
              have H := H1
              clear H1
              replace H := Option.bind_eq_some_iff.mp H
              obtain ⟨t643, A550, H⟩ := H
              replace H : (some t643) = some r := H
              have A55 := Aside0.mk A550
              clear A550
              obtain rfl := Option.some.inj H
              go_wp2_with (first | ((with_reducible refine gate_callee (f := 15) rfl ?_); refine goesL_ (some 43) rfl rfl Try.func15 (by kernel_rfl) rfl #[] rfl (by (try simp only [List.map_toArray, List.map_cons, List.map_nil]); first | done | rfl | (simp only [List.length_drop, List.length_take]; rfl)) ?_; (with_reducible refine (computuslaw16_known.calls kj39  t643 _ A55.out HRT.out).mono ?_); rintro e w56 ⟨rfl, hb⟩; refine ⟨_, rfl, ?_⟩; have n0_ := Aside0.mk (blk_below (g := gb629) (o := .cells #[.int .i64 a0_0, .int .i64 a0_1, .int .i64 a0_2, .int .i64 a0_3] 23 (0, 0)) (by (with_reducible repeat (first | refine blk_drewN ?_ _ | refine blk_drew ?_ | refine blk_alloc ?_ _)); exact BK629.out) hb); have n1_ := Aside0.mk (blk_below (g := gb630) (o := .cells #[.int .i64 a1_0, .int .i64 a1_1, .int .i64 a1_2, .int .i64 a1_3] 23 (0, 0)) (by (with_reducible repeat (first | refine blk_drewN ?_ _ | refine blk_drew ?_ | refine blk_alloc ?_ _)); exact BK630.out) hb); have n2_ := Aside0.mk (blk_below (g := gb636) (o := .cells #[.int .i64 t631, .int .i64 t632, .int .i64 t633, .int .i64 t634] 23 (0, 0)) (by (with_reducible repeat (first | refine blk_drewN ?_ _ | refine blk_drew ?_ | refine blk_alloc ?_ _)); exact BK636.out) hb); have n3_ := Aside0.mk (blk_below (g := gb642) (o := .cells #[.int .i64 t637, .int .i64 t638, .int .i64 t639, .int .i64 t640] 23 (0, 0)) (by (with_reducible repeat (first | refine blk_drewN ?_ _ | refine blk_drew ?_ | refine blk_alloc ?_ _)); exact BK642.out) hb); have n4_ := Aside0.mk (below_step (by repeat (first | (with_reducible first | exact HB.out | apply below_alloc | apply pw_below_drewN | apply below_drew1 | refine below_set ?_ GE629.out | refine below_set ?_ GE630.out | refine below_set ?_ GE636.out | refine below_set ?_ GE642.out) | exact HB.out)) hb); clear BK629; clear BK630; clear BK636; clear BK642; clear HB; have BK629 := n0_; have BK630 := n1_; have BK636 := n2_; have BK642 := n3_; have HB := n4_; clear n0_ n1_ n2_ n3_ n4_; (try clear hb); (try clear hb2); (try clear hk); (try clear hi)))
              go_ret
              exact ⟨by first | rfl | (simp [errW_none, errW_some] <;> rfl) | (simp [*, errW_none, errW_some] <;> rfl), by repeat (first | (with_reducible first | exact HB.out | apply below_alloc | apply pw_below_drewN | apply below_drew1 | refine below_set ?_ GE629.out | refine below_set ?_ GE630.out | refine below_set ?_ GE636.out | refine below_set ?_ GE642.out) | exact HB.out)⟩
            · replace c54 := Bool.eq_false_iff.mpr c54
              subst c54
              have H1 : ((span_Sub.f kj39 t631 t632 t633 t634 a1_0 a1_1 a1_2 a1_3).bind fun bt644 => (if (bt644.1 == a0_0 && (bt644.2.1 == a0_1 && (bt644.2.2.1 == a0_2 && (bt644.2.2.2.1 == a0_3)))) = true then (if bt644.2.2.2.2 = 0 then ((computuslaw16_known.f kj39).bind fun t650 => (some t650)) else (some false)) else (some false))) = some r := by rw [if_neg (show ¬ (false = true) by decide)] at H; exact H
              clear H
              have H := H1
              clear H1
              replace H := Option.bind_eq_some_iff.mp H
              obtain ⟨⟨t644, t645, t646, t647, t648⟩, A570, H⟩ := H
              replace H : (if (t644 == a0_0 && (t645 == a0_1 && (t646 == a0_2 && (t647 == a0_3)))) = true then (if t648 = 0 then ((computuslaw16_known.f kj39).bind fun t650 => (some t650)) else (some false)) else (some false)) = some r := H
              have A57 := Aside0.mk A570
              clear A570
              by_cases c58 : (t644 == a0_0 && (t645 == a0_1 && (t646 == a0_2 && (t647 == a0_3)))) = true
              · rw [if_pos c58] at H
                have c58b0 : (t644 == a0_0 && (t645 == a0_1 && (t646 == a0_2 && (t647 == a0_3)))) = true := c58
                (try (have c58b1 : decide (t644 = a0_0 && (t645 == a0_1 && (t646 == a0_2 && (t647 == a0_3)))) = true := by simpa using c58))
                (try (have c58b2 : (t644 == a0_0 && (t645 == a0_1 && (t646 == a0_2 && (t647 == a0_3)))) = true := by simpa using c58))
                clear c58
                by_cases c59 : t648 = 0
                · rw [if_pos c59] at H
                  have c59b0 : (t648 == 0) = true := beq_iff_eq.mpr c59
                  have c59b1 : (t648 != 0) = false := bne_eq_false_iff_eq.mpr c59
                  clear c59
                  replace H := Option.bind_eq_some_iff.mp H
                  obtain ⟨t650, A600, H⟩ := H
                  replace H : (some t650) = some r := H
                  have A60 := Aside0.mk A600
                  clear A600
                  obtain rfl := Option.some.inj H
                  have hnb61 := NB636_629.out
                  have hnc61 := NB629_636.out
                  have hnb62 := NB636_630.out
                  have hnc62 := NB630_636.out
                  have hnb63 := NB636_642.out
                  have hnc63 := NB642_636.out
                  have hcz64_0 : wc.cell? ⟨gb636, 0, none⟩ = some (.int .i64 t631) := (blk_cell BK636.out 0).trans rfl
                  have hcz64_1 : wc.cell? ⟨gb636, 1, none⟩ = some (.int .i64 t632) := (blk_cell BK636.out 1).trans rfl
                  have hcz64_2 : wc.cell? ⟨gb636, 2, none⟩ = some (.int .i64 t633) := (blk_cell BK636.out 2).trans rfl
                  have hcz64_3 : wc.cell? ⟨gb636, 3, none⟩ = some (.int .i64 t634) := (blk_cell BK636.out 3).trans rfl
                  have hfz64_0 := blk_frozen BK636.out 0
                  have hfz64_1 := blk_frozen BK636.out 1
                  have hfz64_2 := blk_frozen BK636.out 2
                  have hfz64_3 := blk_frozen BK636.out 3
                  have hnb65 := NB630_629.out
                  have hnc65 := NB629_630.out
                  have hnb66 := NB630_642.out
                  have hnc66 := NB642_630.out
                  have hcz67_0 : wc.cell? ⟨gb630, 0, none⟩ = some (.int .i64 a1_0) := (blk_cell BK630.out 0).trans rfl
                  have hcz67_1 : wc.cell? ⟨gb630, 1, none⟩ = some (.int .i64 a1_1) := (blk_cell BK630.out 1).trans rfl
                  have hcz67_2 : wc.cell? ⟨gb630, 2, none⟩ = some (.int .i64 a1_2) := (blk_cell BK630.out 2).trans rfl
                  have hcz67_3 : wc.cell? ⟨gb630, 3, none⟩ = some (.int .i64 a1_3) := (blk_cell BK630.out 3).trans rfl
                  have hfz67_0 := blk_frozen BK630.out 0
                  have hfz67_1 := blk_frozen BK630.out 1
                  have hfz67_2 := blk_frozen BK630.out 2
                  have hfz67_3 := blk_frozen BK630.out 3
                  go_wp2_with (first | ((with_reducible refine gate_callee (f := 25) rfl ?_); refine goesL_ (some 47) rfl rfl Try.func25 (by kernel_rfl) rfl #[.agg #[.int .i64 t631, .int .i64 t632, .int .i64 t633, .int .i64 t634], .agg #[.int .i64 a1_0, .int .i64 a1_1, .int .i64 a1_2, .int .i64 a1_3]] rfl (by (try simp only [List.map_toArray, List.map_cons, List.map_nil]); first | done | rfl | (simp only [List.length_drop, List.length_take]; rfl)) ?_; (with_reducible refine (span_Sub.calls kj39 t631 t632 t633 t634 a1_0 a1_1 a1_2 a1_3 t644 t645 t646 t647 t648 _ A57.out).mono ?_); rintro e w68 ⟨rfl, hb⟩; refine ⟨_, rfl, ?_⟩; have n0_ := Aside0.mk (blk_below (g := gb629) (o := .cells #[.int .i64 a0_0, .int .i64 a0_1, .int .i64 a0_2, .int .i64 a0_3] 23 (0, 0)) (by (with_reducible repeat (first | refine blk_drewN ?_ _ | refine blk_drew ?_ | refine blk_alloc ?_ _)); exact BK629.out) hb); have n1_ := Aside0.mk (blk_below (g := gb630) (o := .cells #[.int .i64 a1_0, .int .i64 a1_1, .int .i64 a1_2, .int .i64 a1_3] 23 (0, 0)) (by (with_reducible repeat (first | refine blk_drewN ?_ _ | refine blk_drew ?_ | refine blk_alloc ?_ _)); exact BK630.out) hb); have n2_ := Aside0.mk (blk_below (g := gb636) (o := .cells #[.int .i64 t631, .int .i64 t632, .int .i64 t633, .int .i64 t634] 23 (0, 0)) (by (with_reducible repeat (first | refine blk_drewN ?_ _ | refine blk_drew ?_ | refine blk_alloc ?_ _)); exact BK636.out) hb); have n3_ := Aside0.mk (blk_below (g := gb642) (o := .cells #[.int .i64 t637, .int .i64 t638, .int .i64 t639, .int .i64 t640] 23 (0, 0)) (by (with_reducible repeat (first | refine blk_drewN ?_ _ | refine blk_drew ?_ | refine blk_alloc ?_ _)); exact BK642.out) hb); have n4_ := Aside0.mk (below_step (by repeat (first | (with_reducible first | exact HB.out | apply below_alloc | apply pw_below_drewN | apply below_drew1 | refine below_set ?_ GE629.out | refine below_set ?_ GE630.out | refine below_set ?_ GE636.out | refine below_set ?_ GE642.out) | exact HB.out)) hb); clear BK629; clear BK630; clear BK636; clear BK642; clear HB; have BK629 := n0_; have BK630 := n1_; have BK636 := n2_; have BK642 := n3_; have HB := n4_; clear n0_ n1_ n2_ n3_ n4_; (try clear hb); (try clear hb2); (try clear hk); (try clear hi)) | ((with_reducible refine gate_dst (N := 9) rfl ?_); refine box_event ?hg (N := 9) ?hd (cs := #[.int .i64 0, .int .i64 0, .int .i64 0, .int .i64 0]) (t := 23) ?hr ?_; (case hd => rfl); (case hg => rfl); (case hr => first | (go_simp; done) | (go_simp; rfl)); intro gb649 hg w69 hbox hb; have n0_ := Aside0.mk (blk_below (g := gb629) (o := .cells #[.int .i64 a0_0, .int .i64 a0_1, .int .i64 a0_2, .int .i64 a0_3] 23 (0, 0)) (by (with_reducible repeat (first | refine blk_drewN ?_ _ | refine blk_drew ?_ | refine blk_alloc ?_ _)); exact BK629.out) hb); have n1_ := Aside0.mk (blk_below (g := gb630) (o := .cells #[.int .i64 a1_0, .int .i64 a1_1, .int .i64 a1_2, .int .i64 a1_3] 23 (0, 0)) (by (with_reducible repeat (first | refine blk_drewN ?_ _ | refine blk_drew ?_ | refine blk_alloc ?_ _)); exact BK630.out) hb); have n2_ := Aside0.mk (blk_below (g := gb636) (o := .cells #[.int .i64 t631, .int .i64 t632, .int .i64 t633, .int .i64 t634] 23 (0, 0)) (by (with_reducible repeat (first | refine blk_drewN ?_ _ | refine blk_drew ?_ | refine blk_alloc ?_ _)); exact BK636.out) hb); have n3_ := Aside0.mk (blk_below (g := gb642) (o := .cells #[.int .i64 t637, .int .i64 t638, .int .i64 t639, .int .i64 t640] 23 (0, 0)) (by (with_reducible repeat (first | refine blk_drewN ?_ _ | refine blk_drew ?_ | refine blk_alloc ?_ _)); exact BK642.out) hb); have n4_ := Aside0.mk (below_step (by repeat (first | (with_reducible first | exact HB.out | apply below_alloc | apply pw_below_drewN | apply below_drew1 | refine below_set ?_ GE629.out | refine below_set ?_ GE630.out | refine below_set ?_ GE636.out | refine below_set ?_ GE642.out) | exact HB.out)) hb); have n5_ := Aside0.mk (hbox); have n6_ := Aside0.mk ((by rw [hg]; exact (below_size (by repeat (first | (with_reducible first | exact HB.out | apply below_alloc | apply pw_below_drewN | apply below_drew1 | refine below_set ?_ GE629.out | refine below_set ?_ GE630.out | refine below_set ?_ GE636.out | refine below_set ?_ GE642.out) | exact HB.out))) : w.heap.size ≤ gb649)); have n7_ := Aside0.mk ((by rw [hg]; exact (below_size (by repeat (first | (with_reducible first | exact HB.out | apply below_alloc | apply pw_below_drewN | apply below_drew1 | refine below_set ?_ GE629.out | refine below_set ?_ GE630.out | refine below_set ?_ GE636.out | refine below_set ?_ GE642.out) | exact HB.out))) : w.heap.size ≤ gb649)); have n8_ := Aside0.mk ((by rw [hg]; exact Nat.ne_of_lt (blk_lt (g := gb629) (o := .cells #[.int .i64 a0_0, .int .i64 a0_1, .int .i64 a0_2, .int .i64 a0_3] 23 (0, 0)) (by (with_reducible repeat (first | refine blk_drewN ?_ _ | refine blk_drew ?_ | refine blk_alloc ?_ _)); exact BK629.out)) : gb629 ≠ gb649)); have n9_ := Aside0.mk ((by rw [hg]; exact Nat.ne_of_gt (blk_lt (g := gb629) (o := .cells #[.int .i64 a0_0, .int .i64 a0_1, .int .i64 a0_2, .int .i64 a0_3] 23 (0, 0)) (by (with_reducible repeat (first | refine blk_drewN ?_ _ | refine blk_drew ?_ | refine blk_alloc ?_ _)); exact BK629.out)) : gb649 ≠ gb629)); have n10_ := Aside0.mk ((by rw [hg]; exact Nat.ne_of_lt (blk_lt (g := gb630) (o := .cells #[.int .i64 a1_0, .int .i64 a1_1, .int .i64 a1_2, .int .i64 a1_3] 23 (0, 0)) (by (with_reducible repeat (first | refine blk_drewN ?_ _ | refine blk_drew ?_ | refine blk_alloc ?_ _)); exact BK630.out)) : gb630 ≠ gb649)); have n11_ := Aside0.mk ((by rw [hg]; exact Nat.ne_of_gt (blk_lt (g := gb630) (o := .cells #[.int .i64 a1_0, .int .i64 a1_1, .int .i64 a1_2, .int .i64 a1_3] 23 (0, 0)) (by (with_reducible repeat (first | refine blk_drewN ?_ _ | refine blk_drew ?_ | refine blk_alloc ?_ _)); exact BK630.out)) : gb649 ≠ gb630)); have n12_ := Aside0.mk ((by rw [hg]; exact Nat.ne_of_lt (blk_lt (g := gb636) (o := .cells #[.int .i64 t631, .int .i64 t632, .int .i64 t633, .int .i64 t634] 23 (0, 0)) (by (with_reducible repeat (first | refine blk_drewN ?_ _ | refine blk_drew ?_ | refine blk_alloc ?_ _)); exact BK636.out)) : gb636 ≠ gb649)); have n13_ := Aside0.mk ((by rw [hg]; exact Nat.ne_of_gt (blk_lt (g := gb636) (o := .cells #[.int .i64 t631, .int .i64 t632, .int .i64 t633, .int .i64 t634] 23 (0, 0)) (by (with_reducible repeat (first | refine blk_drewN ?_ _ | refine blk_drew ?_ | refine blk_alloc ?_ _)); exact BK636.out)) : gb649 ≠ gb636)); have n14_ := Aside0.mk ((by rw [hg]; exact Nat.ne_of_lt (blk_lt (g := gb642) (o := .cells #[.int .i64 t637, .int .i64 t638, .int .i64 t639, .int .i64 t640] 23 (0, 0)) (by (with_reducible repeat (first | refine blk_drewN ?_ _ | refine blk_drew ?_ | refine blk_alloc ?_ _)); exact BK642.out)) : gb642 ≠ gb649)); have n15_ := Aside0.mk ((by rw [hg]; exact Nat.ne_of_gt (blk_lt (g := gb642) (o := .cells #[.int .i64 t637, .int .i64 t638, .int .i64 t639, .int .i64 t640] 23 (0, 0)) (by (with_reducible repeat (first | refine blk_drewN ?_ _ | refine blk_drew ?_ | refine blk_alloc ?_ _)); exact BK642.out)) : gb649 ≠ gb642)); clear BK629; clear BK630; clear BK636; clear BK642; clear HB; have BK629 := n0_; have BK630 := n1_; have BK636 := n2_; have BK642 := n3_; have HB := n4_; have BK649 := n5_; have GW649 := n6_; have GE649 := n7_; have NB629_649 := n8_; have NB649_629 := n9_; have NB630_649 := n10_; have NB649_630 := n11_; have NB636_649 := n12_; have NB649_636 := n13_; have NB642_649 := n14_; have NB649_642 := n15_; clear n0_ n1_ n2_ n3_ n4_ n5_ n6_ n7_ n8_ n9_ n10_ n11_ n12_ n13_ n14_ n15_; clear hb hbox hg; have hnb70 := NB649_629.out; have hnc70 := NB629_649.out; have hnb71 := NB649_630.out; have hnc71 := NB630_649.out; have hnb72 := NB649_636.out; have hnc72 := NB636_649.out; have hnb73 := NB649_642.out; have hnc73 := NB642_649.out; have hcz74_0 : w69.cell? ⟨gb649, 0, none⟩ = some (.int .i64 0) := (blk_cell BK649.out 0).trans rfl; have hcz74_1 : w69.cell? ⟨gb649, 1, none⟩ = some (.int .i64 0) := (blk_cell BK649.out 1).trans rfl; have hcz74_2 : w69.cell? ⟨gb649, 2, none⟩ = some (.int .i64 0) := (blk_cell BK649.out 2).trans rfl; have hcz74_3 : w69.cell? ⟨gb649, 3, none⟩ = some (.int .i64 0) := (blk_cell BK649.out 3).trans rfl; have hfz74_0 := blk_frozen BK649.out 0; have hfz74_1 := blk_frozen BK649.out 1; have hfz74_2 := blk_frozen BK649.out 2; have hfz74_3 := blk_frozen BK649.out 3; have hnb75 := NB629_642.out; have hnc75 := NB642_629.out; have hcz76_0 : w69.cell? ⟨gb629, 0, none⟩ = some (.int .i64 a0_0) := (blk_cell BK629.out 0).trans rfl; have hcz76_1 : w69.cell? ⟨gb629, 1, none⟩ = some (.int .i64 a0_1) := (blk_cell BK629.out 1).trans rfl; have hcz76_2 : w69.cell? ⟨gb629, 2, none⟩ = some (.int .i64 a0_2) := (blk_cell BK629.out 2).trans rfl; have hcz76_3 : w69.cell? ⟨gb629, 3, none⟩ = some (.int .i64 a0_3) := (blk_cell BK629.out 3).trans rfl; have hfz76_0 := blk_frozen BK629.out 0; have hfz76_1 := blk_frozen BK629.out 1; have hfz76_2 := blk_frozen BK629.out 2; have hfz76_3 := blk_frozen BK629.out 3) | (go_at_call 15; (with_reducible refine (computuslaw16_known.calls kj39  t650 _ A60.out HRT.out).mono ?_); rintro e w77 ⟨rfl, hb⟩; have n0_ := Aside0.mk (blk_below (g := gb629) (o := .cells #[.int .i64 a0_0, .int .i64 a0_1, .int .i64 a0_2, .int .i64 a0_3] 23 (0, 0)) (by (with_reducible repeat (first | refine blk_drewN ?_ _ | refine blk_drew ?_ | refine blk_alloc ?_ _)); refine blk_far ?_ NB629_649.out _; (with_reducible repeat (first | refine blk_drewN ?_ _ | refine blk_drew ?_ | refine blk_alloc ?_ _)); refine blk_far ?_ NB629_649.out _; (with_reducible repeat (first | refine blk_drewN ?_ _ | refine blk_drew ?_ | refine blk_alloc ?_ _)); refine blk_far ?_ NB629_649.out _; (with_reducible repeat (first | refine blk_drewN ?_ _ | refine blk_drew ?_ | refine blk_alloc ?_ _)); refine blk_far ?_ NB629_649.out _; (with_reducible repeat (first | refine blk_drewN ?_ _ | refine blk_drew ?_ | refine blk_alloc ?_ _)); exact BK629.out) hb); have n1_ := Aside0.mk (blk_below (g := gb630) (o := .cells #[.int .i64 a1_0, .int .i64 a1_1, .int .i64 a1_2, .int .i64 a1_3] 23 (0, 0)) (by (with_reducible repeat (first | refine blk_drewN ?_ _ | refine blk_drew ?_ | refine blk_alloc ?_ _)); refine blk_far ?_ NB630_649.out _; (with_reducible repeat (first | refine blk_drewN ?_ _ | refine blk_drew ?_ | refine blk_alloc ?_ _)); refine blk_far ?_ NB630_649.out _; (with_reducible repeat (first | refine blk_drewN ?_ _ | refine blk_drew ?_ | refine blk_alloc ?_ _)); refine blk_far ?_ NB630_649.out _; (with_reducible repeat (first | refine blk_drewN ?_ _ | refine blk_drew ?_ | refine blk_alloc ?_ _)); refine blk_far ?_ NB630_649.out _; (with_reducible repeat (first | refine blk_drewN ?_ _ | refine blk_drew ?_ | refine blk_alloc ?_ _)); exact BK630.out) hb); have n2_ := Aside0.mk (blk_below (g := gb636) (o := .cells #[.int .i64 t631, .int .i64 t632, .int .i64 t633, .int .i64 t634] 23 (0, 0)) (by (with_reducible repeat (first | refine blk_drewN ?_ _ | refine blk_drew ?_ | refine blk_alloc ?_ _)); refine blk_far ?_ NB636_649.out _; (with_reducible repeat (first | refine blk_drewN ?_ _ | refine blk_drew ?_ | refine blk_alloc ?_ _)); refine blk_far ?_ NB636_649.out _; (with_reducible repeat (first | refine blk_drewN ?_ _ | refine blk_drew ?_ | refine blk_alloc ?_ _)); refine blk_far ?_ NB636_649.out _; (with_reducible repeat (first | refine blk_drewN ?_ _ | refine blk_drew ?_ | refine blk_alloc ?_ _)); refine blk_far ?_ NB636_649.out _; (with_reducible repeat (first | refine blk_drewN ?_ _ | refine blk_drew ?_ | refine blk_alloc ?_ _)); exact BK636.out) hb); have n3_ := Aside0.mk (blk_below (g := gb642) (o := .cells #[.int .i64 t637, .int .i64 t638, .int .i64 t639, .int .i64 t640] 23 (0, 0)) (by (with_reducible repeat (first | refine blk_drewN ?_ _ | refine blk_drew ?_ | refine blk_alloc ?_ _)); refine blk_far ?_ NB642_649.out _; (with_reducible repeat (first | refine blk_drewN ?_ _ | refine blk_drew ?_ | refine blk_alloc ?_ _)); refine blk_far ?_ NB642_649.out _; (with_reducible repeat (first | refine blk_drewN ?_ _ | refine blk_drew ?_ | refine blk_alloc ?_ _)); refine blk_far ?_ NB642_649.out _; (with_reducible repeat (first | refine blk_drewN ?_ _ | refine blk_drew ?_ | refine blk_alloc ?_ _)); refine blk_far ?_ NB642_649.out _; (with_reducible repeat (first | refine blk_drewN ?_ _ | refine blk_drew ?_ | refine blk_alloc ?_ _)); exact BK642.out) hb); have n4_ := Aside0.mk (blk_below (g := gb649) (o := .cells #[.int .i64 t644, .int .i64 t645, .int .i64 t646, .int .i64 t647] 23 (0, 0)) (by (with_reducible repeat (first | refine blk_drewN ?_ _ | refine blk_drew ?_ | refine blk_alloc ?_ _)); refine blk_put (cs := #[.int .i64 t644, .int .i64 t645, .int .i64 t646, .int .i64 0]) ?_ 3 _ rfl; (with_reducible repeat (first | refine blk_drewN ?_ _ | refine blk_drew ?_ | refine blk_alloc ?_ _)); refine blk_put (cs := #[.int .i64 t644, .int .i64 t645, .int .i64 0, .int .i64 0]) ?_ 2 _ rfl; (with_reducible repeat (first | refine blk_drewN ?_ _ | refine blk_drew ?_ | refine blk_alloc ?_ _)); refine blk_put (cs := #[.int .i64 t644, .int .i64 0, .int .i64 0, .int .i64 0]) ?_ 1 _ rfl; (with_reducible repeat (first | refine blk_drewN ?_ _ | refine blk_drew ?_ | refine blk_alloc ?_ _)); refine blk_put (cs := #[.int .i64 0, .int .i64 0, .int .i64 0, .int .i64 0]) ?_ 0 _ rfl; (with_reducible repeat (first | refine blk_drewN ?_ _ | refine blk_drew ?_ | refine blk_alloc ?_ _)); exact BK649.out) hb); have n5_ := Aside0.mk (below_step (by repeat (first | (with_reducible first | exact HB.out | apply below_alloc | apply pw_below_drewN | apply below_drew1 | refine below_set ?_ GE629.out | refine below_set ?_ GE630.out | refine below_set ?_ GE636.out | refine below_set ?_ GE642.out | refine below_set ?_ GE649.out) | exact HB.out)) hb); clear BK629; clear BK630; clear BK636; clear BK642; clear BK649; clear HB; have BK629 := n0_; have BK630 := n1_; have BK636 := n2_; have BK642 := n3_; have BK649 := n4_; have HB := n5_; clear n0_ n1_ n2_ n3_ n4_ n5_; (try clear hb); (try clear hb2); (try clear hk); (try clear hi)))
                  go_ret
                  exact ⟨by first | rfl | (simp [errW_none, errW_some] <;> rfl) | (simp [*, errW_none, errW_some] <;> rfl), by repeat (first | (with_reducible first | exact HB.out | apply below_alloc | apply pw_below_drewN | apply below_drew1 | refine below_set ?_ GE629.out | refine below_set ?_ GE630.out | refine below_set ?_ GE636.out | refine below_set ?_ GE642.out | refine below_set ?_ GE649.out) | exact HB.out)⟩
                · rw [if_neg c59] at H
                  have c59b0 : (t648 == 0) = false := beq_eq_false_iff_ne.mpr c59
                  have c59b1 : (t648 != 0) = true := bne_iff_ne.mpr c59
                  exact absurd (Option.some.inj H) (by rw [HRT.out]; decide)
              · rw [if_neg c58] at H
                have c58b0 : (t644 == a0_0 && (t645 == a0_1 && (t646 == a0_2 && (t647 == a0_3)))) = false := by simpa using c58
                (try (have c58b1 : decide (t644 = a0_0 && (t645 == a0_1 && (t646 == a0_2 && (t647 == a0_3)))) = false := by simpa using c58))
                (try (have c58b2 : (t644 == a0_0 && (t645 == a0_1 && (t646 == a0_2 && (t647 == a0_3)))) = false := by simpa using c58))
                (try (have c58b3 : ¬ (t644 = a0_0 && (t645 == a0_1 && (t646 == a0_2 && (t647 == a0_3)))) := by simpa using c58))
                clear c58
                exact absurd (Option.some.inj H) (by rw [HRT.out]; decide)
/-- THE ONE PURE STATEMENT of computuslaw16_SpanBack: yours. -/
def computuslaw16_SpanBack.Pure : Prop := ∀ (a0_0 : Int) (a0_1 : Int) (a0_2 : Int) (a0_3 : Int) (a1_0 : Int) (a1_1 : Int) (a1_2 : Int) (a1_3 : Int), (Lit.int .i64 a0_0).wf = true → (Lit.int .i64 a0_1).wf = true → (Lit.int .i64 a0_2).wf = true → (Lit.int .i64 a0_3).wf = true → (Lit.int .i64 a1_0).wf = true → (Lit.int .i64 a1_1).wf = true → (Lit.int .i64 a1_2).wf = true → (Lit.int .i64 a1_3).wf = true → ∃ k, computuslaw16_SpanBack.f k a0_0 a0_1 a0_2 a0_3 a1_0 a1_1 a1_2 a1_3 = some true
theorem computuslaw16_SpanBack.walk (P : computuslaw16_SpanBack.Pure) (a0_0 : Int) (a0_1 : Int) (a0_2 : Int) (a0_3 : Int) (a1_0 : Int) (a1_1 : Int) (a1_2 : Int) (a1_3 : Int) (w : World) (w0_0 : (Lit.int .i64 a0_0).wf = true) (w0_1 : (Lit.int .i64 a0_1).wf = true) (w0_2 : (Lit.int .i64 a0_2).wf = true) (w0_3 : (Lit.int .i64 a0_3).wf = true) (w1_0 : (Lit.int .i64 a1_0).wf = true) (w1_1 : (Lit.int .i64 a1_1).wf = true) (w1_2 : (Lit.int .i64 a1_2).wf = true) (w1_3 : (Lit.int .i64 a1_3).wf = true) :
    Calls Try.prog 7 #[.agg #[.int .i64 a0_0, .int .i64 a0_1, .int .i64 a0_2, .int .i64 a0_3], .agg #[.int .i64 a1_0, .int .i64 a1_1, .int .i64 a1_2, .int .i64 a1_3]] w fun e w' => e = .returned (.bool true) ∧ Below w.heap.size w w' := by
  obtain ⟨k, h⟩ := P a0_0 a0_1 a0_2 a0_3 a1_0 a1_1 a1_2 a1_3 w0_0 w0_1 w0_2 w0_3 w1_0 w1_1 w1_2 w1_3
  refine (computuslaw16_SpanBack.calls k a0_0 a0_1 a0_2 a0_3 a1_0 a1_1 a1_2 a1_3 true w h rfl).mono ?_
  rintro e w' ⟨rfl, hd⟩
  exact ⟨rfl, hd⟩
end Go.Proofs.Ytfpclhkieccojaa.P
