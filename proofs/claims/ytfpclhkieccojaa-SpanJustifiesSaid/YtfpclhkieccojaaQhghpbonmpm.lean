-- Written by a program of the session (a print of the seat's translation, functions given by hand among it). Lean checks it.
import Derived.Test.YtfpclhkieccojaaQeafcmfchom
import Derived.Test.YtfpclhkieccojaaQhndhnmlajo
import Derived.Test.YtfpclhkieccojaaQmpnnhdfopl
import Derived.Test.YtfpclhkieccojaaQpmejagmdmg
import Derived.Test.YtfpclhkieccojaaQfhfaejliib
import Derived.Test.YtfpclhkieccojaaQmhpoogdkgm
namespace Go.Proofs.Ytfpclhkieccojaa.P
open Go.RowKit Go.Proofs.YtfpclhkieccojaaW.PrintWords Go.Proofs.YtfpclhkieccojaaW.PrintLast Go.Proofs.YtfpclhkieccojaaW.PrintMore
attribute [local go_sem] max2_int min2_int max_two min_two max_three min_three max_four min_four   -- for this text's walks alone
set_option linter.unusedVariables false
set_option linter.unusedSimpArgs false
attribute [local go_sem high] eqA23
def computuslaw16_SpanJustifies.j0 : Nat → Int → Bool → Int → Int → Int → Int → Int → Int → Int → Int → Option (Bool)
  | 0, _, _, _, _, _, _, _, _, _, _ => none
  | k + 1, x6, x26, x394000, x394001, x394002, x394003, x400000, x400001, x400002, x400003 => if x26 = true then (some false) else (if x6 = 0 then (if x400001 > 0 then (if x400001 < 0 then ((span_Cmp.f k x394000 x394001 x394002 x394003 x400000 x400001 x400002 x400003).bind fun t406 => (if t406 = 0 then (some false) else (some false))) else (if x400002 < 0 then ((span_Cmp.f k x394000 x394001 x394002 x394003 x400000 x400001 x400002 x400003).bind fun t407 => (if t407 = 0 then (some false) else (some false))) else ((span_Cmp.f k x394000 x394001 x394002 x394003 x400000 x400001 x400002 x400003).bind fun t408 => (if t408 = 0 then (if x400003 < 0 then (some false) else ((computuslaw16_known.f k).bind fun t409 => (some t409))) else (some false))))) else (if x400002 > 0 then (if x400001 < 0 then ((span_Cmp.f k x394000 x394001 x394002 x394003 x400000 x400001 x400002 x400003).bind fun t410 => (if t410 = 0 then (some false) else (some false))) else (if x400002 < 0 then ((span_Cmp.f k x394000 x394001 x394002 x394003 x400000 x400001 x400002 x400003).bind fun t411 => (if t411 = 0 then (some false) else (some false))) else ((span_Cmp.f k x394000 x394001 x394002 x394003 x400000 x400001 x400002 x400003).bind fun t412 => (if t412 = 0 then (if x400003 < 0 then (some false) else ((computuslaw16_known.f k).bind fun t413 => (some t413))) else (some false))))) else (if x400001 < 0 then ((span_Cmp.f k x394000 x394001 x394002 x394003 x400000 x400001 x400002 x400003).bind fun t414 => (if t414 = 0 then (if x400003 > 0 then (some false) else ((computuslaw16_known.f k).bind fun t415 => (some t415))) else (some false))) else (if x400002 < 0 then ((span_Cmp.f k x394000 x394001 x394002 x394003 x400000 x400001 x400002 x400003).bind fun t416 => (if t416 = 0 then (if x400003 > 0 then (some false) else ((computuslaw16_known.f k).bind fun t417 => (some t417))) else (some false))) else ((span_Cmp.f k x394000 x394001 x394002 x394003 x400000 x400001 x400002 x400003).bind fun t418 => (if t418 = 0 then (if x400003 > 0 then (if x400003 < 0 then (some false) else ((computuslaw16_known.f k).bind fun t419 => (some t419))) else ((computuslaw16_known.f k).bind fun t420 => (some t420))) else (some false))))))) else ((computuslaw16_known.f k).bind fun t421 => (some t421)))
def computuslaw16_SpanJustifies.f (k : Nat) (a0_0 : Int) (a0_1 : Int) (a0_2 : Int) (a0_3 : Int) : Option (Bool) := (span_Justify.f k a0_0 a0_1 a0_2 a0_3).bind fun bt394 => ((computusref16_Justify.f k a0_0 a0_1 a0_2 a0_3).bind fun bt400 => (if (!(bt394.1 == bt400.1) || (!(bt394.2.1 == bt400.2.1) || (!(bt394.2.2.1 == bt400.2.2.1) || (!(bt394.2.2.2.1 == bt400.2.2.2.1))))) = true then (computuslaw16_SpanJustifies.j0 k bt400.2.2.2.2 true a0_0 a0_1 a0_2 a0_3 bt394.1 bt394.2.1 bt394.2.2.1 bt394.2.2.2.1) else (computuslaw16_SpanJustifies.j0 k bt400.2.2.2.2 (bt394.2.2.2.2 != bt400.2.2.2.2) a0_0 a0_1 a0_2 a0_3 bt394.1 bt394.2.1 bt394.2.2.1 bt394.2.2.2.1)))
set_option maxHeartbeats 8000000 in
set_option maxRecDepth 100000 in
theorem computuslaw16_SpanJustifies.calls (k : Nat) (a0_0 : Int) (a0_1 : Int) (a0_2 : Int) (a0_3 : Int) (r : Bool) (w : World) (h : computuslaw16_SpanJustifies.f k a0_0 a0_1 a0_2 a0_3 = some r) (hR : r = true) :
    Calls Try.prog 4 #[.agg #[.int .i64 a0_0, .int .i64 a0_1, .int .i64 a0_2, .int .i64 a0_3]] w fun e w' => e = .returned (.bool r) ∧ Below w.heap.size w w' := by
  have HRT := Aside0.mk hR
  clear hR
  have hu23 := Try.underlying23
  have HB := Aside0.mk (Below.refl w.heap.size w)
  have H : ((span_Justify.f k a0_0 a0_1 a0_2 a0_3).bind fun bt394 => ((computusref16_Justify.f k a0_0 a0_1 a0_2 a0_3).bind fun bt400 => (if (!(bt394.1 == bt400.1) || (!(bt394.2.1 == bt400.2.1) || (!(bt394.2.2.1 == bt400.2.2.1) || (!(bt394.2.2.2.1 == bt400.2.2.2.1))))) = true then (computuslaw16_SpanJustifies.j0 k bt400.2.2.2.2 true a0_0 a0_1 a0_2 a0_3 bt394.1 bt394.2.1 bt394.2.2.1 bt394.2.2.2.1) else (computuslaw16_SpanJustifies.j0 k bt400.2.2.2.2 (bt394.2.2.2.2 != bt400.2.2.2.2) a0_0 a0_1 a0_2 a0_3 bt394.1 bt394.2.1 bt394.2.2.1 bt394.2.2.2.1)))) = some r := h
  clear h
  replace H := Option.bind_eq_some_iff.mp H
  obtain ⟨⟨t394, t395, t396, t397, t398⟩, A20, H⟩ := H
  replace H : ((computusref16_Justify.f k a0_0 a0_1 a0_2 a0_3).bind fun bt400 => (if (!(t394 == bt400.1) || (!(t395 == bt400.2.1) || (!(t396 == bt400.2.2.1) || (!(t397 == bt400.2.2.2.1))))) = true then (computuslaw16_SpanJustifies.j0 k bt400.2.2.2.2 true a0_0 a0_1 a0_2 a0_3 t394 t395 t396 t397) else (computuslaw16_SpanJustifies.j0 k bt400.2.2.2.2 (t398 != bt400.2.2.2.2) a0_0 a0_1 a0_2 a0_3 t394 t395 t396 t397))) = some r := H
  have A2 := Aside0.mk A20
  clear A20
  replace H := Option.bind_eq_some_iff.mp H
  obtain ⟨⟨t400, t401, t402, t403, t404⟩, A30, H⟩ := H
  replace H : (if (!(t394 == t400) || (!(t395 == t401) || (!(t396 == t402) || (!(t397 == t403))))) = true then (computuslaw16_SpanJustifies.j0 k t404 true a0_0 a0_1 a0_2 a0_3 t394 t395 t396 t397) else (computuslaw16_SpanJustifies.j0 k t404 (t398 != t404) a0_0 a0_1 a0_2 a0_3 t394 t395 t396 t397)) = some r := H
  have A3 := Aside0.mk A30
  clear A30
  have HC4 := Aside0.mk H
  clear H
  go_enter Try.func4, Try.ntmps4
  go_upto_region 3 with (first | ((with_reducible refine gate_dst (N := 1) rfl ?_); refine box_event ?hg (N := 1) ?hd (cs := #[.int .i64 a0_0, .int .i64 a0_1, .int .i64 a0_2, .int .i64 a0_3]) (t := 23) ?hr ?_; (case hd => rfl); (case hg => rfl); (case hr => first | (go_simp; done) | (go_simp; rfl)); intro gb393 hg w5 hbox hb; have n0_ := Aside0.mk (below_step (by repeat (first | (with_reducible first | exact HB.out | apply below_alloc | apply pw_below_drewN | apply below_drew1) | exact HB.out)) hb); have n1_ := Aside0.mk (hbox); have n2_ := Aside0.mk ((by rw [hg]; exact (below_size (by repeat (first | (with_reducible first | exact HB.out | apply below_alloc | apply pw_below_drewN | apply below_drew1) | exact HB.out))) : w.heap.size ≤ gb393)); have n3_ := Aside0.mk ((by rw [hg]; exact (below_size (by repeat (first | (with_reducible first | exact HB.out | apply below_alloc | apply pw_below_drewN | apply below_drew1) | exact HB.out))) : w.heap.size ≤ gb393)); clear HB; have HB := n0_; have BK393 := n1_; have GW393 := n2_; have GE393 := n3_; clear n0_ n1_ n2_ n3_; clear hb hbox hg; have hcz6_0 : w5.cell? ⟨gb393, 0, none⟩ = some (.int .i64 a0_0) := (blk_cell BK393.out 0).trans rfl; have hcz6_1 : w5.cell? ⟨gb393, 1, none⟩ = some (.int .i64 a0_1) := (blk_cell BK393.out 1).trans rfl; have hcz6_2 : w5.cell? ⟨gb393, 2, none⟩ = some (.int .i64 a0_2) := (blk_cell BK393.out 2).trans rfl; have hcz6_3 : w5.cell? ⟨gb393, 3, none⟩ = some (.int .i64 a0_3) := (blk_cell BK393.out 3).trans rfl; have hfz6_0 := blk_frozen BK393.out 0; have hfz6_1 := blk_frozen BK393.out 1; have hfz6_2 := blk_frozen BK393.out 2; have hfz6_3 := blk_frozen BK393.out 3) | ((with_reducible refine gate_callee (f := 16) rfl ?_); refine goesL_ (some 11) rfl rfl Try.func16 (by kernel_rfl) rfl #[.agg #[.int .i64 a0_0, .int .i64 a0_1, .int .i64 a0_2, .int .i64 a0_3]] rfl (by (try simp only [List.map_toArray, List.map_cons, List.map_nil]); first | done | rfl | (simp only [List.length_drop, List.length_take]; rfl)) ?_; (with_reducible refine (span_Justify.calls k a0_0 a0_1 a0_2 a0_3 t394 t395 t396 t397 t398 _ A2.out).mono ?_); rintro e w7 ⟨rfl, hb⟩; refine ⟨_, rfl, ?_⟩; have n0_ := Aside0.mk (blk_below (g := gb393) (o := .cells #[.int .i64 a0_0, .int .i64 a0_1, .int .i64 a0_2, .int .i64 a0_3] 23 (0, 0)) (by (with_reducible repeat (first | refine blk_drewN ?_ _ | refine blk_drew ?_ | refine blk_alloc ?_ _)); exact BK393.out) hb); have n1_ := Aside0.mk (below_step (by repeat (first | (with_reducible first | exact HB.out | apply below_alloc | apply pw_below_drewN | apply below_drew1 | refine below_set ?_ GE393.out) | exact HB.out)) hb); clear BK393; clear HB; have BK393 := n0_; have HB := n1_; clear n0_ n1_; (try clear hb); (try clear hb2); (try clear hk); (try clear hi)) | ((with_reducible refine gate_dst (N := 3) rfl ?_); refine box_event ?hg (N := 3) ?hd (cs := #[.int .i64 0, .int .i64 0, .int .i64 0, .int .i64 0]) (t := 23) ?hr ?_; (case hd => rfl); (case hg => rfl); (case hr => first | (go_simp; done) | (go_simp; rfl)); intro gb399 hg w8 hbox hb; have n0_ := Aside0.mk (blk_below (g := gb393) (o := .cells #[.int .i64 a0_0, .int .i64 a0_1, .int .i64 a0_2, .int .i64 a0_3] 23 (0, 0)) (by (with_reducible repeat (first | refine blk_drewN ?_ _ | refine blk_drew ?_ | refine blk_alloc ?_ _)); exact BK393.out) hb); have n1_ := Aside0.mk (below_step (by repeat (first | (with_reducible first | exact HB.out | apply below_alloc | apply pw_below_drewN | apply below_drew1 | refine below_set ?_ GE393.out) | exact HB.out)) hb); have n2_ := Aside0.mk (hbox); have n3_ := Aside0.mk ((by rw [hg]; exact (below_size (by repeat (first | (with_reducible first | exact HB.out | apply below_alloc | apply pw_below_drewN | apply below_drew1 | refine below_set ?_ GE393.out) | exact HB.out))) : w.heap.size ≤ gb399)); have n4_ := Aside0.mk ((by rw [hg]; exact (below_size (by repeat (first | (with_reducible first | exact HB.out | apply below_alloc | apply pw_below_drewN | apply below_drew1 | refine below_set ?_ GE393.out) | exact HB.out))) : w.heap.size ≤ gb399)); have n5_ := Aside0.mk ((by rw [hg]; exact Nat.ne_of_lt (blk_lt (g := gb393) (o := .cells #[.int .i64 a0_0, .int .i64 a0_1, .int .i64 a0_2, .int .i64 a0_3] 23 (0, 0)) (by (with_reducible repeat (first | refine blk_drewN ?_ _ | refine blk_drew ?_ | refine blk_alloc ?_ _)); exact BK393.out)) : gb393 ≠ gb399)); have n6_ := Aside0.mk ((by rw [hg]; exact Nat.ne_of_gt (blk_lt (g := gb393) (o := .cells #[.int .i64 a0_0, .int .i64 a0_1, .int .i64 a0_2, .int .i64 a0_3] 23 (0, 0)) (by (with_reducible repeat (first | refine blk_drewN ?_ _ | refine blk_drew ?_ | refine blk_alloc ?_ _)); exact BK393.out)) : gb399 ≠ gb393)); clear BK393; clear HB; have BK393 := n0_; have HB := n1_; have BK399 := n2_; have GW399 := n3_; have GE399 := n4_; have NB393_399 := n5_; have NB399_393 := n6_; clear n0_ n1_ n2_ n3_ n4_ n5_ n6_; clear hb hbox hg; have hnb9 := NB399_393.out; have hnc9 := NB393_399.out; have hcz10_0 : w8.cell? ⟨gb399, 0, none⟩ = some (.int .i64 0) := (blk_cell BK399.out 0).trans rfl; have hcz10_1 : w8.cell? ⟨gb399, 1, none⟩ = some (.int .i64 0) := (blk_cell BK399.out 1).trans rfl; have hcz10_2 : w8.cell? ⟨gb399, 2, none⟩ = some (.int .i64 0) := (blk_cell BK399.out 2).trans rfl; have hcz10_3 : w8.cell? ⟨gb399, 3, none⟩ = some (.int .i64 0) := (blk_cell BK399.out 3).trans rfl; have hfz10_0 := blk_frozen BK399.out 0; have hfz10_1 := blk_frozen BK399.out 1; have hfz10_2 := blk_frozen BK399.out 2; have hfz10_3 := blk_frozen BK399.out 3; have hcz11_0 : w8.cell? ⟨gb393, 0, none⟩ = some (.int .i64 a0_0) := (blk_cell BK393.out 0).trans rfl; have hcz11_1 : w8.cell? ⟨gb393, 1, none⟩ = some (.int .i64 a0_1) := (blk_cell BK393.out 1).trans rfl; have hcz11_2 : w8.cell? ⟨gb393, 2, none⟩ = some (.int .i64 a0_2) := (blk_cell BK393.out 2).trans rfl; have hcz11_3 : w8.cell? ⟨gb393, 3, none⟩ = some (.int .i64 a0_3) := (blk_cell BK393.out 3).trans rfl; have hfz11_0 := blk_frozen BK393.out 0; have hfz11_1 := blk_frozen BK393.out 1; have hfz11_2 := blk_frozen BK393.out 2; have hfz11_3 := blk_frozen BK393.out 3) | ((with_reducible refine gate_callee (f := 17) rfl ?_); refine goesL_ (some 16) rfl rfl Try.func17 (by kernel_rfl) rfl #[.agg #[.int .i64 a0_0, .int .i64 a0_1, .int .i64 a0_2, .int .i64 a0_3]] rfl (by (try simp only [List.map_toArray, List.map_cons, List.map_nil]); first | done | rfl | (simp only [List.length_drop, List.length_take]; rfl)) ?_; (with_reducible refine (computusref16_Justify.calls k a0_0 a0_1 a0_2 a0_3 t400 t401 t402 t403 t404 _ A3.out).mono ?_); rintro e w12 ⟨rfl, hb⟩; refine ⟨_, rfl, ?_⟩; have n0_ := Aside0.mk (blk_below (g := gb393) (o := .cells #[.int .i64 a0_0, .int .i64 a0_1, .int .i64 a0_2, .int .i64 a0_3] 23 (0, 0)) (by (with_reducible repeat (first | refine blk_drewN ?_ _ | refine blk_drew ?_ | refine blk_alloc ?_ _)); refine blk_far ?_ NB393_399.out _; (with_reducible repeat (first | refine blk_drewN ?_ _ | refine blk_drew ?_ | refine blk_alloc ?_ _)); refine blk_far ?_ NB393_399.out _; (with_reducible repeat (first | refine blk_drewN ?_ _ | refine blk_drew ?_ | refine blk_alloc ?_ _)); refine blk_far ?_ NB393_399.out _; (with_reducible repeat (first | refine blk_drewN ?_ _ | refine blk_drew ?_ | refine blk_alloc ?_ _)); refine blk_far ?_ NB393_399.out _; (with_reducible repeat (first | refine blk_drewN ?_ _ | refine blk_drew ?_ | refine blk_alloc ?_ _)); exact BK393.out) hb); have n1_ := Aside0.mk (blk_below (g := gb399) (o := .cells #[.int .i64 t394, .int .i64 t395, .int .i64 t396, .int .i64 t397] 23 (0, 0)) (by (with_reducible repeat (first | refine blk_drewN ?_ _ | refine blk_drew ?_ | refine blk_alloc ?_ _)); refine blk_put (cs := #[.int .i64 t394, .int .i64 t395, .int .i64 t396, .int .i64 0]) ?_ 3 _ rfl; (with_reducible repeat (first | refine blk_drewN ?_ _ | refine blk_drew ?_ | refine blk_alloc ?_ _)); refine blk_put (cs := #[.int .i64 t394, .int .i64 t395, .int .i64 0, .int .i64 0]) ?_ 2 _ rfl; (with_reducible repeat (first | refine blk_drewN ?_ _ | refine blk_drew ?_ | refine blk_alloc ?_ _)); refine blk_put (cs := #[.int .i64 t394, .int .i64 0, .int .i64 0, .int .i64 0]) ?_ 1 _ rfl; (with_reducible repeat (first | refine blk_drewN ?_ _ | refine blk_drew ?_ | refine blk_alloc ?_ _)); refine blk_put (cs := #[.int .i64 0, .int .i64 0, .int .i64 0, .int .i64 0]) ?_ 0 _ rfl; (with_reducible repeat (first | refine blk_drewN ?_ _ | refine blk_drew ?_ | refine blk_alloc ?_ _)); exact BK399.out) hb); have n2_ := Aside0.mk (below_step (by repeat (first | (with_reducible first | exact HB.out | apply below_alloc | apply pw_below_drewN | apply below_drew1 | refine below_set ?_ GE393.out | refine below_set ?_ GE399.out) | exact HB.out)) hb); clear BK393; clear BK399; clear HB; have BK393 := n0_; have BK399 := n1_; have HB := n2_; clear n0_ n1_ n2_; (try clear hb); (try clear hb2); (try clear hk); (try clear hi)) | ((with_reducible refine gate_dst (N := 5) rfl ?_); refine box_event ?hg (N := 5) ?hd (cs := #[.int .i64 0, .int .i64 0, .int .i64 0, .int .i64 0]) (t := 23) ?hr ?_; (case hd => rfl); (case hg => rfl); (case hr => first | (go_simp; done) | (go_simp; rfl)); intro gb405 hg w13 hbox hb; have n0_ := Aside0.mk (blk_below (g := gb393) (o := .cells #[.int .i64 a0_0, .int .i64 a0_1, .int .i64 a0_2, .int .i64 a0_3] 23 (0, 0)) (by (with_reducible repeat (first | refine blk_drewN ?_ _ | refine blk_drew ?_ | refine blk_alloc ?_ _)); exact BK393.out) hb); have n1_ := Aside0.mk (blk_below (g := gb399) (o := .cells #[.int .i64 t394, .int .i64 t395, .int .i64 t396, .int .i64 t397] 23 (0, 0)) (by (with_reducible repeat (first | refine blk_drewN ?_ _ | refine blk_drew ?_ | refine blk_alloc ?_ _)); exact BK399.out) hb); have n2_ := Aside0.mk (below_step (by repeat (first | (with_reducible first | exact HB.out | apply below_alloc | apply pw_below_drewN | apply below_drew1 | refine below_set ?_ GE393.out | refine below_set ?_ GE399.out) | exact HB.out)) hb); have n3_ := Aside0.mk (hbox); have n4_ := Aside0.mk ((by rw [hg]; exact (below_size (by repeat (first | (with_reducible first | exact HB.out | apply below_alloc | apply pw_below_drewN | apply below_drew1 | refine below_set ?_ GE393.out | refine below_set ?_ GE399.out) | exact HB.out))) : w.heap.size ≤ gb405)); have n5_ := Aside0.mk ((by rw [hg]; exact (below_size (by repeat (first | (with_reducible first | exact HB.out | apply below_alloc | apply pw_below_drewN | apply below_drew1 | refine below_set ?_ GE393.out | refine below_set ?_ GE399.out) | exact HB.out))) : w.heap.size ≤ gb405)); have n6_ := Aside0.mk ((by rw [hg]; exact Nat.ne_of_lt (blk_lt (g := gb393) (o := .cells #[.int .i64 a0_0, .int .i64 a0_1, .int .i64 a0_2, .int .i64 a0_3] 23 (0, 0)) (by (with_reducible repeat (first | refine blk_drewN ?_ _ | refine blk_drew ?_ | refine blk_alloc ?_ _)); exact BK393.out)) : gb393 ≠ gb405)); have n7_ := Aside0.mk ((by rw [hg]; exact Nat.ne_of_gt (blk_lt (g := gb393) (o := .cells #[.int .i64 a0_0, .int .i64 a0_1, .int .i64 a0_2, .int .i64 a0_3] 23 (0, 0)) (by (with_reducible repeat (first | refine blk_drewN ?_ _ | refine blk_drew ?_ | refine blk_alloc ?_ _)); exact BK393.out)) : gb405 ≠ gb393)); have n8_ := Aside0.mk ((by rw [hg]; exact Nat.ne_of_lt (blk_lt (g := gb399) (o := .cells #[.int .i64 t394, .int .i64 t395, .int .i64 t396, .int .i64 t397] 23 (0, 0)) (by (with_reducible repeat (first | refine blk_drewN ?_ _ | refine blk_drew ?_ | refine blk_alloc ?_ _)); exact BK399.out)) : gb399 ≠ gb405)); have n9_ := Aside0.mk ((by rw [hg]; exact Nat.ne_of_gt (blk_lt (g := gb399) (o := .cells #[.int .i64 t394, .int .i64 t395, .int .i64 t396, .int .i64 t397] 23 (0, 0)) (by (with_reducible repeat (first | refine blk_drewN ?_ _ | refine blk_drew ?_ | refine blk_alloc ?_ _)); exact BK399.out)) : gb405 ≠ gb399)); clear BK393; clear BK399; clear HB; have BK393 := n0_; have BK399 := n1_; have HB := n2_; have BK405 := n3_; have GW405 := n4_; have GE405 := n5_; have NB393_405 := n6_; have NB405_393 := n7_; have NB399_405 := n8_; have NB405_399 := n9_; clear n0_ n1_ n2_ n3_ n4_ n5_ n6_ n7_ n8_ n9_; clear hb hbox hg; have hnb14 := NB405_393.out; have hnc14 := NB393_405.out; have hnb15 := NB405_399.out; have hnc15 := NB399_405.out; have hcz16_0 : w13.cell? ⟨gb405, 0, none⟩ = some (.int .i64 0) := (blk_cell BK405.out 0).trans rfl; have hcz16_1 : w13.cell? ⟨gb405, 1, none⟩ = some (.int .i64 0) := (blk_cell BK405.out 1).trans rfl; have hcz16_2 : w13.cell? ⟨gb405, 2, none⟩ = some (.int .i64 0) := (blk_cell BK405.out 2).trans rfl; have hcz16_3 : w13.cell? ⟨gb405, 3, none⟩ = some (.int .i64 0) := (blk_cell BK405.out 3).trans rfl; have hfz16_0 := blk_frozen BK405.out 0; have hfz16_1 := blk_frozen BK405.out 1; have hfz16_2 := blk_frozen BK405.out 2; have hfz16_3 := blk_frozen BK405.out 3))
  (try simp only [Act.put, List.setIfInBounds_toArray, List.set_cons_zero, List.set_cons_succ])
  go_cut [26] (fun v26 wc => ∃ (kq : Nat) (x26_3 : Bool), v26 = .bool x26_3 ∧ Aside0 (computuslaw16_SpanJustifies.j0 kq t404 x26_3 a0_0 a0_1 a0_2 a0_3 t394 t395 t396 t397 = some r) ∧ Aside0 (kq ≤ k) ∧ Aside0 (wc.heap[gb393]? = some (.cells #[.int .i64 a0_0, .int .i64 a0_1, .int .i64 a0_2, .int .i64 a0_3] 23 (0, 0))) ∧ Aside0 (wc.heap[gb399]? = some (.cells #[.int .i64 t394, .int .i64 t395, .int .i64 t396, .int .i64 t397] 23 (0, 0))) ∧ Aside0 (wc.heap[gb405]? = some (.cells #[.int .i64 t400, .int .i64 t401, .int .i64 t402, .int .i64 t403] 23 (0, 0))) ∧ Aside0 (Below w.heap.size w wc))
  case first =>
    have H := HC4.out
    clear HC4
    by_cases c17 : (!(t394 == t400) || (!(t395 == t401) || (!(t396 == t402) || (!(t397 == t403))))) = true
    · rw [if_pos c17] at H
      have c17b0 : (!(t394 == t400) || (!(t395 == t401) || (!(t396 == t402) || (!(t397 == t403))))) = true := c17
      clear c17
      (first | rw [c17b0] | (simp only [i64_w, i32_w]; rw [c17b0]) | skip)
      have H' := Aside0.mk H
      clear H
      have hnb18 := NB399_393.out
      have hnc18 := NB393_399.out
      have hnb19 := NB399_405.out
      have hnc19 := NB405_399.out
      have hcz20_0 : w13.cell? ⟨gb399, 0, none⟩ = some (.int .i64 t394) := (blk_cell BK399.out 0).trans rfl
      have hcz20_1 : w13.cell? ⟨gb399, 1, none⟩ = some (.int .i64 t395) := (blk_cell BK399.out 1).trans rfl
      have hcz20_2 : w13.cell? ⟨gb399, 2, none⟩ = some (.int .i64 t396) := (blk_cell BK399.out 2).trans rfl
      have hcz20_3 : w13.cell? ⟨gb399, 3, none⟩ = some (.int .i64 t397) := (blk_cell BK399.out 3).trans rfl
      have hfz20_0 := blk_frozen BK399.out 0
      have hfz20_1 := blk_frozen BK399.out 1
      have hfz20_2 := blk_frozen BK399.out 2
      have hfz20_3 := blk_frozen BK399.out 3
      have hnb21 := NB405_393.out
      have hnc21 := NB393_405.out
      have hcz22_0 : w13.cell? ⟨gb405, 0, none⟩ = some (.int .i64 0) := (blk_cell BK405.out 0).trans rfl
      have hcz22_1 : w13.cell? ⟨gb405, 1, none⟩ = some (.int .i64 0) := (blk_cell BK405.out 1).trans rfl
      have hcz22_2 : w13.cell? ⟨gb405, 2, none⟩ = some (.int .i64 0) := (blk_cell BK405.out 2).trans rfl
      have hcz22_3 : w13.cell? ⟨gb405, 3, none⟩ = some (.int .i64 0) := (blk_cell BK405.out 3).trans rfl
      have hfz22_0 := blk_frozen BK405.out 0
      have hfz22_1 := blk_frozen BK405.out 1
      have hfz22_2 := blk_frozen BK405.out 2
      have hfz22_3 := blk_frozen BK405.out 3
      go_wp2
      go_meet
      case rel => exact ⟨_, (true), (by first | rfl | (simp; done) | (simp [*]; done)), H', ⟨by first | omega | exact Nat.le_refl _⟩, ⟨by (with_reducible repeat (first | refine blk_drewN ?_ _ | refine blk_drew ?_ | refine blk_alloc ?_ _)); refine blk_far ?_ NB393_405.out _; (with_reducible repeat (first | refine blk_drewN ?_ _ | refine blk_drew ?_ | refine blk_alloc ?_ _)); refine blk_far ?_ NB393_405.out _; (with_reducible repeat (first | refine blk_drewN ?_ _ | refine blk_drew ?_ | refine blk_alloc ?_ _)); refine blk_far ?_ NB393_405.out _; (with_reducible repeat (first | refine blk_drewN ?_ _ | refine blk_drew ?_ | refine blk_alloc ?_ _)); refine blk_far ?_ NB393_405.out _; (with_reducible repeat (first | refine blk_drewN ?_ _ | refine blk_drew ?_ | refine blk_alloc ?_ _)); exact BK393.out⟩, ⟨by (with_reducible repeat (first | refine blk_drewN ?_ _ | refine blk_drew ?_ | refine blk_alloc ?_ _)); refine blk_far ?_ NB399_405.out _; (with_reducible repeat (first | refine blk_drewN ?_ _ | refine blk_drew ?_ | refine blk_alloc ?_ _)); refine blk_far ?_ NB399_405.out _; (with_reducible repeat (first | refine blk_drewN ?_ _ | refine blk_drew ?_ | refine blk_alloc ?_ _)); refine blk_far ?_ NB399_405.out _; (with_reducible repeat (first | refine blk_drewN ?_ _ | refine blk_drew ?_ | refine blk_alloc ?_ _)); refine blk_far ?_ NB399_405.out _; (with_reducible repeat (first | refine blk_drewN ?_ _ | refine blk_drew ?_ | refine blk_alloc ?_ _)); exact BK399.out⟩, ⟨by (with_reducible repeat (first | refine blk_drewN ?_ _ | refine blk_drew ?_ | refine blk_alloc ?_ _)); refine blk_put (cs := #[.int .i64 t400, .int .i64 t401, .int .i64 t402, .int .i64 0]) ?_ 3 _ rfl; (with_reducible repeat (first | refine blk_drewN ?_ _ | refine blk_drew ?_ | refine blk_alloc ?_ _)); refine blk_put (cs := #[.int .i64 t400, .int .i64 t401, .int .i64 0, .int .i64 0]) ?_ 2 _ rfl; (with_reducible repeat (first | refine blk_drewN ?_ _ | refine blk_drew ?_ | refine blk_alloc ?_ _)); refine blk_put (cs := #[.int .i64 t400, .int .i64 0, .int .i64 0, .int .i64 0]) ?_ 1 _ rfl; (with_reducible repeat (first | refine blk_drewN ?_ _ | refine blk_drew ?_ | refine blk_alloc ?_ _)); refine blk_put (cs := #[.int .i64 0, .int .i64 0, .int .i64 0, .int .i64 0]) ?_ 0 _ rfl; (with_reducible repeat (first | refine blk_drewN ?_ _ | refine blk_drew ?_ | refine blk_alloc ?_ _)); exact BK405.out⟩, ⟨by repeat (first | (with_reducible first | exact HB.out | apply below_alloc | apply pw_below_drewN | apply below_drew1 | refine below_set ?_ GE393.out | refine below_set ?_ GE399.out | refine below_set ?_ GE405.out) | exact HB.out)⟩⟩
    · rw [if_neg c17] at H
      have c17b0 : (!(t394 == t400) || (!(t395 == t401) || (!(t396 == t402) || (!(t397 == t403))))) = false := by simpa using c17
      clear c17
      (first | rw [c17b0] | (simp only [i64_w, i32_w]; rw [c17b0]) | skip)
      have H' := Aside0.mk H
      clear H
      have hnb23 := NB399_393.out
      have hnc23 := NB393_399.out
      have hnb24 := NB399_405.out
      have hnc24 := NB405_399.out
      have hcz25_0 : w13.cell? ⟨gb399, 0, none⟩ = some (.int .i64 t394) := (blk_cell BK399.out 0).trans rfl
      have hcz25_1 : w13.cell? ⟨gb399, 1, none⟩ = some (.int .i64 t395) := (blk_cell BK399.out 1).trans rfl
      have hcz25_2 : w13.cell? ⟨gb399, 2, none⟩ = some (.int .i64 t396) := (blk_cell BK399.out 2).trans rfl
      have hcz25_3 : w13.cell? ⟨gb399, 3, none⟩ = some (.int .i64 t397) := (blk_cell BK399.out 3).trans rfl
      have hfz25_0 := blk_frozen BK399.out 0
      have hfz25_1 := blk_frozen BK399.out 1
      have hfz25_2 := blk_frozen BK399.out 2
      have hfz25_3 := blk_frozen BK399.out 3
      have hnb26 := NB405_393.out
      have hnc26 := NB393_405.out
      have hcz27_0 : w13.cell? ⟨gb405, 0, none⟩ = some (.int .i64 0) := (blk_cell BK405.out 0).trans rfl
      have hcz27_1 : w13.cell? ⟨gb405, 1, none⟩ = some (.int .i64 0) := (blk_cell BK405.out 1).trans rfl
      have hcz27_2 : w13.cell? ⟨gb405, 2, none⟩ = some (.int .i64 0) := (blk_cell BK405.out 2).trans rfl
      have hcz27_3 : w13.cell? ⟨gb405, 3, none⟩ = some (.int .i64 0) := (blk_cell BK405.out 3).trans rfl
      have hfz27_0 := blk_frozen BK405.out 0
      have hfz27_1 := blk_frozen BK405.out 1
      have hfz27_2 := blk_frozen BK405.out 2
      have hfz27_3 := blk_frozen BK405.out 3
      go_wp2
      go_meet
      case rel => exact ⟨_, ((t398 != t404)), (by first | rfl | (simp; done) | (simp [*]; done)), H', ⟨by first | omega | exact Nat.le_refl _⟩, ⟨by (with_reducible repeat (first | refine blk_drewN ?_ _ | refine blk_drew ?_ | refine blk_alloc ?_ _)); refine blk_far ?_ NB393_405.out _; (with_reducible repeat (first | refine blk_drewN ?_ _ | refine blk_drew ?_ | refine blk_alloc ?_ _)); refine blk_far ?_ NB393_405.out _; (with_reducible repeat (first | refine blk_drewN ?_ _ | refine blk_drew ?_ | refine blk_alloc ?_ _)); refine blk_far ?_ NB393_405.out _; (with_reducible repeat (first | refine blk_drewN ?_ _ | refine blk_drew ?_ | refine blk_alloc ?_ _)); refine blk_far ?_ NB393_405.out _; (with_reducible repeat (first | refine blk_drewN ?_ _ | refine blk_drew ?_ | refine blk_alloc ?_ _)); exact BK393.out⟩, ⟨by (with_reducible repeat (first | refine blk_drewN ?_ _ | refine blk_drew ?_ | refine blk_alloc ?_ _)); refine blk_far ?_ NB399_405.out _; (with_reducible repeat (first | refine blk_drewN ?_ _ | refine blk_drew ?_ | refine blk_alloc ?_ _)); refine blk_far ?_ NB399_405.out _; (with_reducible repeat (first | refine blk_drewN ?_ _ | refine blk_drew ?_ | refine blk_alloc ?_ _)); refine blk_far ?_ NB399_405.out _; (with_reducible repeat (first | refine blk_drewN ?_ _ | refine blk_drew ?_ | refine blk_alloc ?_ _)); refine blk_far ?_ NB399_405.out _; (with_reducible repeat (first | refine blk_drewN ?_ _ | refine blk_drew ?_ | refine blk_alloc ?_ _)); exact BK399.out⟩, ⟨by (with_reducible repeat (first | refine blk_drewN ?_ _ | refine blk_drew ?_ | refine blk_alloc ?_ _)); refine blk_put (cs := #[.int .i64 t400, .int .i64 t401, .int .i64 t402, .int .i64 0]) ?_ 3 _ rfl; (with_reducible repeat (first | refine blk_drewN ?_ _ | refine blk_drew ?_ | refine blk_alloc ?_ _)); refine blk_put (cs := #[.int .i64 t400, .int .i64 t401, .int .i64 0, .int .i64 0]) ?_ 2 _ rfl; (with_reducible repeat (first | refine blk_drewN ?_ _ | refine blk_drew ?_ | refine blk_alloc ?_ _)); refine blk_put (cs := #[.int .i64 t400, .int .i64 0, .int .i64 0, .int .i64 0]) ?_ 1 _ rfl; (with_reducible repeat (first | refine blk_drewN ?_ _ | refine blk_drew ?_ | refine blk_alloc ?_ _)); refine blk_put (cs := #[.int .i64 0, .int .i64 0, .int .i64 0, .int .i64 0]) ?_ 0 _ rfl; (with_reducible repeat (first | refine blk_drewN ?_ _ | refine blk_drew ?_ | refine blk_alloc ?_ _)); exact BK405.out⟩, ⟨by repeat (first | (with_reducible first | exact HB.out | apply below_alloc | apply pw_below_drewN | apply below_drew1 | refine below_set ?_ GE393.out | refine below_set ?_ GE399.out | refine below_set ?_ GE405.out) | exact HB.out)⟩⟩
  case rest =>
    clear HC4
    try clear c1
    try clear c2
    try clear p2
    try clear c4
    try clear c9
    try clear c14
    try clear c15
    try clear c16
    try clear c17
    try clear c17b0
    try clear c18
    try clear c19
    try clear c21
    try clear c23
    try clear c24
    try clear c26
    try clear hcz10_0
    try clear hcz10_1
    try clear hcz10_2
    try clear hcz10_3
    try clear hcz11_0
    try clear hcz11_1
    try clear hcz11_2
    try clear hcz11_3
    try clear hcz16_0
    try clear hcz16_1
    try clear hcz16_2
    try clear hcz16_3
    try clear hcz20_0
    try clear hcz20_1
    try clear hcz20_2
    try clear hcz20_3
    try clear hcz22_0
    try clear hcz22_1
    try clear hcz22_2
    try clear hcz22_3
    try clear hcz25_0
    try clear hcz25_1
    try clear hcz25_2
    try clear hcz25_3
    try clear hcz27_0
    try clear hcz27_1
    try clear hcz27_2
    try clear hcz27_3
    try clear hcz6_0
    try clear hcz6_1
    try clear hcz6_2
    try clear hcz6_3
    try clear hfz10_0
    try clear hfz10_1
    try clear hfz10_2
    try clear hfz10_3
    try clear hfz11_0
    try clear hfz11_1
    try clear hfz11_2
    try clear hfz11_3
    try clear hfz16_0
    try clear hfz16_1
    try clear hfz16_2
    try clear hfz16_3
    try clear hfz20_0
    try clear hfz20_1
    try clear hfz20_2
    try clear hfz20_3
    try clear hfz22_0
    try clear hfz22_1
    try clear hfz22_2
    try clear hfz22_3
    try clear hfz25_0
    try clear hfz25_1
    try clear hfz25_2
    try clear hfz25_3
    try clear hfz27_0
    try clear hfz27_1
    try clear hfz27_2
    try clear hfz27_3
    try clear hfz6_0
    try clear hfz6_1
    try clear hfz6_2
    try clear hfz6_3
    obtain ⟨kq, x26_3, rfl, HA, HJ3, BK393, BK399, BK405, HB⟩ := hcut
    cases kq with
    | zero => exact absurd HA.out (by simp [computuslaw16_SpanJustifies.j0])
    | succ kj3 =>
      have H := HA.out
      clear HA
      simp only [computuslaw16_SpanJustifies.j0] at H
      by_cases c28 : x26_3 = true
      · subst c28
        have H1 : (some false) = some r := by rw [if_pos rfl] at H; exact H
        clear H
        have H := H1
        clear H1
        exact absurd (Option.some.inj H) (by rw [HRT.out]; decide)
      · replace c28 := Bool.eq_false_iff.mpr c28
        subst c28
        have H1 : (if t404 = 0 then (if t395 > 0 then (if t395 < 0 then ((span_Cmp.f kj3 a0_0 a0_1 a0_2 a0_3 t394 t395 t396 t397).bind fun t406 => (if t406 = 0 then (some false) else (some false))) else (if t396 < 0 then ((span_Cmp.f kj3 a0_0 a0_1 a0_2 a0_3 t394 t395 t396 t397).bind fun t407 => (if t407 = 0 then (some false) else (some false))) else ((span_Cmp.f kj3 a0_0 a0_1 a0_2 a0_3 t394 t395 t396 t397).bind fun t408 => (if t408 = 0 then (if t397 < 0 then (some false) else ((computuslaw16_known.f kj3).bind fun t409 => (some t409))) else (some false))))) else (if t396 > 0 then (if t395 < 0 then ((span_Cmp.f kj3 a0_0 a0_1 a0_2 a0_3 t394 t395 t396 t397).bind fun t410 => (if t410 = 0 then (some false) else (some false))) else (if t396 < 0 then ((span_Cmp.f kj3 a0_0 a0_1 a0_2 a0_3 t394 t395 t396 t397).bind fun t411 => (if t411 = 0 then (some false) else (some false))) else ((span_Cmp.f kj3 a0_0 a0_1 a0_2 a0_3 t394 t395 t396 t397).bind fun t412 => (if t412 = 0 then (if t397 < 0 then (some false) else ((computuslaw16_known.f kj3).bind fun t413 => (some t413))) else (some false))))) else (if t395 < 0 then ((span_Cmp.f kj3 a0_0 a0_1 a0_2 a0_3 t394 t395 t396 t397).bind fun t414 => (if t414 = 0 then (if t397 > 0 then (some false) else ((computuslaw16_known.f kj3).bind fun t415 => (some t415))) else (some false))) else (if t396 < 0 then ((span_Cmp.f kj3 a0_0 a0_1 a0_2 a0_3 t394 t395 t396 t397).bind fun t416 => (if t416 = 0 then (if t397 > 0 then (some false) else ((computuslaw16_known.f kj3).bind fun t417 => (some t417))) else (some false))) else ((span_Cmp.f kj3 a0_0 a0_1 a0_2 a0_3 t394 t395 t396 t397).bind fun t418 => (if t418 = 0 then (if t397 > 0 then (if t397 < 0 then (some false) else ((computuslaw16_known.f kj3).bind fun t419 => (some t419))) else ((computuslaw16_known.f kj3).bind fun t420 => (some t420))) else (some false))))))) else ((computuslaw16_known.f kj3).bind fun t421 => (some t421))) = some r := by rw [if_neg (show ¬ (false = true) by decide)] at H; exact H
        clear H
        have H := H1
        clear H1
        by_cases c29 : t404 = 0
        · rw [if_pos c29] at H
          have c29b0 : (t404 == 0) = true := beq_iff_eq.mpr c29
          have c29b1 : (t404 != 0) = false := bne_eq_false_iff_eq.mpr c29
          clear c29
          by_cases c30 : t395 > 0
          · rw [if_pos c30] at H
            have c30b0 : decide (0 < t395) = true := decide_eq_true c30
            clear c30
            by_cases c31 : t395 < 0
            · rw [if_pos c31] at H
              have c31b0 : decide (t395 < 0) = true := decide_eq_true c31
              clear c31
              replace H := Option.bind_eq_some_iff.mp H
              obtain ⟨t406, A320, H⟩ := H
              replace H : (if t406 = 0 then (some false) else (some false)) = some r := H
              have A32 := Aside0.mk A320
              clear A320
              by_cases c33 : t406 = 0
              · rw [if_pos c33] at H
                have c33b0 : (t406 == 0) = true := beq_iff_eq.mpr c33
                have c33b1 : (t406 != 0) = false := bne_eq_false_iff_eq.mpr c33
                clear c33
                exact absurd (Option.some.inj H) (by rw [HRT.out]; decide)
              · rw [if_neg c33] at H
                have c33b0 : (t406 == 0) = false := beq_eq_false_iff_ne.mpr c33
                have c33b1 : (t406 != 0) = true := bne_iff_ne.mpr c33
                exact absurd (Option.some.inj H) (by rw [HRT.out]; decide)
            · rw [if_neg c31] at H
              have c31b0 : decide (t395 < 0) = false := decide_eq_false c31
              clear c31
              by_cases c34 : t396 < 0
              · rw [if_pos c34] at H
                have c34b0 : decide (t396 < 0) = true := decide_eq_true c34
                clear c34
                replace H := Option.bind_eq_some_iff.mp H
                obtain ⟨t407, A350, H⟩ := H
                replace H : (if t407 = 0 then (some false) else (some false)) = some r := H
                have A35 := Aside0.mk A350
                clear A350
                by_cases c36 : t407 = 0
                · rw [if_pos c36] at H
                  have c36b0 : (t407 == 0) = true := beq_iff_eq.mpr c36
                  have c36b1 : (t407 != 0) = false := bne_eq_false_iff_eq.mpr c36
                  clear c36
                  exact absurd (Option.some.inj H) (by rw [HRT.out]; decide)
                · rw [if_neg c36] at H
                  have c36b0 : (t407 == 0) = false := beq_eq_false_iff_ne.mpr c36
                  have c36b1 : (t407 != 0) = true := bne_iff_ne.mpr c36
                  exact absurd (Option.some.inj H) (by rw [HRT.out]; decide)
              · rw [if_neg c34] at H
                have c34b0 : decide (t396 < 0) = false := decide_eq_false c34
                clear c34
                replace H := Option.bind_eq_some_iff.mp H
                obtain ⟨t408, A370, H⟩ := H
                replace H : (if t408 = 0 then (if t397 < 0 then (some false) else ((computuslaw16_known.f kj3).bind fun t409 => (some t409))) else (some false)) = some r := H
                have A37 := Aside0.mk A370
                clear A370
                by_cases c38 : t408 = 0
                · rw [if_pos c38] at H
                  have c38b0 : (t408 == 0) = true := beq_iff_eq.mpr c38
                  have c38b1 : (t408 != 0) = false := bne_eq_false_iff_eq.mpr c38
                  clear c38
                  by_cases c39 : t397 < 0
                  · rw [if_pos c39] at H
                    have c39b0 : decide (t397 < 0) = true := decide_eq_true c39
                    clear c39
                    exact absurd (Option.some.inj H) (by rw [HRT.out]; decide)
                  · rw [if_neg c39] at H
                    have c39b0 : decide (t397 < 0) = false := decide_eq_false c39
                    clear c39
                    replace H := Option.bind_eq_some_iff.mp H
                    obtain ⟨t409, A400, H⟩ := H
                    replace H : (some t409) = some r := H
                    have A40 := Aside0.mk A400
                    clear A400
                    obtain rfl := Option.some.inj H
                    have hnb41 := NB399_393.out
                    have hnc41 := NB393_399.out
                    have hnb42 := NB399_405.out
                    have hnc42 := NB405_399.out
                    have hcz43_0 : wc.cell? ⟨gb399, 0, none⟩ = some (.int .i64 t394) := (blk_cell BK399.out 0).trans rfl
                    have hcz43_1 : wc.cell? ⟨gb399, 1, none⟩ = some (.int .i64 t395) := (blk_cell BK399.out 1).trans rfl
                    have hcz43_2 : wc.cell? ⟨gb399, 2, none⟩ = some (.int .i64 t396) := (blk_cell BK399.out 2).trans rfl
                    have hcz43_3 : wc.cell? ⟨gb399, 3, none⟩ = some (.int .i64 t397) := (blk_cell BK399.out 3).trans rfl
                    have hfz43_0 := blk_frozen BK399.out 0
                    have hfz43_1 := blk_frozen BK399.out 1
                    have hfz43_2 := blk_frozen BK399.out 2
                    have hfz43_3 := blk_frozen BK399.out 3
                    have hnb44 := NB393_405.out
                    have hnc44 := NB405_393.out
                    have hcz45_0 : wc.cell? ⟨gb393, 0, none⟩ = some (.int .i64 a0_0) := (blk_cell BK393.out 0).trans rfl
                    have hcz45_1 : wc.cell? ⟨gb393, 1, none⟩ = some (.int .i64 a0_1) := (blk_cell BK393.out 1).trans rfl
                    have hcz45_2 : wc.cell? ⟨gb393, 2, none⟩ = some (.int .i64 a0_2) := (blk_cell BK393.out 2).trans rfl
                    have hcz45_3 : wc.cell? ⟨gb393, 3, none⟩ = some (.int .i64 a0_3) := (blk_cell BK393.out 3).trans rfl
                    have hfz45_0 := blk_frozen BK393.out 0
                    have hfz45_1 := blk_frozen BK393.out 1
                    have hfz45_2 := blk_frozen BK393.out 2
                    have hfz45_3 := blk_frozen BK393.out 3
                    go_wp2_with (first | ((with_reducible refine gate_callee (f := 10) rfl ?_); refine goesL_ (some 58) rfl rfl Try.func10 (by kernel_rfl) rfl #[.agg #[.int .i64 a0_0, .int .i64 a0_1, .int .i64 a0_2, .int .i64 a0_3], .agg #[.int .i64 t394, .int .i64 t395, .int .i64 t396, .int .i64 t397]] rfl (by (try simp only [List.map_toArray, List.map_cons, List.map_nil]); first | done | rfl | (simp only [List.length_drop, List.length_take]; rfl)) ?_; (with_reducible refine (span_Cmp.calls kj3 a0_0 a0_1 a0_2 a0_3 t394 t395 t396 t397 t408 _ A37.out).mono ?_); rintro e w46 ⟨rfl, hb⟩; refine ⟨_, rfl, ?_⟩; have n0_ := Aside0.mk (blk_below (g := gb393) (o := .cells #[.int .i64 a0_0, .int .i64 a0_1, .int .i64 a0_2, .int .i64 a0_3] 23 (0, 0)) (by (with_reducible repeat (first | refine blk_drewN ?_ _ | refine blk_drew ?_ | refine blk_alloc ?_ _)); exact BK393.out) hb); have n1_ := Aside0.mk (blk_below (g := gb399) (o := .cells #[.int .i64 t394, .int .i64 t395, .int .i64 t396, .int .i64 t397] 23 (0, 0)) (by (with_reducible repeat (first | refine blk_drewN ?_ _ | refine blk_drew ?_ | refine blk_alloc ?_ _)); exact BK399.out) hb); have n2_ := Aside0.mk (blk_below (g := gb405) (o := .cells #[.int .i64 t400, .int .i64 t401, .int .i64 t402, .int .i64 t403] 23 (0, 0)) (by (with_reducible repeat (first | refine blk_drewN ?_ _ | refine blk_drew ?_ | refine blk_alloc ?_ _)); exact BK405.out) hb); have n3_ := Aside0.mk (below_step (by repeat (first | (with_reducible first | exact HB.out | apply below_alloc | apply pw_below_drewN | apply below_drew1 | refine below_set ?_ GE393.out | refine below_set ?_ GE399.out | refine below_set ?_ GE405.out) | exact HB.out)) hb); clear BK393; clear BK399; clear BK405; clear HB; have BK393 := n0_; have BK399 := n1_; have BK405 := n2_; have HB := n3_; clear n0_ n1_ n2_ n3_; (try clear hb); (try clear hb2); (try clear hk); (try clear hi)) | (go_at_call 15; (with_reducible refine (computuslaw16_known.calls kj3  t409 _ A40.out HRT.out).mono ?_); rintro e w47 ⟨rfl, hb⟩; have n0_ := Aside0.mk (blk_below (g := gb393) (o := .cells #[.int .i64 a0_0, .int .i64 a0_1, .int .i64 a0_2, .int .i64 a0_3] 23 (0, 0)) (by (with_reducible repeat (first | refine blk_drewN ?_ _ | refine blk_drew ?_ | refine blk_alloc ?_ _)); exact BK393.out) hb); have n1_ := Aside0.mk (blk_below (g := gb399) (o := .cells #[.int .i64 t394, .int .i64 t395, .int .i64 t396, .int .i64 t397] 23 (0, 0)) (by (with_reducible repeat (first | refine blk_drewN ?_ _ | refine blk_drew ?_ | refine blk_alloc ?_ _)); exact BK399.out) hb); have n2_ := Aside0.mk (blk_below (g := gb405) (o := .cells #[.int .i64 t400, .int .i64 t401, .int .i64 t402, .int .i64 t403] 23 (0, 0)) (by (with_reducible repeat (first | refine blk_drewN ?_ _ | refine blk_drew ?_ | refine blk_alloc ?_ _)); exact BK405.out) hb); have n3_ := Aside0.mk (below_step (by repeat (first | (with_reducible first | exact HB.out | apply below_alloc | apply pw_below_drewN | apply below_drew1 | refine below_set ?_ GE393.out | refine below_set ?_ GE399.out | refine below_set ?_ GE405.out) | exact HB.out)) hb); clear BK393; clear BK399; clear BK405; clear HB; have BK393 := n0_; have BK399 := n1_; have BK405 := n2_; have HB := n3_; clear n0_ n1_ n2_ n3_; (try clear hb); (try clear hb2); (try clear hk); (try clear hi)))
                    go_ret
                    exact ⟨by first | rfl | (simp [errW_none, errW_some] <;> rfl) | (simp [*, errW_none, errW_some] <;> rfl), by repeat (first | (with_reducible first | exact HB.out | apply below_alloc | apply pw_below_drewN | apply below_drew1 | refine below_set ?_ GE393.out | refine below_set ?_ GE399.out | refine below_set ?_ GE405.out) | exact HB.out)⟩
                · rw [if_neg c38] at H
                  have c38b0 : (t408 == 0) = false := beq_eq_false_iff_ne.mpr c38
                  have c38b1 : (t408 != 0) = true := bne_iff_ne.mpr c38
                  exact absurd (Option.some.inj H) (by rw [HRT.out]; decide)
          · rw [if_neg c30] at H
            have c30b0 : decide (0 < t395) = false := decide_eq_false c30
            clear c30
            by_cases c48 : t396 > 0
            · rw [if_pos c48] at H
              have c48b0 : decide (0 < t396) = true := decide_eq_true c48
              clear c48
              by_cases c49 : t395 < 0
              · rw [if_pos c49] at H
                have c49b0 : decide (t395 < 0) = true := decide_eq_true c49
                clear c49
                replace H := Option.bind_eq_some_iff.mp H
                obtain ⟨t410, A500, H⟩ := H
                replace H : (if t410 = 0 then (some false) else (some false)) = some r := H
                have A50 := Aside0.mk A500
                clear A500
                by_cases c51 : t410 = 0
                · rw [if_pos c51] at H
                  have c51b0 : (t410 == 0) = true := beq_iff_eq.mpr c51
                  have c51b1 : (t410 != 0) = false := bne_eq_false_iff_eq.mpr c51
                  clear c51
                  exact absurd (Option.some.inj H) (by rw [HRT.out]; decide)
                · rw [if_neg c51] at H
                  have c51b0 : (t410 == 0) = false := beq_eq_false_iff_ne.mpr c51
                  have c51b1 : (t410 != 0) = true := bne_iff_ne.mpr c51
                  exact absurd (Option.some.inj H) (by rw [HRT.out]; decide)
              · rw [if_neg c49] at H
                have c49b0 : decide (t395 < 0) = false := decide_eq_false c49
                clear c49
                by_cases c52 : t396 < 0
                · rw [if_pos c52] at H
                  have c52b0 : decide (t396 < 0) = true := decide_eq_true c52
                  clear c52
                  replace H := Option.bind_eq_some_iff.mp H
                  obtain ⟨t411, A530, H⟩ := H
                  replace H : (if t411 = 0 then (some false) else (some false)) = some r := H
                  have A53 := Aside0.mk A530
                  clear A530
                  by_cases c54 : t411 = 0
                  · rw [if_pos c54] at H
                    have c54b0 : (t411 == 0) = true := beq_iff_eq.mpr c54
                    have c54b1 : (t411 != 0) = false := bne_eq_false_iff_eq.mpr c54
                    clear c54
                    exact absurd (Option.some.inj H) (by rw [HRT.out]; decide)
                  · rw [if_neg c54] at H
                    have c54b0 : (t411 == 0) = false := beq_eq_false_iff_ne.mpr c54
                    have c54b1 : (t411 != 0) = true := bne_iff_ne.mpr c54
                    exact absurd (Option.some.inj H) (by rw [HRT.out]; decide)
                · rw [if_neg c52] at H
                  have c52b0 : decide (t396 < 0) = false := decide_eq_false c52
                  clear c52
                  replace H := Option.bind_eq_some_iff.mp H
                  obtain ⟨t412, A550, H⟩ := H
                  replace H : (if t412 = 0 then (if t397 < 0 then (some false) else ((computuslaw16_known.f kj3).bind fun t413 => (some t413))) else (some false)) = some r := H
                  have A55 := Aside0.mk A550
                  clear A550
                  by_cases c56 : t412 = 0
                  · rw [if_pos c56] at H
                    have c56b0 : (t412 == 0) = true := beq_iff_eq.mpr c56
                    have c56b1 : (t412 != 0) = false := bne_eq_false_iff_eq.mpr c56
                    clear c56
                    by_cases c57 : t397 < 0
                    · rw [if_pos c57] at H
                      have c57b0 : decide (t397 < 0) = true := decide_eq_true c57
                      clear c57
                      exact absurd (Option.some.inj H) (by rw [HRT.out]; decide)
                    · rw [if_neg c57] at H
                      have c57b0 : decide (t397 < 0) = false := decide_eq_false c57
                      clear c57
                      replace H := Option.bind_eq_some_iff.mp H
                      obtain ⟨t413, A580, H⟩ := H
                      replace H : (some t413) = some r := H
                      have A58 := Aside0.mk A580
                      clear A580
                      obtain rfl := Option.some.inj H
                      have hnb59 := NB399_393.out
                      have hnc59 := NB393_399.out
                      have hnb60 := NB399_405.out
                      have hnc60 := NB405_399.out
                      have hcz61_0 : wc.cell? ⟨gb399, 0, none⟩ = some (.int .i64 t394) := (blk_cell BK399.out 0).trans rfl
                      have hcz61_1 : wc.cell? ⟨gb399, 1, none⟩ = some (.int .i64 t395) := (blk_cell BK399.out 1).trans rfl
                      have hcz61_2 : wc.cell? ⟨gb399, 2, none⟩ = some (.int .i64 t396) := (blk_cell BK399.out 2).trans rfl
                      have hcz61_3 : wc.cell? ⟨gb399, 3, none⟩ = some (.int .i64 t397) := (blk_cell BK399.out 3).trans rfl
                      have hfz61_0 := blk_frozen BK399.out 0
                      have hfz61_1 := blk_frozen BK399.out 1
                      have hfz61_2 := blk_frozen BK399.out 2
                      have hfz61_3 := blk_frozen BK399.out 3
                      have hnb62 := NB393_405.out
                      have hnc62 := NB405_393.out
                      have hcz63_0 : wc.cell? ⟨gb393, 0, none⟩ = some (.int .i64 a0_0) := (blk_cell BK393.out 0).trans rfl
                      have hcz63_1 : wc.cell? ⟨gb393, 1, none⟩ = some (.int .i64 a0_1) := (blk_cell BK393.out 1).trans rfl
                      have hcz63_2 : wc.cell? ⟨gb393, 2, none⟩ = some (.int .i64 a0_2) := (blk_cell BK393.out 2).trans rfl
                      have hcz63_3 : wc.cell? ⟨gb393, 3, none⟩ = some (.int .i64 a0_3) := (blk_cell BK393.out 3).trans rfl
                      have hfz63_0 := blk_frozen BK393.out 0
                      have hfz63_1 := blk_frozen BK393.out 1
                      have hfz63_2 := blk_frozen BK393.out 2
                      have hfz63_3 := blk_frozen BK393.out 3
                      go_wp2_with (first | ((with_reducible refine gate_callee (f := 10) rfl ?_); refine goesL_ (some 58) rfl rfl Try.func10 (by kernel_rfl) rfl #[.agg #[.int .i64 a0_0, .int .i64 a0_1, .int .i64 a0_2, .int .i64 a0_3], .agg #[.int .i64 t394, .int .i64 t395, .int .i64 t396, .int .i64 t397]] rfl (by (try simp only [List.map_toArray, List.map_cons, List.map_nil]); first | done | rfl | (simp only [List.length_drop, List.length_take]; rfl)) ?_; (with_reducible refine (span_Cmp.calls kj3 a0_0 a0_1 a0_2 a0_3 t394 t395 t396 t397 t412 _ A55.out).mono ?_); rintro e w64 ⟨rfl, hb⟩; refine ⟨_, rfl, ?_⟩; have n0_ := Aside0.mk (blk_below (g := gb393) (o := .cells #[.int .i64 a0_0, .int .i64 a0_1, .int .i64 a0_2, .int .i64 a0_3] 23 (0, 0)) (by (with_reducible repeat (first | refine blk_drewN ?_ _ | refine blk_drew ?_ | refine blk_alloc ?_ _)); exact BK393.out) hb); have n1_ := Aside0.mk (blk_below (g := gb399) (o := .cells #[.int .i64 t394, .int .i64 t395, .int .i64 t396, .int .i64 t397] 23 (0, 0)) (by (with_reducible repeat (first | refine blk_drewN ?_ _ | refine blk_drew ?_ | refine blk_alloc ?_ _)); exact BK399.out) hb); have n2_ := Aside0.mk (blk_below (g := gb405) (o := .cells #[.int .i64 t400, .int .i64 t401, .int .i64 t402, .int .i64 t403] 23 (0, 0)) (by (with_reducible repeat (first | refine blk_drewN ?_ _ | refine blk_drew ?_ | refine blk_alloc ?_ _)); exact BK405.out) hb); have n3_ := Aside0.mk (below_step (by repeat (first | (with_reducible first | exact HB.out | apply below_alloc | apply pw_below_drewN | apply below_drew1 | refine below_set ?_ GE393.out | refine below_set ?_ GE399.out | refine below_set ?_ GE405.out) | exact HB.out)) hb); clear BK393; clear BK399; clear BK405; clear HB; have BK393 := n0_; have BK399 := n1_; have BK405 := n2_; have HB := n3_; clear n0_ n1_ n2_ n3_; (try clear hb); (try clear hb2); (try clear hk); (try clear hi)) | (go_at_call 15; (with_reducible refine (computuslaw16_known.calls kj3  t413 _ A58.out HRT.out).mono ?_); rintro e w65 ⟨rfl, hb⟩; have n0_ := Aside0.mk (blk_below (g := gb393) (o := .cells #[.int .i64 a0_0, .int .i64 a0_1, .int .i64 a0_2, .int .i64 a0_3] 23 (0, 0)) (by (with_reducible repeat (first | refine blk_drewN ?_ _ | refine blk_drew ?_ | refine blk_alloc ?_ _)); exact BK393.out) hb); have n1_ := Aside0.mk (blk_below (g := gb399) (o := .cells #[.int .i64 t394, .int .i64 t395, .int .i64 t396, .int .i64 t397] 23 (0, 0)) (by (with_reducible repeat (first | refine blk_drewN ?_ _ | refine blk_drew ?_ | refine blk_alloc ?_ _)); exact BK399.out) hb); have n2_ := Aside0.mk (blk_below (g := gb405) (o := .cells #[.int .i64 t400, .int .i64 t401, .int .i64 t402, .int .i64 t403] 23 (0, 0)) (by (with_reducible repeat (first | refine blk_drewN ?_ _ | refine blk_drew ?_ | refine blk_alloc ?_ _)); exact BK405.out) hb); have n3_ := Aside0.mk (below_step (by repeat (first | (with_reducible first | exact HB.out | apply below_alloc | apply pw_below_drewN | apply below_drew1 | refine below_set ?_ GE393.out | refine below_set ?_ GE399.out | refine below_set ?_ GE405.out) | exact HB.out)) hb); clear BK393; clear BK399; clear BK405; clear HB; have BK393 := n0_; have BK399 := n1_; have BK405 := n2_; have HB := n3_; clear n0_ n1_ n2_ n3_; (try clear hb); (try clear hb2); (try clear hk); (try clear hi)))
                      go_ret
                      exact ⟨by first | rfl | (simp [errW_none, errW_some] <;> rfl) | (simp [*, errW_none, errW_some] <;> rfl), by repeat (first | (with_reducible first | exact HB.out | apply below_alloc | apply pw_below_drewN | apply below_drew1 | refine below_set ?_ GE393.out | refine below_set ?_ GE399.out | refine below_set ?_ GE405.out) | exact HB.out)⟩
                  · rw [if_neg c56] at H
                    have c56b0 : (t412 == 0) = false := beq_eq_false_iff_ne.mpr c56
                    have c56b1 : (t412 != 0) = true := bne_iff_ne.mpr c56
                    exact absurd (Option.some.inj H) (by rw [HRT.out]; decide)
            · rw [if_neg c48] at H
              have c48b0 : decide (0 < t396) = false := decide_eq_false c48
              clear c48
              by_cases c66 : t395 < 0
              · rw [if_pos c66] at H
                have c66b0 : decide (t395 < 0) = true := decide_eq_true c66
                clear c66
                replace H := Option.bind_eq_some_iff.mp H
                obtain ⟨t414, A670, H⟩ := H
                replace H : (if t414 = 0 then (if t397 > 0 then (some false) else ((computuslaw16_known.f kj3).bind fun t415 => (some t415))) else (some false)) = some r := H
                have A67 := Aside0.mk A670
                clear A670
                by_cases c68 : t414 = 0
                · rw [if_pos c68] at H
                  have c68b0 : (t414 == 0) = true := beq_iff_eq.mpr c68
                  have c68b1 : (t414 != 0) = false := bne_eq_false_iff_eq.mpr c68
                  clear c68
                  by_cases c69 : t397 > 0
                  · rw [if_pos c69] at H
                    have c69b0 : decide (0 < t397) = true := decide_eq_true c69
                    clear c69
                    exact absurd (Option.some.inj H) (by rw [HRT.out]; decide)
                  · rw [if_neg c69] at H
                    have c69b0 : decide (0 < t397) = false := decide_eq_false c69
                    clear c69
                    replace H := Option.bind_eq_some_iff.mp H
                    obtain ⟨t415, A700, H⟩ := H
                    replace H : (some t415) = some r := H
                    have A70 := Aside0.mk A700
                    clear A700
                    obtain rfl := Option.some.inj H
                    have hnb71 := NB399_393.out
                    have hnc71 := NB393_399.out
                    have hnb72 := NB399_405.out
                    have hnc72 := NB405_399.out
                    have hcz73_0 : wc.cell? ⟨gb399, 0, none⟩ = some (.int .i64 t394) := (blk_cell BK399.out 0).trans rfl
                    have hcz73_1 : wc.cell? ⟨gb399, 1, none⟩ = some (.int .i64 t395) := (blk_cell BK399.out 1).trans rfl
                    have hcz73_2 : wc.cell? ⟨gb399, 2, none⟩ = some (.int .i64 t396) := (blk_cell BK399.out 2).trans rfl
                    have hcz73_3 : wc.cell? ⟨gb399, 3, none⟩ = some (.int .i64 t397) := (blk_cell BK399.out 3).trans rfl
                    have hfz73_0 := blk_frozen BK399.out 0
                    have hfz73_1 := blk_frozen BK399.out 1
                    have hfz73_2 := blk_frozen BK399.out 2
                    have hfz73_3 := blk_frozen BK399.out 3
                    have hnb74 := NB393_405.out
                    have hnc74 := NB405_393.out
                    have hcz75_0 : wc.cell? ⟨gb393, 0, none⟩ = some (.int .i64 a0_0) := (blk_cell BK393.out 0).trans rfl
                    have hcz75_1 : wc.cell? ⟨gb393, 1, none⟩ = some (.int .i64 a0_1) := (blk_cell BK393.out 1).trans rfl
                    have hcz75_2 : wc.cell? ⟨gb393, 2, none⟩ = some (.int .i64 a0_2) := (blk_cell BK393.out 2).trans rfl
                    have hcz75_3 : wc.cell? ⟨gb393, 3, none⟩ = some (.int .i64 a0_3) := (blk_cell BK393.out 3).trans rfl
                    have hfz75_0 := blk_frozen BK393.out 0
                    have hfz75_1 := blk_frozen BK393.out 1
                    have hfz75_2 := blk_frozen BK393.out 2
                    have hfz75_3 := blk_frozen BK393.out 3
                    go_wp2_with (first | ((with_reducible refine gate_callee (f := 10) rfl ?_); refine goesL_ (some 58) rfl rfl Try.func10 (by kernel_rfl) rfl #[.agg #[.int .i64 a0_0, .int .i64 a0_1, .int .i64 a0_2, .int .i64 a0_3], .agg #[.int .i64 t394, .int .i64 t395, .int .i64 t396, .int .i64 t397]] rfl (by (try simp only [List.map_toArray, List.map_cons, List.map_nil]); first | done | rfl | (simp only [List.length_drop, List.length_take]; rfl)) ?_; (with_reducible refine (span_Cmp.calls kj3 a0_0 a0_1 a0_2 a0_3 t394 t395 t396 t397 t414 _ A67.out).mono ?_); rintro e w76 ⟨rfl, hb⟩; refine ⟨_, rfl, ?_⟩; have n0_ := Aside0.mk (blk_below (g := gb393) (o := .cells #[.int .i64 a0_0, .int .i64 a0_1, .int .i64 a0_2, .int .i64 a0_3] 23 (0, 0)) (by (with_reducible repeat (first | refine blk_drewN ?_ _ | refine blk_drew ?_ | refine blk_alloc ?_ _)); exact BK393.out) hb); have n1_ := Aside0.mk (blk_below (g := gb399) (o := .cells #[.int .i64 t394, .int .i64 t395, .int .i64 t396, .int .i64 t397] 23 (0, 0)) (by (with_reducible repeat (first | refine blk_drewN ?_ _ | refine blk_drew ?_ | refine blk_alloc ?_ _)); exact BK399.out) hb); have n2_ := Aside0.mk (blk_below (g := gb405) (o := .cells #[.int .i64 t400, .int .i64 t401, .int .i64 t402, .int .i64 t403] 23 (0, 0)) (by (with_reducible repeat (first | refine blk_drewN ?_ _ | refine blk_drew ?_ | refine blk_alloc ?_ _)); exact BK405.out) hb); have n3_ := Aside0.mk (below_step (by repeat (first | (with_reducible first | exact HB.out | apply below_alloc | apply pw_below_drewN | apply below_drew1 | refine below_set ?_ GE393.out | refine below_set ?_ GE399.out | refine below_set ?_ GE405.out) | exact HB.out)) hb); clear BK393; clear BK399; clear BK405; clear HB; have BK393 := n0_; have BK399 := n1_; have BK405 := n2_; have HB := n3_; clear n0_ n1_ n2_ n3_; (try clear hb); (try clear hb2); (try clear hk); (try clear hi)) | (go_at_call 15; (with_reducible refine (computuslaw16_known.calls kj3  t415 _ A70.out HRT.out).mono ?_); rintro e w77 ⟨rfl, hb⟩; have n0_ := Aside0.mk (blk_below (g := gb393) (o := .cells #[.int .i64 a0_0, .int .i64 a0_1, .int .i64 a0_2, .int .i64 a0_3] 23 (0, 0)) (by (with_reducible repeat (first | refine blk_drewN ?_ _ | refine blk_drew ?_ | refine blk_alloc ?_ _)); exact BK393.out) hb); have n1_ := Aside0.mk (blk_below (g := gb399) (o := .cells #[.int .i64 t394, .int .i64 t395, .int .i64 t396, .int .i64 t397] 23 (0, 0)) (by (with_reducible repeat (first | refine blk_drewN ?_ _ | refine blk_drew ?_ | refine blk_alloc ?_ _)); exact BK399.out) hb); have n2_ := Aside0.mk (blk_below (g := gb405) (o := .cells #[.int .i64 t400, .int .i64 t401, .int .i64 t402, .int .i64 t403] 23 (0, 0)) (by (with_reducible repeat (first | refine blk_drewN ?_ _ | refine blk_drew ?_ | refine blk_alloc ?_ _)); exact BK405.out) hb); have n3_ := Aside0.mk (below_step (by repeat (first | (with_reducible first | exact HB.out | apply below_alloc | apply pw_below_drewN | apply below_drew1 | refine below_set ?_ GE393.out | refine below_set ?_ GE399.out | refine below_set ?_ GE405.out) | exact HB.out)) hb); clear BK393; clear BK399; clear BK405; clear HB; have BK393 := n0_; have BK399 := n1_; have BK405 := n2_; have HB := n3_; clear n0_ n1_ n2_ n3_; (try clear hb); (try clear hb2); (try clear hk); (try clear hi)))
                    go_ret
                    exact ⟨by first | rfl | (simp [errW_none, errW_some] <;> rfl) | (simp [*, errW_none, errW_some] <;> rfl), by repeat (first | (with_reducible first | exact HB.out | apply below_alloc | apply pw_below_drewN | apply below_drew1 | refine below_set ?_ GE393.out | refine below_set ?_ GE399.out | refine below_set ?_ GE405.out) | exact HB.out)⟩
                · rw [if_neg c68] at H
                  have c68b0 : (t414 == 0) = false := beq_eq_false_iff_ne.mpr c68
                  have c68b1 : (t414 != 0) = true := bne_iff_ne.mpr c68
                  exact absurd (Option.some.inj H) (by rw [HRT.out]; decide)
              · rw [if_neg c66] at H
                have c66b0 : decide (t395 < 0) = false := decide_eq_false c66
                clear c66
                by_cases c78 : t396 < 0
                · rw [if_pos c78] at H
                  have c78b0 : decide (t396 < 0) = true := decide_eq_true c78
                  clear c78
                  replace H := Option.bind_eq_some_iff.mp H
                  obtain ⟨t416, A790, H⟩ := H
                  replace H : (if t416 = 0 then (if t397 > 0 then (some false) else ((computuslaw16_known.f kj3).bind fun t417 => (some t417))) else (some false)) = some r := H
                  have A79 := Aside0.mk A790
                  clear A790
                  by_cases c80 : t416 = 0
                  · rw [if_pos c80] at H
                    have c80b0 : (t416 == 0) = true := beq_iff_eq.mpr c80
                    have c80b1 : (t416 != 0) = false := bne_eq_false_iff_eq.mpr c80
                    clear c80
                    by_cases c81 : t397 > 0
                    · rw [if_pos c81] at H
                      have c81b0 : decide (0 < t397) = true := decide_eq_true c81
                      clear c81
                      exact absurd (Option.some.inj H) (by rw [HRT.out]; decide)
                    · rw [if_neg c81] at H
                      have c81b0 : decide (0 < t397) = false := decide_eq_false c81
                      clear c81
                      replace H := Option.bind_eq_some_iff.mp H
                      obtain ⟨t417, A820, H⟩ := H
                      replace H : (some t417) = some r := H
                      have A82 := Aside0.mk A820
                      clear A820
                      obtain rfl := Option.some.inj H
                      have hnb83 := NB399_393.out
                      have hnc83 := NB393_399.out
                      have hnb84 := NB399_405.out
                      have hnc84 := NB405_399.out
                      have hcz85_0 : wc.cell? ⟨gb399, 0, none⟩ = some (.int .i64 t394) := (blk_cell BK399.out 0).trans rfl
                      have hcz85_1 : wc.cell? ⟨gb399, 1, none⟩ = some (.int .i64 t395) := (blk_cell BK399.out 1).trans rfl
                      have hcz85_2 : wc.cell? ⟨gb399, 2, none⟩ = some (.int .i64 t396) := (blk_cell BK399.out 2).trans rfl
                      have hcz85_3 : wc.cell? ⟨gb399, 3, none⟩ = some (.int .i64 t397) := (blk_cell BK399.out 3).trans rfl
                      have hfz85_0 := blk_frozen BK399.out 0
                      have hfz85_1 := blk_frozen BK399.out 1
                      have hfz85_2 := blk_frozen BK399.out 2
                      have hfz85_3 := blk_frozen BK399.out 3
                      have hnb86 := NB393_405.out
                      have hnc86 := NB405_393.out
                      have hcz87_0 : wc.cell? ⟨gb393, 0, none⟩ = some (.int .i64 a0_0) := (blk_cell BK393.out 0).trans rfl
                      have hcz87_1 : wc.cell? ⟨gb393, 1, none⟩ = some (.int .i64 a0_1) := (blk_cell BK393.out 1).trans rfl
                      have hcz87_2 : wc.cell? ⟨gb393, 2, none⟩ = some (.int .i64 a0_2) := (blk_cell BK393.out 2).trans rfl
                      have hcz87_3 : wc.cell? ⟨gb393, 3, none⟩ = some (.int .i64 a0_3) := (blk_cell BK393.out 3).trans rfl
                      have hfz87_0 := blk_frozen BK393.out 0
                      have hfz87_1 := blk_frozen BK393.out 1
                      have hfz87_2 := blk_frozen BK393.out 2
                      have hfz87_3 := blk_frozen BK393.out 3
                      go_wp2_with (first | ((with_reducible refine gate_callee (f := 10) rfl ?_); refine goesL_ (some 58) rfl rfl Try.func10 (by kernel_rfl) rfl #[.agg #[.int .i64 a0_0, .int .i64 a0_1, .int .i64 a0_2, .int .i64 a0_3], .agg #[.int .i64 t394, .int .i64 t395, .int .i64 t396, .int .i64 t397]] rfl (by (try simp only [List.map_toArray, List.map_cons, List.map_nil]); first | done | rfl | (simp only [List.length_drop, List.length_take]; rfl)) ?_; (with_reducible refine (span_Cmp.calls kj3 a0_0 a0_1 a0_2 a0_3 t394 t395 t396 t397 t416 _ A79.out).mono ?_); rintro e w88 ⟨rfl, hb⟩; refine ⟨_, rfl, ?_⟩; have n0_ := Aside0.mk (blk_below (g := gb393) (o := .cells #[.int .i64 a0_0, .int .i64 a0_1, .int .i64 a0_2, .int .i64 a0_3] 23 (0, 0)) (by (with_reducible repeat (first | refine blk_drewN ?_ _ | refine blk_drew ?_ | refine blk_alloc ?_ _)); exact BK393.out) hb); have n1_ := Aside0.mk (blk_below (g := gb399) (o := .cells #[.int .i64 t394, .int .i64 t395, .int .i64 t396, .int .i64 t397] 23 (0, 0)) (by (with_reducible repeat (first | refine blk_drewN ?_ _ | refine blk_drew ?_ | refine blk_alloc ?_ _)); exact BK399.out) hb); have n2_ := Aside0.mk (blk_below (g := gb405) (o := .cells #[.int .i64 t400, .int .i64 t401, .int .i64 t402, .int .i64 t403] 23 (0, 0)) (by (with_reducible repeat (first | refine blk_drewN ?_ _ | refine blk_drew ?_ | refine blk_alloc ?_ _)); exact BK405.out) hb); have n3_ := Aside0.mk (below_step (by repeat (first | (with_reducible first | exact HB.out | apply below_alloc | apply pw_below_drewN | apply below_drew1 | refine below_set ?_ GE393.out | refine below_set ?_ GE399.out | refine below_set ?_ GE405.out) | exact HB.out)) hb); clear BK393; clear BK399; clear BK405; clear HB; have BK393 := n0_; have BK399 := n1_; have BK405 := n2_; have HB := n3_; clear n0_ n1_ n2_ n3_; (try clear hb); (try clear hb2); (try clear hk); (try clear hi)) | (go_at_call 15; (with_reducible refine (computuslaw16_known.calls kj3  t417 _ A82.out HRT.out).mono ?_); rintro e w89 ⟨rfl, hb⟩; have n0_ := Aside0.mk (blk_below (g := gb393) (o := .cells #[.int .i64 a0_0, .int .i64 a0_1, .int .i64 a0_2, .int .i64 a0_3] 23 (0, 0)) (by (with_reducible repeat (first | refine blk_drewN ?_ _ | refine blk_drew ?_ | refine blk_alloc ?_ _)); exact BK393.out) hb); have n1_ := Aside0.mk (blk_below (g := gb399) (o := .cells #[.int .i64 t394, .int .i64 t395, .int .i64 t396, .int .i64 t397] 23 (0, 0)) (by (with_reducible repeat (first | refine blk_drewN ?_ _ | refine blk_drew ?_ | refine blk_alloc ?_ _)); exact BK399.out) hb); have n2_ := Aside0.mk (blk_below (g := gb405) (o := .cells #[.int .i64 t400, .int .i64 t401, .int .i64 t402, .int .i64 t403] 23 (0, 0)) (by (with_reducible repeat (first | refine blk_drewN ?_ _ | refine blk_drew ?_ | refine blk_alloc ?_ _)); exact BK405.out) hb); have n3_ := Aside0.mk (below_step (by repeat (first | (with_reducible first | exact HB.out | apply below_alloc | apply pw_below_drewN | apply below_drew1 | refine below_set ?_ GE393.out | refine below_set ?_ GE399.out | refine below_set ?_ GE405.out) | exact HB.out)) hb); clear BK393; clear BK399; clear BK405; clear HB; have BK393 := n0_; have BK399 := n1_; have BK405 := n2_; have HB := n3_; clear n0_ n1_ n2_ n3_; (try clear hb); (try clear hb2); (try clear hk); (try clear hi)))
                      go_ret
                      exact ⟨by first | rfl | (simp [errW_none, errW_some] <;> rfl) | (simp [*, errW_none, errW_some] <;> rfl), by repeat (first | (with_reducible first | exact HB.out | apply below_alloc | apply pw_below_drewN | apply below_drew1 | refine below_set ?_ GE393.out | refine below_set ?_ GE399.out | refine below_set ?_ GE405.out) | exact HB.out)⟩
                  · rw [if_neg c80] at H
                    have c80b0 : (t416 == 0) = false := beq_eq_false_iff_ne.mpr c80
                    have c80b1 : (t416 != 0) = true := bne_iff_ne.mpr c80
                    exact absurd (Option.some.inj H) (by rw [HRT.out]; decide)
                · rw [if_neg c78] at H
                  have c78b0 : decide (t396 < 0) = false := decide_eq_false c78
                  clear c78
                  replace H := Option.bind_eq_some_iff.mp H
                  obtain ⟨t418, A900, H⟩ := H
                  replace H : (if t418 = 0 then (if t397 > 0 then (if t397 < 0 then (some false) else ((computuslaw16_known.f kj3).bind fun t419 => (some t419))) else ((computuslaw16_known.f kj3).bind fun t420 => (some t420))) else (some false)) = some r := H
                  have A90 := Aside0.mk A900
                  clear A900
                  by_cases c91 : t418 = 0
                  · rw [if_pos c91] at H
                    have c91b0 : (t418 == 0) = true := beq_iff_eq.mpr c91
                    have c91b1 : (t418 != 0) = false := bne_eq_false_iff_eq.mpr c91
                    clear c91
                    by_cases c92 : t397 > 0
                    · rw [if_pos c92] at H
                      have c92b0 : decide (0 < t397) = true := decide_eq_true c92
                      clear c92
                      by_cases c93 : t397 < 0
                      · rw [if_pos c93] at H
                        have c93b0 : decide (t397 < 0) = true := decide_eq_true c93
                        clear c93
                        exact absurd (Option.some.inj H) (by rw [HRT.out]; decide)
                      · rw [if_neg c93] at H
                        have c93b0 : decide (t397 < 0) = false := decide_eq_false c93
                        clear c93
                        replace H := Option.bind_eq_some_iff.mp H
                        obtain ⟨t419, A940, H⟩ := H
                        replace H : (some t419) = some r := H
                        have A94 := Aside0.mk A940
                        clear A940
                        obtain rfl := Option.some.inj H
                        have hnb95 := NB399_393.out
                        have hnc95 := NB393_399.out
                        have hnb96 := NB399_405.out
                        have hnc96 := NB405_399.out
                        have hcz97_0 : wc.cell? ⟨gb399, 0, none⟩ = some (.int .i64 t394) := (blk_cell BK399.out 0).trans rfl
                        have hcz97_1 : wc.cell? ⟨gb399, 1, none⟩ = some (.int .i64 t395) := (blk_cell BK399.out 1).trans rfl
                        have hcz97_2 : wc.cell? ⟨gb399, 2, none⟩ = some (.int .i64 t396) := (blk_cell BK399.out 2).trans rfl
                        have hcz97_3 : wc.cell? ⟨gb399, 3, none⟩ = some (.int .i64 t397) := (blk_cell BK399.out 3).trans rfl
                        have hfz97_0 := blk_frozen BK399.out 0
                        have hfz97_1 := blk_frozen BK399.out 1
                        have hfz97_2 := blk_frozen BK399.out 2
                        have hfz97_3 := blk_frozen BK399.out 3
                        have hnb98 := NB393_405.out
                        have hnc98 := NB405_393.out
                        have hcz99_0 : wc.cell? ⟨gb393, 0, none⟩ = some (.int .i64 a0_0) := (blk_cell BK393.out 0).trans rfl
                        have hcz99_1 : wc.cell? ⟨gb393, 1, none⟩ = some (.int .i64 a0_1) := (blk_cell BK393.out 1).trans rfl
                        have hcz99_2 : wc.cell? ⟨gb393, 2, none⟩ = some (.int .i64 a0_2) := (blk_cell BK393.out 2).trans rfl
                        have hcz99_3 : wc.cell? ⟨gb393, 3, none⟩ = some (.int .i64 a0_3) := (blk_cell BK393.out 3).trans rfl
                        have hfz99_0 := blk_frozen BK393.out 0
                        have hfz99_1 := blk_frozen BK393.out 1
                        have hfz99_2 := blk_frozen BK393.out 2
                        have hfz99_3 := blk_frozen BK393.out 3
                        go_wp2_with (first | ((with_reducible refine gate_callee (f := 10) rfl ?_); refine goesL_ (some 58) rfl rfl Try.func10 (by kernel_rfl) rfl #[.agg #[.int .i64 a0_0, .int .i64 a0_1, .int .i64 a0_2, .int .i64 a0_3], .agg #[.int .i64 t394, .int .i64 t395, .int .i64 t396, .int .i64 t397]] rfl (by (try simp only [List.map_toArray, List.map_cons, List.map_nil]); first | done | rfl | (simp only [List.length_drop, List.length_take]; rfl)) ?_; (with_reducible refine (span_Cmp.calls kj3 a0_0 a0_1 a0_2 a0_3 t394 t395 t396 t397 t418 _ A90.out).mono ?_); rintro e w100 ⟨rfl, hb⟩; refine ⟨_, rfl, ?_⟩; have n0_ := Aside0.mk (blk_below (g := gb393) (o := .cells #[.int .i64 a0_0, .int .i64 a0_1, .int .i64 a0_2, .int .i64 a0_3] 23 (0, 0)) (by (with_reducible repeat (first | refine blk_drewN ?_ _ | refine blk_drew ?_ | refine blk_alloc ?_ _)); exact BK393.out) hb); have n1_ := Aside0.mk (blk_below (g := gb399) (o := .cells #[.int .i64 t394, .int .i64 t395, .int .i64 t396, .int .i64 t397] 23 (0, 0)) (by (with_reducible repeat (first | refine blk_drewN ?_ _ | refine blk_drew ?_ | refine blk_alloc ?_ _)); exact BK399.out) hb); have n2_ := Aside0.mk (blk_below (g := gb405) (o := .cells #[.int .i64 t400, .int .i64 t401, .int .i64 t402, .int .i64 t403] 23 (0, 0)) (by (with_reducible repeat (first | refine blk_drewN ?_ _ | refine blk_drew ?_ | refine blk_alloc ?_ _)); exact BK405.out) hb); have n3_ := Aside0.mk (below_step (by repeat (first | (with_reducible first | exact HB.out | apply below_alloc | apply pw_below_drewN | apply below_drew1 | refine below_set ?_ GE393.out | refine below_set ?_ GE399.out | refine below_set ?_ GE405.out) | exact HB.out)) hb); clear BK393; clear BK399; clear BK405; clear HB; have BK393 := n0_; have BK399 := n1_; have BK405 := n2_; have HB := n3_; clear n0_ n1_ n2_ n3_; (try clear hb); (try clear hb2); (try clear hk); (try clear hi)) | (go_at_call 15; (with_reducible refine (computuslaw16_known.calls kj3  t419 _ A94.out HRT.out).mono ?_); rintro e w101 ⟨rfl, hb⟩; have n0_ := Aside0.mk (blk_below (g := gb393) (o := .cells #[.int .i64 a0_0, .int .i64 a0_1, .int .i64 a0_2, .int .i64 a0_3] 23 (0, 0)) (by (with_reducible repeat (first | refine blk_drewN ?_ _ | refine blk_drew ?_ | refine blk_alloc ?_ _)); exact BK393.out) hb); have n1_ := Aside0.mk (blk_below (g := gb399) (o := .cells #[.int .i64 t394, .int .i64 t395, .int .i64 t396, .int .i64 t397] 23 (0, 0)) (by (with_reducible repeat (first | refine blk_drewN ?_ _ | refine blk_drew ?_ | refine blk_alloc ?_ _)); exact BK399.out) hb); have n2_ := Aside0.mk (blk_below (g := gb405) (o := .cells #[.int .i64 t400, .int .i64 t401, .int .i64 t402, .int .i64 t403] 23 (0, 0)) (by (with_reducible repeat (first | refine blk_drewN ?_ _ | refine blk_drew ?_ | refine blk_alloc ?_ _)); exact BK405.out) hb); have n3_ := Aside0.mk (below_step (by repeat (first | (with_reducible first | exact HB.out | apply below_alloc | apply pw_below_drewN | apply below_drew1 | refine below_set ?_ GE393.out | refine below_set ?_ GE399.out | refine below_set ?_ GE405.out) | exact HB.out)) hb); clear BK393; clear BK399; clear BK405; clear HB; have BK393 := n0_; have BK399 := n1_; have BK405 := n2_; have HB := n3_; clear n0_ n1_ n2_ n3_; (try clear hb); (try clear hb2); (try clear hk); (try clear hi)))
                        go_ret
                        exact ⟨by first | rfl | (simp [errW_none, errW_some] <;> rfl) | (simp [*, errW_none, errW_some] <;> rfl), by repeat (first | (with_reducible first | exact HB.out | apply below_alloc | apply pw_below_drewN | apply below_drew1 | refine below_set ?_ GE393.out | refine below_set ?_ GE399.out | refine below_set ?_ GE405.out) | exact HB.out)⟩
                    · rw [if_neg c92] at H
                      have c92b0 : decide (0 < t397) = false := decide_eq_false c92
                      clear c92
                      replace H := Option.bind_eq_some_iff.mp H
                      obtain ⟨t420, A1020, H⟩ := H
                      replace H : (some t420) = some r := H
                      have A102 := Aside0.mk A1020
                      clear A1020
                      obtain rfl := Option.some.inj H
                      have hnb103 := NB399_393.out
                      have hnc103 := NB393_399.out
                      have hnb104 := NB399_405.out
                      have hnc104 := NB405_399.out
                      have hcz105_0 : wc.cell? ⟨gb399, 0, none⟩ = some (.int .i64 t394) := (blk_cell BK399.out 0).trans rfl
                      have hcz105_1 : wc.cell? ⟨gb399, 1, none⟩ = some (.int .i64 t395) := (blk_cell BK399.out 1).trans rfl
                      have hcz105_2 : wc.cell? ⟨gb399, 2, none⟩ = some (.int .i64 t396) := (blk_cell BK399.out 2).trans rfl
                      have hcz105_3 : wc.cell? ⟨gb399, 3, none⟩ = some (.int .i64 t397) := (blk_cell BK399.out 3).trans rfl
                      have hfz105_0 := blk_frozen BK399.out 0
                      have hfz105_1 := blk_frozen BK399.out 1
                      have hfz105_2 := blk_frozen BK399.out 2
                      have hfz105_3 := blk_frozen BK399.out 3
                      have hnb106 := NB393_405.out
                      have hnc106 := NB405_393.out
                      have hcz107_0 : wc.cell? ⟨gb393, 0, none⟩ = some (.int .i64 a0_0) := (blk_cell BK393.out 0).trans rfl
                      have hcz107_1 : wc.cell? ⟨gb393, 1, none⟩ = some (.int .i64 a0_1) := (blk_cell BK393.out 1).trans rfl
                      have hcz107_2 : wc.cell? ⟨gb393, 2, none⟩ = some (.int .i64 a0_2) := (blk_cell BK393.out 2).trans rfl
                      have hcz107_3 : wc.cell? ⟨gb393, 3, none⟩ = some (.int .i64 a0_3) := (blk_cell BK393.out 3).trans rfl
                      have hfz107_0 := blk_frozen BK393.out 0
                      have hfz107_1 := blk_frozen BK393.out 1
                      have hfz107_2 := blk_frozen BK393.out 2
                      have hfz107_3 := blk_frozen BK393.out 3
                      go_wp2_with (first | ((with_reducible refine gate_callee (f := 10) rfl ?_); refine goesL_ (some 58) rfl rfl Try.func10 (by kernel_rfl) rfl #[.agg #[.int .i64 a0_0, .int .i64 a0_1, .int .i64 a0_2, .int .i64 a0_3], .agg #[.int .i64 t394, .int .i64 t395, .int .i64 t396, .int .i64 t397]] rfl (by (try simp only [List.map_toArray, List.map_cons, List.map_nil]); first | done | rfl | (simp only [List.length_drop, List.length_take]; rfl)) ?_; (with_reducible refine (span_Cmp.calls kj3 a0_0 a0_1 a0_2 a0_3 t394 t395 t396 t397 t418 _ A90.out).mono ?_); rintro e w108 ⟨rfl, hb⟩; refine ⟨_, rfl, ?_⟩; have n0_ := Aside0.mk (blk_below (g := gb393) (o := .cells #[.int .i64 a0_0, .int .i64 a0_1, .int .i64 a0_2, .int .i64 a0_3] 23 (0, 0)) (by (with_reducible repeat (first | refine blk_drewN ?_ _ | refine blk_drew ?_ | refine blk_alloc ?_ _)); exact BK393.out) hb); have n1_ := Aside0.mk (blk_below (g := gb399) (o := .cells #[.int .i64 t394, .int .i64 t395, .int .i64 t396, .int .i64 t397] 23 (0, 0)) (by (with_reducible repeat (first | refine blk_drewN ?_ _ | refine blk_drew ?_ | refine blk_alloc ?_ _)); exact BK399.out) hb); have n2_ := Aside0.mk (blk_below (g := gb405) (o := .cells #[.int .i64 t400, .int .i64 t401, .int .i64 t402, .int .i64 t403] 23 (0, 0)) (by (with_reducible repeat (first | refine blk_drewN ?_ _ | refine blk_drew ?_ | refine blk_alloc ?_ _)); exact BK405.out) hb); have n3_ := Aside0.mk (below_step (by repeat (first | (with_reducible first | exact HB.out | apply below_alloc | apply pw_below_drewN | apply below_drew1 | refine below_set ?_ GE393.out | refine below_set ?_ GE399.out | refine below_set ?_ GE405.out) | exact HB.out)) hb); clear BK393; clear BK399; clear BK405; clear HB; have BK393 := n0_; have BK399 := n1_; have BK405 := n2_; have HB := n3_; clear n0_ n1_ n2_ n3_; (try clear hb); (try clear hb2); (try clear hk); (try clear hi)) | (go_at_call 15; (with_reducible refine (computuslaw16_known.calls kj3  t420 _ A102.out HRT.out).mono ?_); rintro e w109 ⟨rfl, hb⟩; have n0_ := Aside0.mk (blk_below (g := gb393) (o := .cells #[.int .i64 a0_0, .int .i64 a0_1, .int .i64 a0_2, .int .i64 a0_3] 23 (0, 0)) (by (with_reducible repeat (first | refine blk_drewN ?_ _ | refine blk_drew ?_ | refine blk_alloc ?_ _)); exact BK393.out) hb); have n1_ := Aside0.mk (blk_below (g := gb399) (o := .cells #[.int .i64 t394, .int .i64 t395, .int .i64 t396, .int .i64 t397] 23 (0, 0)) (by (with_reducible repeat (first | refine blk_drewN ?_ _ | refine blk_drew ?_ | refine blk_alloc ?_ _)); exact BK399.out) hb); have n2_ := Aside0.mk (blk_below (g := gb405) (o := .cells #[.int .i64 t400, .int .i64 t401, .int .i64 t402, .int .i64 t403] 23 (0, 0)) (by (with_reducible repeat (first | refine blk_drewN ?_ _ | refine blk_drew ?_ | refine blk_alloc ?_ _)); exact BK405.out) hb); have n3_ := Aside0.mk (below_step (by repeat (first | (with_reducible first | exact HB.out | apply below_alloc | apply pw_below_drewN | apply below_drew1 | refine below_set ?_ GE393.out | refine below_set ?_ GE399.out | refine below_set ?_ GE405.out) | exact HB.out)) hb); clear BK393; clear BK399; clear BK405; clear HB; have BK393 := n0_; have BK399 := n1_; have BK405 := n2_; have HB := n3_; clear n0_ n1_ n2_ n3_; (try clear hb); (try clear hb2); (try clear hk); (try clear hi)))
                      go_ret
                      exact ⟨by first | rfl | (simp [errW_none, errW_some] <;> rfl) | (simp [*, errW_none, errW_some] <;> rfl), by repeat (first | (with_reducible first | exact HB.out | apply below_alloc | apply pw_below_drewN | apply below_drew1 | refine below_set ?_ GE393.out | refine below_set ?_ GE399.out | refine below_set ?_ GE405.out) | exact HB.out)⟩
                  · rw [if_neg c91] at H
                    have c91b0 : (t418 == 0) = false := beq_eq_false_iff_ne.mpr c91
                    have c91b1 : (t418 != 0) = true := bne_iff_ne.mpr c91
                    exact absurd (Option.some.inj H) (by rw [HRT.out]; decide)
        · rw [if_neg c29] at H
          have c29b0 : (t404 == 0) = false := beq_eq_false_iff_ne.mpr c29
          have c29b1 : (t404 != 0) = true := bne_iff_ne.mpr c29
          replace H := Option.bind_eq_some_iff.mp H
          obtain ⟨t421, A1100, H⟩ := H
          replace H : (some t421) = some r := H
          have A110 := Aside0.mk A1100
          clear A1100
          obtain rfl := Option.some.inj H
          go_wp2_with (first | ((with_reducible refine gate_callee (f := 15) rfl ?_); refine goesL_ (some 29) rfl rfl Try.func15 (by kernel_rfl) rfl #[] rfl (by (try simp only [List.map_toArray, List.map_cons, List.map_nil]); first | done | rfl | (simp only [List.length_drop, List.length_take]; rfl)) ?_; (with_reducible refine (computuslaw16_known.calls kj3  t421 _ A110.out HRT.out).mono ?_); rintro e w111 ⟨rfl, hb⟩; refine ⟨_, rfl, ?_⟩; have n0_ := Aside0.mk (blk_below (g := gb393) (o := .cells #[.int .i64 a0_0, .int .i64 a0_1, .int .i64 a0_2, .int .i64 a0_3] 23 (0, 0)) (by (with_reducible repeat (first | refine blk_drewN ?_ _ | refine blk_drew ?_ | refine blk_alloc ?_ _)); exact BK393.out) hb); have n1_ := Aside0.mk (blk_below (g := gb399) (o := .cells #[.int .i64 t394, .int .i64 t395, .int .i64 t396, .int .i64 t397] 23 (0, 0)) (by (with_reducible repeat (first | refine blk_drewN ?_ _ | refine blk_drew ?_ | refine blk_alloc ?_ _)); exact BK399.out) hb); have n2_ := Aside0.mk (blk_below (g := gb405) (o := .cells #[.int .i64 t400, .int .i64 t401, .int .i64 t402, .int .i64 t403] 23 (0, 0)) (by (with_reducible repeat (first | refine blk_drewN ?_ _ | refine blk_drew ?_ | refine blk_alloc ?_ _)); exact BK405.out) hb); have n3_ := Aside0.mk (below_step (by repeat (first | (with_reducible first | exact HB.out | apply below_alloc | apply pw_below_drewN | apply below_drew1 | refine below_set ?_ GE393.out | refine below_set ?_ GE399.out | refine below_set ?_ GE405.out) | exact HB.out)) hb); clear BK393; clear BK399; clear BK405; clear HB; have BK393 := n0_; have BK399 := n1_; have BK405 := n2_; have HB := n3_; clear n0_ n1_ n2_ n3_; (try clear hb); (try clear hb2); (try clear hk); (try clear hi)))
          go_ret
          exact ⟨by first | rfl | (simp [errW_none, errW_some] <;> rfl) | (simp [*, errW_none, errW_some] <;> rfl), by repeat (first | (with_reducible first | exact HB.out | apply below_alloc | apply pw_below_drewN | apply below_drew1 | refine below_set ?_ GE393.out | refine below_set ?_ GE399.out | refine below_set ?_ GE405.out) | exact HB.out)⟩
/-- THE ONE PURE STATEMENT of computuslaw16_SpanJustifies: yours. -/
def computuslaw16_SpanJustifies.Pure : Prop := ∀ (a0_0 : Int) (a0_1 : Int) (a0_2 : Int) (a0_3 : Int), (Lit.int .i64 a0_0).wf = true → (Lit.int .i64 a0_1).wf = true → (Lit.int .i64 a0_2).wf = true → (Lit.int .i64 a0_3).wf = true → ∃ k, computuslaw16_SpanJustifies.f k a0_0 a0_1 a0_2 a0_3 = some true
theorem computuslaw16_SpanJustifies.walk (P : computuslaw16_SpanJustifies.Pure) (a0_0 : Int) (a0_1 : Int) (a0_2 : Int) (a0_3 : Int) (w : World) (w0_0 : (Lit.int .i64 a0_0).wf = true) (w0_1 : (Lit.int .i64 a0_1).wf = true) (w0_2 : (Lit.int .i64 a0_2).wf = true) (w0_3 : (Lit.int .i64 a0_3).wf = true) :
    Calls Try.prog 4 #[.agg #[.int .i64 a0_0, .int .i64 a0_1, .int .i64 a0_2, .int .i64 a0_3]] w fun e w' => e = .returned (.bool true) ∧ Below w.heap.size w w' := by
  obtain ⟨k, h⟩ := P a0_0 a0_1 a0_2 a0_3 w0_0 w0_1 w0_2 w0_3
  refine (computuslaw16_SpanJustifies.calls k a0_0 a0_1 a0_2 a0_3 true w h rfl).mono ?_
  rintro e w' ⟨rfl, hd⟩
  exact ⟨rfl, hd⟩
end Go.Proofs.Ytfpclhkieccojaa.P
