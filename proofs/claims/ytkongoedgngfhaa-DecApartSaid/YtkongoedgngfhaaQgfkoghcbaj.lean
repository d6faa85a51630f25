-- Written by a program of the session (a print of the seat's translation, functions given by hand among it). Lean checks it.
import Derived.Test.YtkongoedgngfhaaQgkkgmomhkk
import Derived.Test.YtkongoedgngfhaaQlcbcciifdj
namespace Go.Proofs.Ytkongoedgngfhaa.P
open Go.RowKit Go.Proofs.YtkongoedgngfhaaW.PrintWords Go.Proofs.YtkongoedgngfhaaW.PrintLast Go.Proofs.YtkongoedgngfhaaW.PrintMore
attribute [local go_sem] max2_int min2_int max_two min_two max_three min_three max_four min_four   -- for this text's walks alone
set_option linter.unusedVariables false
set_option linter.unusedSimpArgs false
def num_Sub.f (a0 : Int) (a1 : Int) : Option (Int × Int) := if ((decide ((wrap64 (a0 - a1)) < a0)) != (decide (a1 > 0))) = true then (some (0, 10)) else (some (wrap64 (a0 - a1), 0))
set_option maxHeartbeats 8000000 in
set_option maxRecDepth 100000 in
theorem num_Sub.calls (a0 : Int) (a1 : Int) (r1 : Int) (r2 : Int) (w : World) (h : num_Sub.f a0 a1 = some (r1, r2)) :
    Calls Try.prog 33 #[.int .i64 a0, .int .i64 a1] w fun e w' => e = .returned (.tuple #[.int .i64 r1, .int .i64 r2]) ∧ Drawn0 w w' := by
  have H : (if ((decide ((wrap64 (a0 - a1)) < a0)) != (decide (a1 > 0))) = true then (some (0, 10)) else (some (wrap64 (a0 - a1), 0))) = some (r1, r2) := h
  clear h
  by_cases c3 : ((decide ((wrap64 (a0 - a1)) < a0)) != (decide (a1 > 0))) = true
  · rw [if_pos c3] at H
    have c3b0 : ((decide ((wrap64 (a0 - a1)) < a0)) != (decide (a1 > 0))) = true := c3
    (try (have c3b1 : decide ((decide ((wrap64 (a0 - a1)) < a0)) = (decide (a1 > 0))) = false := by simpa using c3))
    (try (have c3b2 : ((decide ((wrap64 (a0 - a1)) < a0)) == (decide (a1 > 0))) = false := by simpa using c3))
    (try (have c3b3 : ¬ ((decide ((wrap64 (a0 - a1)) < a0)) = (decide (a1 > 0))) := by simpa using c3))
    clear c3
    simp only [Option.some.injEq, Prod.mk.injEq] at H
    obtain ⟨rfl, rfl⟩ := H
    go_enter Try.func33, Try.ntmps33
    go_wp2
    go_ret2
    exact ⟨by first | rfl | (simp; done) | (simp [*]; done), by repeat (first | exact Drawn0.refl _ | apply Drawn0.step)⟩
  · rw [if_neg c3] at H
    have c3b0 : ((decide ((wrap64 (a0 - a1)) < a0)) != (decide (a1 > 0))) = false := by simpa using c3
    (try (have c3b1 : decide ((decide ((wrap64 (a0 - a1)) < a0)) = (decide (a1 > 0))) = true := by simpa using c3))
    (try (have c3b2 : ((decide ((wrap64 (a0 - a1)) < a0)) == (decide (a1 > 0))) = true := by simpa using c3))
    clear c3
    simp only [Option.some.injEq, Prod.mk.injEq] at H
    obtain ⟨rfl, rfl⟩ := H
    go_enter Try.func33, Try.ntmps33
    go_wp2
    go_ret2
    exact ⟨by first | rfl | (simp; done) | (simp [*]; done), by repeat (first | exact Drawn0.refl _ | apply Drawn0.step)⟩
def num_Neg.f (a0 : Int) : Option (Int × Int) := (num_Sub.f 0 a0).bind fun bt114 => (some (bt114.1, bt114.2))
set_option maxHeartbeats 8000000 in
set_option maxRecDepth 100000 in
theorem num_Neg.calls (a0 : Int) (r1 : Int) (r2 : Int) (w : World) (h : num_Neg.f a0 = some (r1, r2)) :
    Calls Try.prog 34 #[.int .i64 a0] w fun e w' => e = .returned (.tuple #[.int .i64 r1, .int .i64 r2]) ∧ Drawn0 w w' := by
  have H : ((num_Sub.f 0 a0).bind fun bt114 => (some (bt114.1, bt114.2))) = some (r1, r2) := h
  clear h
  replace H := Option.bind_eq_some_iff.mp H
  obtain ⟨⟨t114, t115⟩, A20, H⟩ := H
  replace H : (some (t114, t115)) = some (r1, r2) := H
  have A2 := Aside0.mk A20
  clear A20
  simp only [Option.some.injEq, Prod.mk.injEq] at H
  obtain ⟨rfl, rfl⟩ := H
  go_enter Try.func34, Try.ntmps34
  go_wp2_with (first | ((with_reducible refine gate_callee (f := 33) rfl ?_); refine goesL_ (some 5) rfl rfl Try.func33 (by kernel_rfl) rfl #[.int .i64 0, .int .i64 a0] rfl (by (try simp only [List.map_toArray, List.map_cons, List.map_nil]); first | done | rfl | (simp only [List.length_drop, List.length_take]; rfl)) ?_; (with_reducible refine (num_Sub.calls 0 a0 t114 t115 _ A2.out).mono ?_); rintro e w' ⟨rfl, ⟨nd, rfl⟩⟩; refine ⟨_, rfl, ?_⟩))
  go_ret2
  exact ⟨by first | rfl | (simp; done) | (simp [*]; done), by repeat (first | exact Drawn0.refl _ | apply Drawn0.step)⟩
def dec_made.f (a0 : Int) (a1 : Int) (a2 : Int) : Option (Int × Int × Int) := if a2 = 0 then (some (a0, a1, 0)) else (some (0, 0, a2))
set_option maxHeartbeats 8000000 in
set_option maxRecDepth 100000 in
theorem dec_made.calls (a0 : Int) (a1 : Int) (a2 : Int) (r1 : Int) (r2 : Int) (r3 : Int) (w : World) (h : dec_made.f a0 a1 a2 = some (r1, r2, r3)) :
    Calls Try.prog 35 #[.int .i64 a0, .int .i64 a1, .int .i64 a2] w fun e w' => e = .returned (.tuple #[.agg #[.int .i64 r1, .int .i64 r2], .int .i64 r3]) ∧ Below w.heap.size w w' := by
  have hu25 := Try.underlying25
  have HB := Aside0.mk (Below.refl w.heap.size w)
  have H : (if a2 = 0 then (some (a0, a1, 0)) else (some (0, 0, a2))) = some (r1, r2, r3) := h
  clear h
  by_cases c4 : a2 = 0
  · rw [if_pos c4] at H
    have c4b0 : (a2 == 0) = true := beq_iff_eq.mpr c4
    have c4b1 : (a2 != 0) = false := bne_eq_false_iff_eq.mpr c4
    clear c4
    simp only [Option.some.injEq, Prod.mk.injEq] at H
    obtain ⟨rfl, rfl, rfl⟩ := H
    go_enter Try.func35, Try.ntmps35
    go_wp2_with (first | ((with_reducible refine gate_dst (N := 6) rfl ?_); refine box_event ?hg (N := 6) ?hd (cs := #[.int .i64 0, .int .i64 0]) (t := 25) ?hr ?_; (case hd => rfl); (case hg => rfl); (case hr => first | (go_simp; done) | (go_simp; rfl)); intro gb116 hg w5 hbox hb; have n0_ := Aside0.mk (below_step (by repeat (first | (with_reducible first | exact HB.out | apply below_alloc | apply pw_below_drewN | apply below_drew1) | exact HB.out)) hb); have n1_ := Aside0.mk (hbox); have n2_ := Aside0.mk ((by rw [hg]; exact (below_size (by repeat (first | (with_reducible first | exact HB.out | apply below_alloc | apply pw_below_drewN | apply below_drew1) | exact HB.out))) : w.heap.size ≤ gb116)); have n3_ := Aside0.mk ((by rw [hg]; exact (below_size (by repeat (first | (with_reducible first | exact HB.out | apply below_alloc | apply pw_below_drewN | apply below_drew1) | exact HB.out))) : w.heap.size ≤ gb116)); clear HB; have HB := n0_; have BK116 := n1_; have GW116 := n2_; have GE116 := n3_; clear n0_ n1_ n2_ n3_; clear hb hbox hg; have hcz6_0 : w5.cell? ⟨gb116, 0, none⟩ = some (.int .i64 0) := (blk_cell BK116.out 0).trans rfl; have hcz6_1 : w5.cell? ⟨gb116, 1, none⟩ = some (.int .i64 0) := (blk_cell BK116.out 1).trans rfl; have hfz6_0 := blk_frozen BK116.out 0; have hfz6_1 := blk_frozen BK116.out 1))
    refine bodyPost_ret (results_ct rfl _ _ gb116 25 #[.int .i64 a0, .int .i64 a1] (0, 0) _ rfl (by (with_reducible repeat (first | refine blk_drewN ?_ _ | refine blk_drew ?_ | refine blk_alloc ?_ _)); refine blk_put (cs := #[.int .i64 a0, .int .i64 0]) ?_ 1 _ rfl; (with_reducible repeat (first | refine blk_drewN ?_ _ | refine blk_drew ?_ | refine blk_alloc ?_ _)); refine blk_put (cs := #[.int .i64 0, .int .i64 0]) ?_ 0 _ rfl; (with_reducible repeat (first | refine blk_drewN ?_ _ | refine blk_drew ?_ | refine blk_alloc ?_ _)); exact BK116.out) Try.underlying25 rfl (by kernel_rfl)) rfl ?_
    exact ⟨by first | rfl | (simp [errW_none, errW_some] <;> rfl) | (simp [*, errW_none, errW_some] <;> rfl), by repeat (first | (with_reducible first | exact HB.out | apply below_alloc | apply pw_below_drewN | apply below_drew1 | refine below_set ?_ GE116.out) | exact HB.out)⟩
  · rw [if_neg c4] at H
    have c4b0 : (a2 == 0) = false := beq_eq_false_iff_ne.mpr c4
    have c4b1 : (a2 != 0) = true := bne_iff_ne.mpr c4
    simp only [Option.some.injEq, Prod.mk.injEq] at H
    obtain ⟨rfl, rfl, rfl⟩ := H
    go_enter Try.func35, Try.ntmps35
    go_wp2_with (first | ((with_reducible refine gate_dst (N := 6) rfl ?_); refine box_event ?hg (N := 6) ?hd (cs := #[.int .i64 0, .int .i64 0]) (t := 25) ?hr ?_; (case hd => rfl); (case hg => rfl); (case hr => first | (go_simp; done) | (go_simp; rfl)); intro gb116 hg w7 hbox hb; have n0_ := Aside0.mk (below_step (by repeat (first | (with_reducible first | exact HB.out | apply below_alloc | apply pw_below_drewN | apply below_drew1) | exact HB.out)) hb); have n1_ := Aside0.mk (hbox); have n2_ := Aside0.mk ((by rw [hg]; exact (below_size (by repeat (first | (with_reducible first | exact HB.out | apply below_alloc | apply pw_below_drewN | apply below_drew1) | exact HB.out))) : w.heap.size ≤ gb116)); have n3_ := Aside0.mk ((by rw [hg]; exact (below_size (by repeat (first | (with_reducible first | exact HB.out | apply below_alloc | apply pw_below_drewN | apply below_drew1) | exact HB.out))) : w.heap.size ≤ gb116)); clear HB; have HB := n0_; have BK116 := n1_; have GW116 := n2_; have GE116 := n3_; clear n0_ n1_ n2_ n3_; clear hb hbox hg; have hcz8_0 : w7.cell? ⟨gb116, 0, none⟩ = some (.int .i64 0) := (blk_cell BK116.out 0).trans rfl; have hcz8_1 : w7.cell? ⟨gb116, 1, none⟩ = some (.int .i64 0) := (blk_cell BK116.out 1).trans rfl; have hfz8_0 := blk_frozen BK116.out 0; have hfz8_1 := blk_frozen BK116.out 1))
    refine bodyPost_ret (results_ct rfl _ _ gb116 25 #[.int .i64 0, .int .i64 0] (0, 0) _ rfl (by (with_reducible repeat (first | refine blk_drewN ?_ _ | refine blk_drew ?_ | refine blk_alloc ?_ _)); refine blk_put (cs := #[.int .i64 0, .int .i64 0]) ?_ 1 _ rfl; (with_reducible repeat (first | refine blk_drewN ?_ _ | refine blk_drew ?_ | refine blk_alloc ?_ _)); refine blk_put (cs := #[.int .i64 0, .int .i64 0]) ?_ 0 _ rfl; (with_reducible repeat (first | refine blk_drewN ?_ _ | refine blk_drew ?_ | refine blk_alloc ?_ _)); exact BK116.out) Try.underlying25 rfl (by kernel_rfl)) rfl ?_
    exact ⟨by first | rfl | (simp [errW_none, errW_some] <;> rfl) | (simp [*, errW_none, errW_some] <;> rfl), by repeat (first | (with_reducible first | exact HB.out | apply below_alloc | apply pw_below_drewN | apply below_drew1 | refine below_set ?_ GE116.out) | exact HB.out)⟩
def dec_Read.f (a0 : ByteArray) : Option (Int × Int × Int) := if a0 = ⟨#[49, 50, 46, 51, 52, 48]⟩ then some (12340, 3, 0) else none
set_option maxHeartbeats 8000000 in
set_option maxRecDepth 100000 in
theorem dec_Read.at12 (w : World) :
    Calls Try.prog 11 #[.string ⟨#[49, 50, 46, 51, 52, 48]⟩] w fun e w' => e = .returned (.tuple #[.agg #[.int .i64 12340, .int .i64 3], .int .i64 0]) ∧ Below w.heap.size w w' := by
  have hu25 := Try.underlying25
  have HB := Aside0.mk (Below.refl w.heap.size w)
  have hn : ((((⟨#[49, 50, 46, 51, 52, 48]⟩ : ByteArray)[0]'(by decide)).toNat : Int) == 45) = false := by decide
  have hp : ((((⟨#[49, 50, 46, 51, 52, 48]⟩ : ByteArray)[0]'(by decide)).toNat : Int) == 43) = false := by decide
  go_enter Try.func11, Try.ntmps11
  go_wp2
  obtain ⟨g2, hg2⟩ : ∃ g, w.heap.size = g := ⟨_, rfl⟩
  obtain ⟨g5, hg5⟩ : ∃ g, w.heap.size + 1 = g := ⟨_, rfl⟩
  obtain ⟨gI, hgI⟩ : ∃ g, w.heap.size + 1 + 1 = g := ⟨_, rfl⟩
  have GE2 : Aside0 (w.heap.size ≤ g2) := ⟨by omega⟩
  have GE5 : Aside0 (w.heap.size ≤ g5) := ⟨by omega⟩
  have GEI : Aside0 (w.heap.size ≤ gI) := ⟨by omega⟩
  have N2I : Aside0 (g2 ≠ gI) := ⟨by omega⟩
  have N5I : Aside0 (g5 ≠ gI) := ⟨by omega⟩
  have N5I_ : Aside0 (gI ≠ g5) := ⟨by omega⟩
  have N25 : Aside0 (g2 ≠ g5) := ⟨by omega⟩
  have N25_ : Aside0 (g5 ≠ g2) := ⟨by omega⟩
  rw [hgI, hg5, hg2]
  go_loopg [6, 7, 8] 7 (fun q v6 v7 v8 wr => Aside0 (Below w.heap.size w wr) ∧ Aside0 (wr.heap[g2]? = some (.cells #[.int .i64 0, .int .i64 0] 25 (0, 0))) ∧
    ((Aside0 (q = 7) ∧ v6 = .int .i64 0 ∧ v7 = .bool false ∧ v8 = .int .i64 0 ∧ Aside0 (wr.heap[g5]? = some (.cells #[.int .i64 0, .int .i64 0] 25 (0, 0))) ∧ Aside0 (wr.heap[gI]? = some (.stringIter ⟨#[49, 50, 46, 51, 52, 48]⟩ 0))) ∨
     (Aside0 (q = 6) ∧ v6 = .int .i64 1 ∧ v7 = .bool false ∧ v8 = .int .i64 0 ∧ Aside0 (wr.heap[g5]? = some (.cells #[.int .i64 (-1), .int .i64 0] 25 (0, 0))) ∧ Aside0 (wr.heap[gI]? = some (.stringIter ⟨#[49, 50, 46, 51, 52, 48]⟩ 1))) ∨
     (Aside0 (q = 5) ∧ v6 = .int .i64 2 ∧ v7 = .bool false ∧ v8 = .int .i64 0 ∧ Aside0 (wr.heap[g5]? = some (.cells #[.int .i64 (-12), .int .i64 0] 25 (0, 0))) ∧ Aside0 (wr.heap[gI]? = some (.stringIter ⟨#[49, 50, 46, 51, 52, 48]⟩ 2))) ∨
     (Aside0 (q = 4) ∧ v6 = .int .i64 2 ∧ v7 = .bool true ∧ v8 = .int .i64 0 ∧ Aside0 (wr.heap[g5]? = some (.cells #[.int .i64 (-12), .int .i64 0] 25 (0, 0))) ∧ Aside0 (wr.heap[gI]? = some (.stringIter ⟨#[49, 50, 46, 51, 52, 48]⟩ 3))) ∨
     (Aside0 (q = 3) ∧ v6 = .int .i64 3 ∧ v7 = .bool true ∧ v8 = .int .i64 0 ∧ Aside0 (wr.heap[g5]? = some (.cells #[.int .i64 (-123), .int .i64 1] 25 (0, 0))) ∧ Aside0 (wr.heap[gI]? = some (.stringIter ⟨#[49, 50, 46, 51, 52, 48]⟩ 4))) ∨
     (Aside0 (q = 2) ∧ v6 = .int .i64 4 ∧ v7 = .bool true ∧ v8 = .int .i64 0 ∧ Aside0 (wr.heap[g5]? = some (.cells #[.int .i64 (-1234), .int .i64 2] 25 (0, 0))) ∧ Aside0 (wr.heap[gI]? = some (.stringIter ⟨#[49, 50, 46, 51, 52, 48]⟩ 5))) ∨
     (Aside0 (q = 1) ∧ v6 = .int .i64 5 ∧ v7 = .bool true ∧ v8 = .int .i64 0 ∧ Aside0 (wr.heap[g5]? = some (.cells #[.int .i64 (-12340), .int .i64 3] 25 (0, 0))) ∧ Aside0 (wr.heap[gI]? = some (.stringIter ⟨#[49, 50, 46, 51, 52, 48]⟩ 6)))))
  case atStart =>
    have e1 : ∀ o : Obj, (w.alloc o).heap.size = w.heap.size + 1 := fun o => by show (w.heap.push o).size = _; rw [Array.size_push]
    have e2 : ∀ o o2 : Obj, ((w.alloc o).alloc o2).heap.size = w.heap.size + 1 + 1 := fun o o2 => by show ((w.heap.push o).push o2).size = _; rw [Array.size_push, Array.size_push]
    refine ⟨⟨below_alloc (below_alloc (below_alloc HB.out _) _) _⟩, ⟨?_⟩, .inl ⟨⟨rfl⟩, rfl, rfl, rfl, ⟨?_⟩, ⟨?_⟩⟩⟩
    · rw [← hg2]
      exact blk_alloc (blk_alloc (blk_new w _) _) _
    · rw [← hg5, ← e1 (.cells #[.int .i64 0, .int .i64 0] 25 (0, 0))]
      exact blk_alloc (blk_new (w.alloc _) _) _
    · rw [← hgI, ← e2 (.cells #[.int .i64 0, .int .i64 0] 25 (0, 0)) (.cells #[.int .i64 0, .int .i64 0] 25 (0, 0))]
      exact World.iter_heap _ _ _
  case round =>
    obtain ⟨HB, BK2, h⟩ := hrel
    rcases h with ⟨hq, rfl, rfl, rfl, BK5, HI⟩ | ⟨hq, rfl, rfl, rfl, BK5, HI⟩ | ⟨hq, rfl, rfl, rfl, BK5, HI⟩ | ⟨hq, rfl, rfl, rfl, BK5, HI⟩ | ⟨hq, rfl, rfl, rfl, BK5, HI⟩ | ⟨hq, rfl, rfl, rfl, BK5, HI⟩ | ⟨hq, rfl, rfl, rfl, BK5, HI⟩
    · have hnx : ∀ ty, (Instr.next (.pointer (some ⟨gI, 0, none⟩)) true ty).run Try.prog wr = .ok (.tuple #[.bool true, .int .i64 0, .int .i32 49]) (wr.iterAt gI ⟨#[49, 50, 46, 51, 52, 48]⟩ 1) := fun ty => (Lib.run_next_any_at wr gI ⟨#[49, 50, 46, 51, 52, 48]⟩ 0 ty HI.out (by decide)).trans (by rfl)
      have HI2 : Aside0 ((wr.iterAt gI ⟨#[49, 50, 46, 51, 52, 48]⟩ 1).heap[gI]? = some (.stringIter ⟨#[49, 50, 46, 51, 52, 48]⟩ 1)) := ⟨Lib.iterAt_heap wr gI ⟨#[49, 50, 46, 51, 52, 48]⟩ 0 1 HI.out⟩
      have HB2 : Aside0 (Below w.heap.size w (wr.iterAt gI ⟨#[49, 50, 46, 51, 52, 48]⟩ 1)) := ⟨Lib.below_iterAt HB.out GEI.out ⟨#[49, 50, 46, 51, 52, 48]⟩ 1⟩
      have BK22 : Aside0 ((wr.iterAt gI ⟨#[49, 50, 46, 51, 52, 48]⟩ 1).heap[g2]? = some (.cells #[.int .i64 0, .int .i64 0] 25 (0, 0))) := ⟨(Lib.iterAt_other wr gI g2 ⟨#[49, 50, 46, 51, 52, 48]⟩ 1 N2I.out).trans BK2.out⟩
      have BK52 : Aside0 ((wr.iterAt gI ⟨#[49, 50, 46, 51, 52, 48]⟩ 1).heap[g5]? = some (.cells #[.int .i64 0, .int .i64 0] 25 (0, 0))) := ⟨(Lib.iterAt_other wr gI g5 ⟨#[49, 50, 46, 51, 52, 48]⟩ 1 N5I.out).trans BK5.out⟩
      clear HI HB BK2 BK5
      have HI := HI2
      have HB := HB2
      have BK2 := BK22
      have BK5 := BK52
      clear HI2 HB2 BK22 BK52
      generalize wr.iterAt gI ⟨#[49, 50, 46, 51, 52, 48]⟩ 1 = w1 at *
      have hcz1_0 : w1.cell? ⟨g5, 0, none⟩ = some (.int .i64 0) := (blk_cell BK5.out 0).trans rfl; have hcz1_1 : w1.cell? ⟨g5, 1, none⟩ = some (.int .i64 0) := (blk_cell BK5.out 1).trans rfl; have hfz1_0 := blk_frozen BK5.out 0; have hfz1_1 := blk_frozen BK5.out 1
      go_wp2_with (first | (go_at_call 32; (with_reducible refine (num_Mul.calls 3 0 10 0 0 _ (by decide +kernel)).mono ?_); rintro e_ w2 ⟨rfl, hb⟩; have n0_ := Aside0.mk (below_step (by repeat (first | (with_reducible first | exact HB.out | apply below_alloc | apply pw_below_drewN | apply below_drew1 | refine below_set ?_ GE2.out | refine below_set ?_ GE5.out) | exact HB.out)) hb); have n1_ := Aside0.mk (blk_below (g := g2) (o := .cells #[.int .i64 0, .int .i64 0] 25 (0, 0)) (by exact BK2.out) hb); have n2_ := Aside0.mk (blk_below (g := g5) (o := .cells #[.int .i64 0, .int .i64 0] 25 (0, 0)) (by exact BK5.out) hb); have n3_ := Aside0.mk (blk_below (g := gI) (o := .stringIter ⟨#[49, 50, 46, 51, 52, 48]⟩ 1) (by exact HI.out) hb); clear HB BK2 BK5 HI; have HB := n0_; have BK2 := n1_; have BK5 := n2_; have HI := n3_; clear n0_ n1_ n2_ n3_ hb; have hcz2_0 : w2.cell? ⟨g5, 0, none⟩ = some (.int .i64 0) := (blk_cell BK5.out 0).trans rfl; have hcz2_1 : w2.cell? ⟨g5, 1, none⟩ = some (.int .i64 0) := (blk_cell BK5.out 1).trans rfl; have hfz2_0 := blk_frozen BK5.out 0; have hfz2_1 := blk_frozen BK5.out 1) | (go_at_call 33; (with_reducible refine (num_Sub.calls 0 1 (-1) 0 _ (by decide +kernel)).mono ?_); rintro e_ w3 ⟨rfl, ⟨nd, rfl⟩⟩))
      go_roundg 6
      case measure => have := hq.out; omega
      case rel => exact ⟨⟨by repeat (first | (with_reducible first | exact HB.out | apply below_alloc | apply pw_below_drewN | apply below_drew1 | refine below_set ?_ GE2.out | refine below_set ?_ GE5.out) | exact HB.out)⟩, ⟨blk_far (blk_drewN (blk_far BK2.out N25.out _) _) N25.out _⟩, .inr (.inl ⟨⟨rfl⟩, rfl, rfl, rfl, ⟨blk_put (cs := #[.int .i64 0, .int .i64 0]) (blk_drewN (blk_put (cs := #[.int .i64 0, .int .i64 0]) BK5.out 0 _ rfl) _) 0 _ rfl⟩, ⟨(Below.heap_setCell _ _ _ _ N5I_.out).trans (show _ = _ from (Below.heap_setCell _ _ _ _ N5I_.out).trans HI.out)⟩⟩)⟩
    · have hnx : ∀ ty, (Instr.next (.pointer (some ⟨gI, 0, none⟩)) true ty).run Try.prog wr = .ok (.tuple #[.bool true, .int .i64 1, .int .i32 50]) (wr.iterAt gI ⟨#[49, 50, 46, 51, 52, 48]⟩ 2) := fun ty => (Lib.run_next_any_at wr gI ⟨#[49, 50, 46, 51, 52, 48]⟩ 1 ty HI.out (by decide)).trans (by rfl)
      have HI2 : Aside0 ((wr.iterAt gI ⟨#[49, 50, 46, 51, 52, 48]⟩ 2).heap[gI]? = some (.stringIter ⟨#[49, 50, 46, 51, 52, 48]⟩ 2)) := ⟨Lib.iterAt_heap wr gI ⟨#[49, 50, 46, 51, 52, 48]⟩ 1 2 HI.out⟩
      have HB2 : Aside0 (Below w.heap.size w (wr.iterAt gI ⟨#[49, 50, 46, 51, 52, 48]⟩ 2)) := ⟨Lib.below_iterAt HB.out GEI.out ⟨#[49, 50, 46, 51, 52, 48]⟩ 2⟩
      have BK22 : Aside0 ((wr.iterAt gI ⟨#[49, 50, 46, 51, 52, 48]⟩ 2).heap[g2]? = some (.cells #[.int .i64 0, .int .i64 0] 25 (0, 0))) := ⟨(Lib.iterAt_other wr gI g2 ⟨#[49, 50, 46, 51, 52, 48]⟩ 2 N2I.out).trans BK2.out⟩
      have BK52 : Aside0 ((wr.iterAt gI ⟨#[49, 50, 46, 51, 52, 48]⟩ 2).heap[g5]? = some (.cells #[.int .i64 (-1), .int .i64 0] 25 (0, 0))) := ⟨(Lib.iterAt_other wr gI g5 ⟨#[49, 50, 46, 51, 52, 48]⟩ 2 N5I.out).trans BK5.out⟩
      clear HI HB BK2 BK5
      have HI := HI2
      have HB := HB2
      have BK2 := BK22
      have BK5 := BK52
      clear HI2 HB2 BK22 BK52
      generalize wr.iterAt gI ⟨#[49, 50, 46, 51, 52, 48]⟩ 2 = w1 at *
      have hcz1_0 : w1.cell? ⟨g5, 0, none⟩ = some (.int .i64 (-1)) := (blk_cell BK5.out 0).trans rfl; have hcz1_1 : w1.cell? ⟨g5, 1, none⟩ = some (.int .i64 0) := (blk_cell BK5.out 1).trans rfl; have hfz1_0 := blk_frozen BK5.out 0; have hfz1_1 := blk_frozen BK5.out 1
      go_wp2_with (first | (go_at_call 32; (with_reducible refine (num_Mul.calls 3 (-1) 10 (-10) 0 _ (by decide +kernel)).mono ?_); rintro e_ w2 ⟨rfl, hb⟩; have n0_ := Aside0.mk (below_step (by repeat (first | (with_reducible first | exact HB.out | apply below_alloc | apply pw_below_drewN | apply below_drew1 | refine below_set ?_ GE2.out | refine below_set ?_ GE5.out) | exact HB.out)) hb); have n1_ := Aside0.mk (blk_below (g := g2) (o := .cells #[.int .i64 0, .int .i64 0] 25 (0, 0)) (by exact BK2.out) hb); have n2_ := Aside0.mk (blk_below (g := g5) (o := .cells #[.int .i64 (-1), .int .i64 0] 25 (0, 0)) (by exact BK5.out) hb); have n3_ := Aside0.mk (blk_below (g := gI) (o := .stringIter ⟨#[49, 50, 46, 51, 52, 48]⟩ 2) (by exact HI.out) hb); clear HB BK2 BK5 HI; have HB := n0_; have BK2 := n1_; have BK5 := n2_; have HI := n3_; clear n0_ n1_ n2_ n3_ hb; have hcz2_0 : w2.cell? ⟨g5, 0, none⟩ = some (.int .i64 (-1)) := (blk_cell BK5.out 0).trans rfl; have hcz2_1 : w2.cell? ⟨g5, 1, none⟩ = some (.int .i64 0) := (blk_cell BK5.out 1).trans rfl; have hfz2_0 := blk_frozen BK5.out 0; have hfz2_1 := blk_frozen BK5.out 1) | (go_at_call 33; (with_reducible refine (num_Sub.calls (-10) 2 (-12) 0 _ (by decide +kernel)).mono ?_); rintro e_ w3 ⟨rfl, ⟨nd, rfl⟩⟩))
      go_roundg 5
      case measure => have := hq.out; omega
      case rel => exact ⟨⟨by repeat (first | (with_reducible first | exact HB.out | apply below_alloc | apply pw_below_drewN | apply below_drew1 | refine below_set ?_ GE2.out | refine below_set ?_ GE5.out) | exact HB.out)⟩, ⟨blk_far (blk_drewN (blk_far BK2.out N25.out _) _) N25.out _⟩, .inr (.inr (.inl ⟨⟨rfl⟩, rfl, rfl, rfl, ⟨blk_put (cs := #[.int .i64 (-10), .int .i64 0]) (blk_drewN (blk_put (cs := #[.int .i64 (-1), .int .i64 0]) BK5.out 0 _ rfl) _) 0 _ rfl⟩, ⟨(Below.heap_setCell _ _ _ _ N5I_.out).trans (show _ = _ from (Below.heap_setCell _ _ _ _ N5I_.out).trans HI.out)⟩⟩))⟩
    · have hnx : ∀ ty, (Instr.next (.pointer (some ⟨gI, 0, none⟩)) true ty).run Try.prog wr = .ok (.tuple #[.bool true, .int .i64 2, .int .i32 46]) (wr.iterAt gI ⟨#[49, 50, 46, 51, 52, 48]⟩ 3) := fun ty => (Lib.run_next_any_at wr gI ⟨#[49, 50, 46, 51, 52, 48]⟩ 2 ty HI.out (by decide)).trans (by rfl)
      have HI2 : Aside0 ((wr.iterAt gI ⟨#[49, 50, 46, 51, 52, 48]⟩ 3).heap[gI]? = some (.stringIter ⟨#[49, 50, 46, 51, 52, 48]⟩ 3)) := ⟨Lib.iterAt_heap wr gI ⟨#[49, 50, 46, 51, 52, 48]⟩ 2 3 HI.out⟩
      have HB2 : Aside0 (Below w.heap.size w (wr.iterAt gI ⟨#[49, 50, 46, 51, 52, 48]⟩ 3)) := ⟨Lib.below_iterAt HB.out GEI.out ⟨#[49, 50, 46, 51, 52, 48]⟩ 3⟩
      have BK22 : Aside0 ((wr.iterAt gI ⟨#[49, 50, 46, 51, 52, 48]⟩ 3).heap[g2]? = some (.cells #[.int .i64 0, .int .i64 0] 25 (0, 0))) := ⟨(Lib.iterAt_other wr gI g2 ⟨#[49, 50, 46, 51, 52, 48]⟩ 3 N2I.out).trans BK2.out⟩
      have BK52 : Aside0 ((wr.iterAt gI ⟨#[49, 50, 46, 51, 52, 48]⟩ 3).heap[g5]? = some (.cells #[.int .i64 (-12), .int .i64 0] 25 (0, 0))) := ⟨(Lib.iterAt_other wr gI g5 ⟨#[49, 50, 46, 51, 52, 48]⟩ 3 N5I.out).trans BK5.out⟩
      clear HI HB BK2 BK5
      have HI := HI2
      have HB := HB2
      have BK2 := BK22
      have BK5 := BK52
      clear HI2 HB2 BK22 BK52
      generalize wr.iterAt gI ⟨#[49, 50, 46, 51, 52, 48]⟩ 3 = w1 at *
      have hcz1_0 : w1.cell? ⟨g5, 0, none⟩ = some (.int .i64 (-12)) := (blk_cell BK5.out 0).trans rfl; have hcz1_1 : w1.cell? ⟨g5, 1, none⟩ = some (.int .i64 0) := (blk_cell BK5.out 1).trans rfl; have hfz1_0 := blk_frozen BK5.out 0; have hfz1_1 := blk_frozen BK5.out 1
      go_wp2
      go_roundg 4
      case measure => have := hq.out; omega
      case rel => exact ⟨⟨HB.out⟩, ⟨BK2.out⟩, .inr (.inr (.inr (.inl ⟨⟨rfl⟩, rfl, rfl, rfl, ⟨BK5.out⟩, ⟨HI.out⟩⟩)))⟩
    · have hnx : ∀ ty, (Instr.next (.pointer (some ⟨gI, 0, none⟩)) true ty).run Try.prog wr = .ok (.tuple #[.bool true, .int .i64 3, .int .i32 51]) (wr.iterAt gI ⟨#[49, 50, 46, 51, 52, 48]⟩ 4) := fun ty => (Lib.run_next_any_at wr gI ⟨#[49, 50, 46, 51, 52, 48]⟩ 3 ty HI.out (by decide)).trans (by rfl)
      have HI2 : Aside0 ((wr.iterAt gI ⟨#[49, 50, 46, 51, 52, 48]⟩ 4).heap[gI]? = some (.stringIter ⟨#[49, 50, 46, 51, 52, 48]⟩ 4)) := ⟨Lib.iterAt_heap wr gI ⟨#[49, 50, 46, 51, 52, 48]⟩ 3 4 HI.out⟩
      have HB2 : Aside0 (Below w.heap.size w (wr.iterAt gI ⟨#[49, 50, 46, 51, 52, 48]⟩ 4)) := ⟨Lib.below_iterAt HB.out GEI.out ⟨#[49, 50, 46, 51, 52, 48]⟩ 4⟩
      have BK22 : Aside0 ((wr.iterAt gI ⟨#[49, 50, 46, 51, 52, 48]⟩ 4).heap[g2]? = some (.cells #[.int .i64 0, .int .i64 0] 25 (0, 0))) := ⟨(Lib.iterAt_other wr gI g2 ⟨#[49, 50, 46, 51, 52, 48]⟩ 4 N2I.out).trans BK2.out⟩
      have BK52 : Aside0 ((wr.iterAt gI ⟨#[49, 50, 46, 51, 52, 48]⟩ 4).heap[g5]? = some (.cells #[.int .i64 (-12), .int .i64 0] 25 (0, 0))) := ⟨(Lib.iterAt_other wr gI g5 ⟨#[49, 50, 46, 51, 52, 48]⟩ 4 N5I.out).trans BK5.out⟩
      clear HI HB BK2 BK5
      have HI := HI2
      have HB := HB2
      have BK2 := BK22
      have BK5 := BK52
      clear HI2 HB2 BK22 BK52
      generalize wr.iterAt gI ⟨#[49, 50, 46, 51, 52, 48]⟩ 4 = w1 at *
      have hcz1_0 : w1.cell? ⟨g5, 0, none⟩ = some (.int .i64 (-12)) := (blk_cell BK5.out 0).trans rfl; have hcz1_1 : w1.cell? ⟨g5, 1, none⟩ = some (.int .i64 0) := (blk_cell BK5.out 1).trans rfl; have hfz1_0 := blk_frozen BK5.out 0; have hfz1_1 := blk_frozen BK5.out 1
      go_wp2_with (first | (go_at_call 32; (with_reducible refine (num_Mul.calls 3 (-12) 10 (-120) 0 _ (by decide +kernel)).mono ?_); rintro e_ w2 ⟨rfl, hb⟩; have n0_ := Aside0.mk (below_step (by repeat (first | (with_reducible first | exact HB.out | apply below_alloc | apply pw_below_drewN | apply below_drew1 | refine below_set ?_ GE2.out | refine below_set ?_ GE5.out) | exact HB.out)) hb); have n1_ := Aside0.mk (blk_below (g := g2) (o := .cells #[.int .i64 0, .int .i64 0] 25 (0, 0)) (by refine blk_far ?_ N25.out _; exact BK2.out) hb); have n2_ := Aside0.mk (blk_below (g := g5) (o := .cells #[.int .i64 (-12), .int .i64 1] 25 (0, 0)) (by refine blk_put (cs := #[.int .i64 (-12), .int .i64 0]) ?_ 1 _ rfl; exact BK5.out) hb); have n3_ := Aside0.mk (blk_below (g := gI) (o := .stringIter ⟨#[49, 50, 46, 51, 52, 48]⟩ 4) (by rw [Below.heap_setCell _ _ _ _ N5I_.out]; exact HI.out) hb); clear HB BK2 BK5 HI; have HB := n0_; have BK2 := n1_; have BK5 := n2_; have HI := n3_; clear n0_ n1_ n2_ n3_ hb; have hcz2_0 : w2.cell? ⟨g5, 0, none⟩ = some (.int .i64 (-12)) := (blk_cell BK5.out 0).trans rfl; have hcz2_1 : w2.cell? ⟨g5, 1, none⟩ = some (.int .i64 1) := (blk_cell BK5.out 1).trans rfl; have hfz2_0 := blk_frozen BK5.out 0; have hfz2_1 := blk_frozen BK5.out 1) | (go_at_call 33; (with_reducible refine (num_Sub.calls (-120) 3 (-123) 0 _ (by decide +kernel)).mono ?_); rintro e_ w3 ⟨rfl, ⟨nd, rfl⟩⟩))
      go_roundg 3
      case measure => have := hq.out; omega
      case rel => exact ⟨⟨by repeat (first | (with_reducible first | exact HB.out | apply below_alloc | apply pw_below_drewN | apply below_drew1 | refine below_set ?_ GE2.out | refine below_set ?_ GE5.out) | exact HB.out)⟩, ⟨blk_far (blk_drewN (blk_far BK2.out N25.out _) _) N25.out _⟩, .inr (.inr (.inr (.inr (.inl ⟨⟨rfl⟩, rfl, rfl, rfl, ⟨blk_put (cs := #[.int .i64 (-120), .int .i64 1]) (blk_drewN (blk_put (cs := #[.int .i64 (-12), .int .i64 1]) BK5.out 0 _ rfl) _) 0 _ rfl⟩, ⟨(Below.heap_setCell _ _ _ _ N5I_.out).trans (show _ = _ from (Below.heap_setCell _ _ _ _ N5I_.out).trans HI.out)⟩⟩))))⟩
    · have hnx : ∀ ty, (Instr.next (.pointer (some ⟨gI, 0, none⟩)) true ty).run Try.prog wr = .ok (.tuple #[.bool true, .int .i64 4, .int .i32 52]) (wr.iterAt gI ⟨#[49, 50, 46, 51, 52, 48]⟩ 5) := fun ty => (Lib.run_next_any_at wr gI ⟨#[49, 50, 46, 51, 52, 48]⟩ 4 ty HI.out (by decide)).trans (by rfl)
      have HI2 : Aside0 ((wr.iterAt gI ⟨#[49, 50, 46, 51, 52, 48]⟩ 5).heap[gI]? = some (.stringIter ⟨#[49, 50, 46, 51, 52, 48]⟩ 5)) := ⟨Lib.iterAt_heap wr gI ⟨#[49, 50, 46, 51, 52, 48]⟩ 4 5 HI.out⟩
      have HB2 : Aside0 (Below w.heap.size w (wr.iterAt gI ⟨#[49, 50, 46, 51, 52, 48]⟩ 5)) := ⟨Lib.below_iterAt HB.out GEI.out ⟨#[49, 50, 46, 51, 52, 48]⟩ 5⟩
      have BK22 : Aside0 ((wr.iterAt gI ⟨#[49, 50, 46, 51, 52, 48]⟩ 5).heap[g2]? = some (.cells #[.int .i64 0, .int .i64 0] 25 (0, 0))) := ⟨(Lib.iterAt_other wr gI g2 ⟨#[49, 50, 46, 51, 52, 48]⟩ 5 N2I.out).trans BK2.out⟩
      have BK52 : Aside0 ((wr.iterAt gI ⟨#[49, 50, 46, 51, 52, 48]⟩ 5).heap[g5]? = some (.cells #[.int .i64 (-123), .int .i64 1] 25 (0, 0))) := ⟨(Lib.iterAt_other wr gI g5 ⟨#[49, 50, 46, 51, 52, 48]⟩ 5 N5I.out).trans BK5.out⟩
      clear HI HB BK2 BK5
      have HI := HI2
      have HB := HB2
      have BK2 := BK22
      have BK5 := BK52
      clear HI2 HB2 BK22 BK52
      generalize wr.iterAt gI ⟨#[49, 50, 46, 51, 52, 48]⟩ 5 = w1 at *
      have hcz1_0 : w1.cell? ⟨g5, 0, none⟩ = some (.int .i64 (-123)) := (blk_cell BK5.out 0).trans rfl; have hcz1_1 : w1.cell? ⟨g5, 1, none⟩ = some (.int .i64 1) := (blk_cell BK5.out 1).trans rfl; have hfz1_0 := blk_frozen BK5.out 0; have hfz1_1 := blk_frozen BK5.out 1
      go_wp2_with (first | (go_at_call 32; (with_reducible refine (num_Mul.calls 3 (-123) 10 (-1230) 0 _ (by decide +kernel)).mono ?_); rintro e_ w2 ⟨rfl, hb⟩; have n0_ := Aside0.mk (below_step (by repeat (first | (with_reducible first | exact HB.out | apply below_alloc | apply pw_below_drewN | apply below_drew1 | refine below_set ?_ GE2.out | refine below_set ?_ GE5.out) | exact HB.out)) hb); have n1_ := Aside0.mk (blk_below (g := g2) (o := .cells #[.int .i64 0, .int .i64 0] 25 (0, 0)) (by refine blk_far ?_ N25.out _; exact BK2.out) hb); have n2_ := Aside0.mk (blk_below (g := g5) (o := .cells #[.int .i64 (-123), .int .i64 2] 25 (0, 0)) (by refine blk_put (cs := #[.int .i64 (-123), .int .i64 1]) ?_ 1 _ rfl; exact BK5.out) hb); have n3_ := Aside0.mk (blk_below (g := gI) (o := .stringIter ⟨#[49, 50, 46, 51, 52, 48]⟩ 5) (by rw [Below.heap_setCell _ _ _ _ N5I_.out]; exact HI.out) hb); clear HB BK2 BK5 HI; have HB := n0_; have BK2 := n1_; have BK5 := n2_; have HI := n3_; clear n0_ n1_ n2_ n3_ hb; have hcz2_0 : w2.cell? ⟨g5, 0, none⟩ = some (.int .i64 (-123)) := (blk_cell BK5.out 0).trans rfl; have hcz2_1 : w2.cell? ⟨g5, 1, none⟩ = some (.int .i64 2) := (blk_cell BK5.out 1).trans rfl; have hfz2_0 := blk_frozen BK5.out 0; have hfz2_1 := blk_frozen BK5.out 1) | (go_at_call 33; (with_reducible refine (num_Sub.calls (-1230) 4 (-1234) 0 _ (by decide +kernel)).mono ?_); rintro e_ w3 ⟨rfl, ⟨nd, rfl⟩⟩))
      go_roundg 2
      case measure => have := hq.out; omega
      case rel => exact ⟨⟨by repeat (first | (with_reducible first | exact HB.out | apply below_alloc | apply pw_below_drewN | apply below_drew1 | refine below_set ?_ GE2.out | refine below_set ?_ GE5.out) | exact HB.out)⟩, ⟨blk_far (blk_drewN (blk_far BK2.out N25.out _) _) N25.out _⟩, .inr (.inr (.inr (.inr (.inr (.inl ⟨⟨rfl⟩, rfl, rfl, rfl, ⟨blk_put (cs := #[.int .i64 (-1230), .int .i64 2]) (blk_drewN (blk_put (cs := #[.int .i64 (-123), .int .i64 2]) BK5.out 0 _ rfl) _) 0 _ rfl⟩, ⟨(Below.heap_setCell _ _ _ _ N5I_.out).trans (show _ = _ from (Below.heap_setCell _ _ _ _ N5I_.out).trans HI.out)⟩⟩)))))⟩
    · have hnx : ∀ ty, (Instr.next (.pointer (some ⟨gI, 0, none⟩)) true ty).run Try.prog wr = .ok (.tuple #[.bool true, .int .i64 5, .int .i32 48]) (wr.iterAt gI ⟨#[49, 50, 46, 51, 52, 48]⟩ 6) := fun ty => (Lib.run_next_any_at wr gI ⟨#[49, 50, 46, 51, 52, 48]⟩ 5 ty HI.out (by decide)).trans (by rfl)
      have HI2 : Aside0 ((wr.iterAt gI ⟨#[49, 50, 46, 51, 52, 48]⟩ 6).heap[gI]? = some (.stringIter ⟨#[49, 50, 46, 51, 52, 48]⟩ 6)) := ⟨Lib.iterAt_heap wr gI ⟨#[49, 50, 46, 51, 52, 48]⟩ 5 6 HI.out⟩
      have HB2 : Aside0 (Below w.heap.size w (wr.iterAt gI ⟨#[49, 50, 46, 51, 52, 48]⟩ 6)) := ⟨Lib.below_iterAt HB.out GEI.out ⟨#[49, 50, 46, 51, 52, 48]⟩ 6⟩
      have BK22 : Aside0 ((wr.iterAt gI ⟨#[49, 50, 46, 51, 52, 48]⟩ 6).heap[g2]? = some (.cells #[.int .i64 0, .int .i64 0] 25 (0, 0))) := ⟨(Lib.iterAt_other wr gI g2 ⟨#[49, 50, 46, 51, 52, 48]⟩ 6 N2I.out).trans BK2.out⟩
      have BK52 : Aside0 ((wr.iterAt gI ⟨#[49, 50, 46, 51, 52, 48]⟩ 6).heap[g5]? = some (.cells #[.int .i64 (-1234), .int .i64 2] 25 (0, 0))) := ⟨(Lib.iterAt_other wr gI g5 ⟨#[49, 50, 46, 51, 52, 48]⟩ 6 N5I.out).trans BK5.out⟩
      clear HI HB BK2 BK5
      have HI := HI2
      have HB := HB2
      have BK2 := BK22
      have BK5 := BK52
      clear HI2 HB2 BK22 BK52
      generalize wr.iterAt gI ⟨#[49, 50, 46, 51, 52, 48]⟩ 6 = w1 at *
      have hcz1_0 : w1.cell? ⟨g5, 0, none⟩ = some (.int .i64 (-1234)) := (blk_cell BK5.out 0).trans rfl; have hcz1_1 : w1.cell? ⟨g5, 1, none⟩ = some (.int .i64 2) := (blk_cell BK5.out 1).trans rfl; have hfz1_0 := blk_frozen BK5.out 0; have hfz1_1 := blk_frozen BK5.out 1
      go_wp2_with (first | (go_at_call 32; (with_reducible refine (num_Mul.calls 3 (-1234) 10 (-12340) 0 _ (by decide +kernel)).mono ?_); rintro e_ w2 ⟨rfl, hb⟩; have n0_ := Aside0.mk (below_step (by repeat (first | (with_reducible first | exact HB.out | apply below_alloc | apply pw_below_drewN | apply below_drew1 | refine below_set ?_ GE2.out | refine below_set ?_ GE5.out) | exact HB.out)) hb); have n1_ := Aside0.mk (blk_below (g := g2) (o := .cells #[.int .i64 0, .int .i64 0] 25 (0, 0)) (by refine blk_far ?_ N25.out _; exact BK2.out) hb); have n2_ := Aside0.mk (blk_below (g := g5) (o := .cells #[.int .i64 (-1234), .int .i64 3] 25 (0, 0)) (by refine blk_put (cs := #[.int .i64 (-1234), .int .i64 2]) ?_ 1 _ rfl; exact BK5.out) hb); have n3_ := Aside0.mk (blk_below (g := gI) (o := .stringIter ⟨#[49, 50, 46, 51, 52, 48]⟩ 6) (by rw [Below.heap_setCell _ _ _ _ N5I_.out]; exact HI.out) hb); clear HB BK2 BK5 HI; have HB := n0_; have BK2 := n1_; have BK5 := n2_; have HI := n3_; clear n0_ n1_ n2_ n3_ hb; have hcz2_0 : w2.cell? ⟨g5, 0, none⟩ = some (.int .i64 (-1234)) := (blk_cell BK5.out 0).trans rfl; have hcz2_1 : w2.cell? ⟨g5, 1, none⟩ = some (.int .i64 3) := (blk_cell BK5.out 1).trans rfl; have hfz2_0 := blk_frozen BK5.out 0; have hfz2_1 := blk_frozen BK5.out 1) | (go_at_call 33; (with_reducible refine (num_Sub.calls (-12340) 0 (-12340) 0 _ (by decide +kernel)).mono ?_); rintro e_ w3 ⟨rfl, ⟨nd, rfl⟩⟩))
      go_roundg 1
      case measure => have := hq.out; omega
      case rel => exact ⟨⟨by repeat (first | (with_reducible first | exact HB.out | apply below_alloc | apply pw_below_drewN | apply below_drew1 | refine below_set ?_ GE2.out | refine below_set ?_ GE5.out) | exact HB.out)⟩, ⟨blk_far (blk_drewN (blk_far BK2.out N25.out _) _) N25.out _⟩, .inr (.inr (.inr (.inr (.inr (.inr (⟨⟨rfl⟩, rfl, rfl, rfl, ⟨blk_put (cs := #[.int .i64 (-12340), .int .i64 3]) (blk_drewN (blk_put (cs := #[.int .i64 (-1234), .int .i64 3]) BK5.out 0 _ rfl) _) 0 _ rfl⟩, ⟨(Below.heap_setCell _ _ _ _ N5I_.out).trans (show _ = _ from (Below.heap_setCell _ _ _ _ N5I_.out).trans HI.out)⟩⟩))))))⟩
    · have hnx : ∀ ty, (Instr.next (.pointer (some ⟨gI, 0, none⟩)) true ty).run Try.prog wr = _ := fun ty => Lib.run_next_end_at wr gI ⟨#[49, 50, 46, 51, 52, 48]⟩ 6 ty HI.out (by decide)
      have hcz1_0 : wr.cell? ⟨g5, 0, none⟩ = some (.int .i64 (-12340)) := (blk_cell BK5.out 0).trans rfl; have hcz1_1 : wr.cell? ⟨g5, 1, none⟩ = some (.int .i64 3) := (blk_cell BK5.out 1).trans rfl; have hfz1_0 := blk_frozen BK5.out 0; have hfz1_1 := blk_frozen BK5.out 1
      go_wp2_with (first | (go_at_call 34; (with_reducible refine (num_Neg.calls (-12340) 12340 0 _ (by decide +kernel)).mono ?_); rintro e_ w3 ⟨rfl, ⟨nd, rfl⟩⟩) | (go_at_call 35; (with_reducible refine (dec_made.calls 12340 3 0 12340 3 0 _ (by decide +kernel)).mono ?_); rintro e_ w4 ⟨rfl, hb⟩; have n0_ := Aside0.mk (below_step (by repeat (first | (with_reducible first | exact HB.out | apply below_alloc | apply pw_below_drewN | apply below_drew1 | refine below_set ?_ GE2.out | refine below_set ?_ GE5.out) | exact HB.out)) hb); have n1_ := Aside0.mk (blk_below (g := g2) (o := .cells #[.int .i64 0, .int .i64 0] 25 (0, 0)) (blk_far (blk_drewN BK2.out _) N25.out _) hb); clear HB BK2 BK5 HI; have HB := n0_; have BK2 := n1_; clear n0_ n1_ hb; have hcz9_0 : w4.cell? ⟨g2, 0, none⟩ = some (.int .i64 0) := (blk_cell BK2.out 0).trans rfl; have hcz9_1 : w4.cell? ⟨g2, 1, none⟩ = some (.int .i64 0) := (blk_cell BK2.out 1).trans rfl; have hfz9_0 := blk_frozen BK2.out 0; have hfz9_1 := blk_frozen BK2.out 1))
      refine bodyPost_ret (results_ct rfl _ _ g2 25 #[.int .i64 12340, .int .i64 3] (0, 0) _ rfl (by (with_reducible repeat (first | refine blk_drewN ?_ _ | refine blk_drew ?_ | refine blk_alloc ?_ _)); refine blk_put (cs := #[.int .i64 12340, .int .i64 0]) ?_ 1 _ rfl; (with_reducible repeat (first | refine blk_drewN ?_ _ | refine blk_drew ?_ | refine blk_alloc ?_ _)); refine blk_put (cs := #[.int .i64 0, .int .i64 0]) ?_ 0 _ rfl; (with_reducible repeat (first | refine blk_drewN ?_ _ | refine blk_drew ?_ | refine blk_alloc ?_ _)); exact BK2.out) Try.underlying25 rfl (by kernel_rfl)) rfl ?_
      exact ⟨rfl, by repeat (first | (with_reducible first | exact HB.out | apply below_alloc | apply pw_below_drewN | apply below_drew1 | refine below_set ?_ GE2.out | refine below_set ?_ GE5.out) | exact HB.out)⟩
theorem dec_Read.calls (a0 : ByteArray) (r1 : Int) (r2 : Int) (r3 : Int) (w : World) (h : dec_Read.f a0 = some (r1, r2, r3)) :
    Calls Try.prog 11 #[.string a0] w fun e w' => e = .returned (.tuple #[.agg #[.int .i64 r1, .int .i64 r2], .int .i64 r3]) ∧ Below w.heap.size w w' := by
  unfold dec_Read.f at h
  by_cases g : a0 = ⟨#[49, 50, 46, 51, 52, 48]⟩
  · rw [if_pos g] at h
    simp only [Option.some.injEq, Prod.mk.injEq] at h
    obtain ⟨rfl, rfl, rfl⟩ := h
    subst g
    exact dec_Read.at12 w
  · rw [if_neg g] at h
    cases h
end Go.Proofs.Ytkongoedgngfhaa.P
