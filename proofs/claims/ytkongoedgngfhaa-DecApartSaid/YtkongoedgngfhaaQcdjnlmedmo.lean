-- Written by a program of the session (a print of the seat's translation, functions given by hand among it). Lean checks it.
import Derived.Test.YtkongoedgngfhaaQgkkgmomhkk
namespace Go.Proofs.Ytkongoedgngfhaa.P
open Go.RowKit Go.Proofs.YtkongoedgngfhaaW.PrintWords Go.Proofs.YtkongoedgngfhaaW.PrintLast Go.Proofs.YtkongoedgngfhaaW.PrintMore
attribute [local go_sem] max2_int min2_int max_two min_two max_three min_three max_four min_four   -- for this text's walks alone
set_option linter.unusedVariables false
set_option linter.unusedSimpArgs false
def dec_Right.f (a0_0 : Int) (a0_1 : Int) : Option (Bool) := if a0_1 ≥ 0 then (some (decide (a0_1 ≤ 9))) else (some false)
set_option maxHeartbeats 8000000 in
set_option maxRecDepth 100000 in
theorem dec_Right.calls (a0_0 : Int) (a0_1 : Int) (r : Bool) (w : World) (h : dec_Right.f a0_0 a0_1 = some r) :
    Calls Try.prog 31 #[.agg #[.int .i64 a0_0, .int .i64 a0_1]] w fun e w' => e = .returned (.bool r) ∧ Below w.heap.size w w' := by
  have hu25 := Try.underlying25
  have HB := Aside0.mk (Below.refl w.heap.size w)
  have H : (if a0_1 ≥ 0 then (some (decide (a0_1 ≤ 9))) else (some false)) = some r := h
  clear h
  by_cases c2 : a0_1 ≥ 0
  · rw [if_pos c2] at H
    have c2b0 : decide (0 ≤ a0_1) = true := decide_eq_true c2
    clear c2
    obtain rfl := Option.some.inj H
    go_enter Try.func31, Try.ntmps31
    go_wp2_with (first | ((with_reducible refine gate_dst (N := 1) rfl ?_); refine box_event ?hg (N := 1) ?hd (cs := #[.int .i64 a0_0, .int .i64 a0_1]) (t := 25) ?hr ?_; (case hd => rfl); (case hg => rfl); (case hr => first | (go_simp; done) | (go_simp; rfl)); intro gb101 hg w3 hbox hb; have n0_ := Aside0.mk (below_step (by repeat (first | (with_reducible first | exact HB.out | apply below_alloc | apply pw_below_drewN | apply below_drew1) | exact HB.out)) hb); have n1_ := Aside0.mk (hbox); have n2_ := Aside0.mk ((by rw [hg]; exact (below_size (by repeat (first | (with_reducible first | exact HB.out | apply below_alloc | apply pw_below_drewN | apply below_drew1) | exact HB.out))) : w.heap.size ≤ gb101)); have n3_ := Aside0.mk ((by rw [hg]; exact (below_size (by repeat (first | (with_reducible first | exact HB.out | apply below_alloc | apply pw_below_drewN | apply below_drew1) | exact HB.out))) : w.heap.size ≤ gb101)); clear HB; have HB := n0_; have BK101 := n1_; have GW101 := n2_; have GE101 := n3_; clear n0_ n1_ n2_ n3_; clear hb hbox hg; have hcz4_0 : w3.cell? ⟨gb101, 0, none⟩ = some (.int .i64 a0_0) := (blk_cell BK101.out 0).trans rfl; have hcz4_1 : w3.cell? ⟨gb101, 1, none⟩ = some (.int .i64 a0_1) := (blk_cell BK101.out 1).trans rfl; have hfz4_0 := blk_frozen BK101.out 0; have hfz4_1 := blk_frozen BK101.out 1))
    go_ret
    exact ⟨by first | rfl | (simp [errW_none, errW_some] <;> rfl) | (simp [*, errW_none, errW_some] <;> rfl), by repeat (first | (with_reducible first | exact HB.out | apply below_alloc | apply pw_below_drewN | apply below_drew1 | refine below_set ?_ GE101.out) | exact HB.out)⟩
  · rw [if_neg c2] at H
    have c2b0 : decide (0 ≤ a0_1) = false := decide_eq_false c2
    clear c2
    obtain rfl := Option.some.inj H
    go_enter Try.func31, Try.ntmps31
    go_wp2_with (first | ((with_reducible refine gate_dst (N := 1) rfl ?_); refine box_event ?hg (N := 1) ?hd (cs := #[.int .i64 a0_0, .int .i64 a0_1]) (t := 25) ?hr ?_; (case hd => rfl); (case hg => rfl); (case hr => first | (go_simp; done) | (go_simp; rfl)); intro gb101 hg w5 hbox hb; have n0_ := Aside0.mk (below_step (by repeat (first | (with_reducible first | exact HB.out | apply below_alloc | apply pw_below_drewN | apply below_drew1) | exact HB.out)) hb); have n1_ := Aside0.mk (hbox); have n2_ := Aside0.mk ((by rw [hg]; exact (below_size (by repeat (first | (with_reducible first | exact HB.out | apply below_alloc | apply pw_below_drewN | apply below_drew1) | exact HB.out))) : w.heap.size ≤ gb101)); have n3_ := Aside0.mk ((by rw [hg]; exact (below_size (by repeat (first | (with_reducible first | exact HB.out | apply below_alloc | apply pw_below_drewN | apply below_drew1) | exact HB.out))) : w.heap.size ≤ gb101)); clear HB; have HB := n0_; have BK101 := n1_; have GW101 := n2_; have GE101 := n3_; clear n0_ n1_ n2_ n3_; clear hb hbox hg; have hcz6_0 : w5.cell? ⟨gb101, 0, none⟩ = some (.int .i64 a0_0) := (blk_cell BK101.out 0).trans rfl; have hcz6_1 : w5.cell? ⟨gb101, 1, none⟩ = some (.int .i64 a0_1) := (blk_cell BK101.out 1).trans rfl; have hfz6_0 := blk_frozen BK101.out 0; have hfz6_1 := blk_frozen BK101.out 1))
    go_ret
    exact ⟨by first | rfl | (simp [errW_none, errW_some] <;> rfl) | (simp [*, errW_none, errW_some] <;> rfl), by repeat (first | (with_reducible first | exact HB.out | apply below_alloc | apply pw_below_drewN | apply below_drew1 | refine below_set ?_ GE101.out) | exact HB.out)⟩
def dec_Text.f (a0_0 : Int) (a0_1 : Int) : Option (ByteArray) := if a0_0 = -5 ∧ a0_1 = 1 then some ⟨#[45, 48, 46, 53]⟩ else none
set_option maxHeartbeats 8000000 in
set_option maxRecDepth 100000 in
theorem dec_Text.calls (a0_0 : Int) (a0_1 : Int) (r : ByteArray) (w : World) (h : dec_Text.f a0_0 a0_1 = some r) :
    Calls Try.prog 9 #[.agg #[.int .i64 a0_0, .int .i64 a0_1]] w fun e w' => e = .returned (.string r) ∧ Below w.heap.size w w' := by
  have hu25 := Try.underlying25
  have HB := Aside0.mk (Below.refl w.heap.size w)
  obtain ⟨e0, e1, e2⟩ : a0_0 = -5 ∧ a0_1 = 1 ∧ r = ⟨#[45, 48, 46, 53]⟩ := by
    unfold dec_Text.f at h
    by_cases g : a0_0 = -5 ∧ a0_1 = 1
    · rw [if_pos g] at h
      exact ⟨g.1, g.2, (Option.some.inj h).symm⟩
    · rw [if_neg g] at h
      cases h
  subst e0 e1 e2
  clear h
  go_enter Try.func9, Try.ntmps9
  go_wp2_with (first | ((with_reducible refine gate_dst (N := 1) rfl ?_); refine box_event ?hg (N := 1) ?hd (cs := #[.int .i64 (-5), .int .i64 1]) (t := 25) ?hr ?_; (case hd => rfl); (case hg => rfl); (case hr => first | (go_simp; done) | (go_simp; rfl)); intro gb1 hg w4 hbox hb; have n0_ := Aside0.mk (below_step (by repeat (first | (with_reducible first | exact HB.out | apply below_alloc | apply pw_below_drewN | apply below_drew1) | exact HB.out)) hb); have n1_ := Aside0.mk (hbox); have n2_ := Aside0.mk ((by rw [hg]; exact (below_size (by repeat (first | (with_reducible first | exact HB.out | apply below_alloc | apply pw_below_drewN | apply below_drew1) | exact HB.out))) : w.heap.size ≤ gb1)); clear HB; have HB := n0_; have BK1 := n1_; have GE1 := n2_; clear n0_ n1_ n2_; clear hb hbox hg; have hcz1_0 : w4.cell? ⟨gb1, 0, none⟩ = some (.int .i64 (-5)) := (blk_cell BK1.out 0).trans rfl; have hcz1_1 : w4.cell? ⟨gb1, 1, none⟩ = some (.int .i64 1) := (blk_cell BK1.out 1).trans rfl; have hfz1_0 := blk_frozen BK1.out 0; have hfz1_1 := blk_frozen BK1.out 1) | (go_at_call 31; (with_reducible refine (dec_Right.calls (-5) 1 true _ rfl).mono ?_); rintro e w5 ⟨rfl, hb⟩; have n0_ := Aside0.mk (below_step (by repeat (first | (with_reducible first | exact HB.out | apply below_alloc | apply pw_below_drewN | apply below_drew1) | exact HB.out)) hb); have n1_ := Aside0.mk (blk_below (g := gb1) (by (with_reducible repeat (first | refine blk_drewN ?_ _ | refine blk_drew ?_ | refine blk_alloc ?_ _)); exact BK1.out) hb); clear HB BK1; have HB := n0_; have BK1 := n1_; clear n0_ n1_; clear hb; have hcz2_0 : w5.cell? ⟨gb1, 0, none⟩ = some (.int .i64 (-5)) := (blk_cell BK1.out 0).trans rfl; have hcz2_1 : w5.cell? ⟨gb1, 1, none⟩ = some (.int .i64 1) := (blk_cell BK1.out 1).trans rfl; have hfz2_0 := blk_frozen BK1.out 0; have hfz2_1 := blk_frozen BK1.out 1))
  have wn1 : IntKind.u64.wrap (-IntKind.u64.wrap (-5)) = 5 := by decide
  rw [wn1]
  obtain ⟨gb2, hg2⟩ : ∃ g, w5.heap.size = g := ⟨_, rfl⟩
  have GE2 : Aside0 (w.heap.size ≤ gb2) := ⟨by rw [← hg2]; exact below_size HB.out⟩
  have NB : Aside0 (gb1 ≠ gb2) := ⟨by
    intro e
    have := Nat.ne_of_lt (blk_lt BK1.out)
    omega⟩
  rw [hg2]
  go_loopg [3, 6, 7] 3 (fun q v3 v6 v7 wr => Aside0 (Below w.heap.size w wr) ∧ Aside0 (wr.heap[gb1]? = some (.cells #[.int .i64 (-5), .int .i64 1] 25 (0, 0))) ∧
    ((Aside0 (q = 3) ∧ v3 = .int .u64 5 ∧ v6 = .int .i64 32 ∧ v7 = .int .i64 0 ∧ Aside0 (wr.heap[gb2]? = some (.cells #[.int .u8 0, .int .u8 0, .int .u8 0, .int .u8 0, .int .u8 0, .int .u8 0, .int .u8 0, .int .u8 0, .int .u8 0, .int .u8 0, .int .u8 0, .int .u8 0, .int .u8 0, .int .u8 0, .int .u8 0, .int .u8 0, .int .u8 0, .int .u8 0, .int .u8 0, .int .u8 0, .int .u8 0, .int .u8 0, .int .u8 0, .int .u8 0, .int .u8 0, .int .u8 0, .int .u8 0, .int .u8 0, .int .u8 0, .int .u8 0, .int .u8 0, .int .u8 0] 53 (0, 0)))) ∨
     (Aside0 (q = 2) ∧ v3 = .int .u64 0 ∧ v6 = .int .i64 31 ∧ v7 = .int .i64 1 ∧ Aside0 (wr.heap[gb2]? = some (.cells #[.int .u8 0, .int .u8 0, .int .u8 0, .int .u8 0, .int .u8 0, .int .u8 0, .int .u8 0, .int .u8 0, .int .u8 0, .int .u8 0, .int .u8 0, .int .u8 0, .int .u8 0, .int .u8 0, .int .u8 0, .int .u8 0, .int .u8 0, .int .u8 0, .int .u8 0, .int .u8 0, .int .u8 0, .int .u8 0, .int .u8 0, .int .u8 0, .int .u8 0, .int .u8 0, .int .u8 0, .int .u8 0, .int .u8 0, .int .u8 0, .int .u8 0, .int .u8 53] 53 (0, 0)))) ∨
     (Aside0 (q = 1) ∧ v3 = .int .u64 0 ∧ v6 = .int .i64 29 ∧ v7 = .int .i64 2 ∧ Aside0 (wr.heap[gb2]? = some (.cells #[.int .u8 0, .int .u8 0, .int .u8 0, .int .u8 0, .int .u8 0, .int .u8 0, .int .u8 0, .int .u8 0, .int .u8 0, .int .u8 0, .int .u8 0, .int .u8 0, .int .u8 0, .int .u8 0, .int .u8 0, .int .u8 0, .int .u8 0, .int .u8 0, .int .u8 0, .int .u8 0, .int .u8 0, .int .u8 0, .int .u8 0, .int .u8 0, .int .u8 0, .int .u8 0, .int .u8 0, .int .u8 0, .int .u8 0, .int .u8 48, .int .u8 46, .int .u8 53] 53 (0, 0))))))
  case atStart =>
    refine ⟨⟨below_alloc HB.out _⟩, ⟨blk_alloc BK1.out _⟩, .inl ⟨⟨rfl⟩, rfl, rfl, rfl, ⟨?_⟩⟩⟩
    rw [← hg2]
    exact blk_new w5 _
  case round =>
    obtain ⟨HB, BK1, h⟩ := hrel
    rcases h with ⟨hq, rfl, rfl, rfl, BK2⟩ | ⟨hq, rfl, rfl, rfl, BK2⟩ | ⟨hq, rfl, rfl, rfl, BK2⟩
    · have hcz3_0 : wr.cell? ⟨gb1, 0, none⟩ = some (.int .i64 (-5)) := (blk_cell BK1.out 0).trans rfl
      have hcz3_1 : wr.cell? ⟨gb1, 1, none⟩ = some (.int .i64 1) := (blk_cell BK1.out 1).trans rfl
      have hfz3_0 := blk_frozen BK1.out 0
      have hfz3_1 := blk_frozen BK1.out 1
      have hcz4_29 : wr.cell? ⟨gb2, 29, none⟩ = some (.int .u8 0) := (blk_cell BK2.out 29).trans rfl
      have hfz4_29 := blk_frozen BK2.out 29
      have hcz4_30 : wr.cell? ⟨gb2, 30, none⟩ = some (.int .u8 0) := (blk_cell BK2.out 30).trans rfl
      have hfz4_30 := blk_frozen BK2.out 30
      have hcz4_31 : wr.cell? ⟨gb2, 31, none⟩ = some (.int .u8 0) := (blk_cell BK2.out 31).trans rfl
      have hfz4_31 := blk_frozen BK2.out 31
      go_wp2
      go_roundg 2
      case measure => have := hq.out; omega
      case rel =>
        refine ⟨⟨by repeat (first | (with_reducible first | exact HB.out | apply below_alloc | apply pw_below_drewN | apply below_drew1 | refine below_set ?_ GE2.out) | exact HB.out)⟩, ⟨?_⟩, .inr (.inl ⟨⟨rfl⟩, rfl, rfl, rfl, ⟨?_⟩⟩)⟩
        · exact blk_far BK1.out NB.out _
        · exact blk_put (cs := #[.int .u8 0, .int .u8 0, .int .u8 0, .int .u8 0, .int .u8 0, .int .u8 0, .int .u8 0, .int .u8 0, .int .u8 0, .int .u8 0, .int .u8 0, .int .u8 0, .int .u8 0, .int .u8 0, .int .u8 0, .int .u8 0, .int .u8 0, .int .u8 0, .int .u8 0, .int .u8 0, .int .u8 0, .int .u8 0, .int .u8 0, .int .u8 0, .int .u8 0, .int .u8 0, .int .u8 0, .int .u8 0, .int .u8 0, .int .u8 0, .int .u8 0, .int .u8 0]) BK2.out 31 _ rfl
    · have hcz3_0 : wr.cell? ⟨gb1, 0, none⟩ = some (.int .i64 (-5)) := (blk_cell BK1.out 0).trans rfl
      have hcz3_1 : wr.cell? ⟨gb1, 1, none⟩ = some (.int .i64 1) := (blk_cell BK1.out 1).trans rfl
      have hfz3_0 := blk_frozen BK1.out 0
      have hfz3_1 := blk_frozen BK1.out 1
      have hcz4_29 : wr.cell? ⟨gb2, 29, none⟩ = some (.int .u8 0) := (blk_cell BK2.out 29).trans rfl
      have hfz4_29 := blk_frozen BK2.out 29
      have hcz4_30 : wr.cell? ⟨gb2, 30, none⟩ = some (.int .u8 0) := (blk_cell BK2.out 30).trans rfl
      have hfz4_30 := blk_frozen BK2.out 30
      have hcz4_31 : wr.cell? ⟨gb2, 31, none⟩ = some (.int .u8 53) := (blk_cell BK2.out 31).trans rfl
      have hfz4_31 := blk_frozen BK2.out 31
      go_wp2
      go_roundg 1
      case measure => have := hq.out; omega
      case rel =>
        refine ⟨⟨by repeat (first | (with_reducible first | exact HB.out | apply below_alloc | apply pw_below_drewN | apply below_drew1 | refine below_set ?_ GE2.out) | exact HB.out)⟩, ⟨?_⟩, .inr (.inr ⟨⟨rfl⟩, rfl, rfl, rfl, ⟨?_⟩⟩)⟩
        · exact blk_far (blk_far BK1.out NB.out _) NB.out _
        · exact blk_put (cs := #[.int .u8 0, .int .u8 0, .int .u8 0, .int .u8 0, .int .u8 0, .int .u8 0, .int .u8 0, .int .u8 0, .int .u8 0, .int .u8 0, .int .u8 0, .int .u8 0, .int .u8 0, .int .u8 0, .int .u8 0, .int .u8 0, .int .u8 0, .int .u8 0, .int .u8 0, .int .u8 0, .int .u8 0, .int .u8 0, .int .u8 0, .int .u8 0, .int .u8 0, .int .u8 0, .int .u8 0, .int .u8 0, .int .u8 0, .int .u8 0, .int .u8 46, .int .u8 53]) (blk_put (cs := #[.int .u8 0, .int .u8 0, .int .u8 0, .int .u8 0, .int .u8 0, .int .u8 0, .int .u8 0, .int .u8 0, .int .u8 0, .int .u8 0, .int .u8 0, .int .u8 0, .int .u8 0, .int .u8 0, .int .u8 0, .int .u8 0, .int .u8 0, .int .u8 0, .int .u8 0, .int .u8 0, .int .u8 0, .int .u8 0, .int .u8 0, .int .u8 0, .int .u8 0, .int .u8 0, .int .u8 0, .int .u8 0, .int .u8 0, .int .u8 0, .int .u8 0, .int .u8 53]) BK2.out 30 _ rfl) 29 _ rfl
    · have hcz3_0 : wr.cell? ⟨gb1, 0, none⟩ = some (.int .i64 (-5)) := (blk_cell BK1.out 0).trans rfl
      have hcz3_1 : wr.cell? ⟨gb1, 1, none⟩ = some (.int .i64 1) := (blk_cell BK1.out 1).trans rfl
      have hfz3_0 := blk_frozen BK1.out 0
      have hfz3_1 := blk_frozen BK1.out 1
      have hcz4_29 : wr.cell? ⟨gb2, 29, none⟩ = some (.int .u8 48) := (blk_cell BK2.out 29).trans rfl
      have hfz4_29 := blk_frozen BK2.out 29
      have hcz4_30 : wr.cell? ⟨gb2, 30, none⟩ = some (.int .u8 46) := (blk_cell BK2.out 30).trans rfl
      have hfz4_30 := blk_frozen BK2.out 30
      have hcz4_31 : wr.cell? ⟨gb2, 31, none⟩ = some (.int .u8 53) := (blk_cell BK2.out 31).trans rfl
      have hfz4_31 := blk_frozen BK2.out 31
      have hrd : ReadsInt wr .u8 (some ⟨gb2, 29, none⟩) 3 [48, 46, 53] := ⟨rfl, by simp, fun _ => ⟨_, rfl, fun j hj => by
        rcases (by omega : j = 0 ∨ j = 1 ∨ j = 2) with e | e | e <;> subst e
        · exact hcz4_29
        · exact hcz4_30
        · exact hcz4_31⟩⟩
      have hcv := string_of_reads (P := Try.prog) (src := 54) (dst := 9) (e := 5) (c := 3) (by kernel_rfl) (by kernel_rfl) (by kernel_rfl) hrd
      clear hrd
      go_wp2
      go_ret
      exact ⟨rfl, HB.out⟩
def computuslaw04_given.f (a0_0 : Int) (a0_1 : Int) : Option (Int × Int) := some (a0_0, a0_1)
set_option maxHeartbeats 8000000 in
set_option maxRecDepth 100000 in
theorem computuslaw04_given.calls (a0_0 : Int) (a0_1 : Int) (r1 : Int) (r2 : Int) (w : World) (h : computuslaw04_given.f a0_0 a0_1 = some (r1, r2)) :
    Calls Try.prog 10 #[.agg #[.int .i64 a0_0, .int .i64 a0_1]] w fun e w' => e = .returned (.agg #[.int .i64 r1, .int .i64 r2]) ∧ Below w.heap.size w w' := by
  have hu23 := Try.underlying23
  have hu25 := Try.underlying25
  have HB := Aside0.mk (Below.refl w.heap.size w)
  have H : (some (a0_0, a0_1)) = some (r1, r2) := h
  clear h
  simp only [Option.some.injEq, Prod.mk.injEq] at H
  obtain ⟨rfl, rfl⟩ := H
  go_enter Try.func10, Try.ntmps10
  go_wp2_with (first | ((with_reducible refine gate_dst (N := 1) rfl ?_); refine box_event ?hg (N := 1) ?hd (cs := #[.int .i64 a0_0, .int .i64 a0_1]) (t := 23) ?hr ?_; (case hd => rfl); (case hg => rfl); (case hr => first | (go_simp; done) | (go_simp; rfl)); intro gb102 hg w2 hbox hb; have n0_ := Aside0.mk (below_step (by repeat (first | (with_reducible first | exact HB.out | apply below_alloc | apply pw_below_drewN | apply below_drew1) | exact HB.out)) hb); have n1_ := Aside0.mk (hbox); have n2_ := Aside0.mk ((by rw [hg]; exact (below_size (by repeat (first | (with_reducible first | exact HB.out | apply below_alloc | apply pw_below_drewN | apply below_drew1) | exact HB.out))) : w.heap.size ≤ gb102)); have n3_ := Aside0.mk ((by rw [hg]; exact (below_size (by repeat (first | (with_reducible first | exact HB.out | apply below_alloc | apply pw_below_drewN | apply below_drew1) | exact HB.out))) : w.heap.size ≤ gb102)); clear HB; have HB := n0_; have BK102 := n1_; have GW102 := n2_; have GE102 := n3_; clear n0_ n1_ n2_ n3_; clear hb hbox hg) | ((with_reducible refine gate_dst (N := 2) rfl ?_); refine box_event ?hg (N := 2) ?hd (cs := #[.int .i64 0, .int .i64 0]) (t := 25) ?hr ?_; (case hd => rfl); (case hg => rfl); (case hr => first | (go_simp; done) | (go_simp; rfl)); intro gb103 hg w3 hbox hb; have n0_ := Aside0.mk (blk_below (g := gb102) (o := .cells #[.int .i64 a0_0, .int .i64 a0_1] 23 (0, 0)) (by (with_reducible repeat (first | refine blk_drewN ?_ _ | refine blk_drew ?_ | refine blk_alloc ?_ _)); exact BK102.out) hb); have n1_ := Aside0.mk (below_step (by repeat (first | (with_reducible first | exact HB.out | apply below_alloc | apply pw_below_drewN | apply below_drew1 | refine below_set ?_ GE102.out) | exact HB.out)) hb); have n2_ := Aside0.mk (hbox); have n3_ := Aside0.mk ((by rw [hg]; exact (below_size (by repeat (first | (with_reducible first | exact HB.out | apply below_alloc | apply pw_below_drewN | apply below_drew1 | refine below_set ?_ GE102.out) | exact HB.out))) : w.heap.size ≤ gb103)); have n4_ := Aside0.mk ((by rw [hg]; exact (below_size (by repeat (first | (with_reducible first | exact HB.out | apply below_alloc | apply pw_below_drewN | apply below_drew1 | refine below_set ?_ GE102.out) | exact HB.out))) : w.heap.size ≤ gb103)); have n5_ := Aside0.mk ((by rw [hg]; exact Nat.ne_of_lt (blk_lt (g := gb102) (o := .cells #[.int .i64 a0_0, .int .i64 a0_1] 23 (0, 0)) (by (with_reducible repeat (first | refine blk_drewN ?_ _ | refine blk_drew ?_ | refine blk_alloc ?_ _)); exact BK102.out)) : gb102 ≠ gb103)); have n6_ := Aside0.mk ((by rw [hg]; exact Nat.ne_of_gt (blk_lt (g := gb102) (o := .cells #[.int .i64 a0_0, .int .i64 a0_1] 23 (0, 0)) (by (with_reducible repeat (first | refine blk_drewN ?_ _ | refine blk_drew ?_ | refine blk_alloc ?_ _)); exact BK102.out)) : gb103 ≠ gb102)); clear BK102; clear HB; have BK102 := n0_; have HB := n1_; have BK103 := n2_; have GW103 := n3_; have GE103 := n4_; have NB102_103 := n5_; have NB103_102 := n6_; clear n0_ n1_ n2_ n3_ n4_ n5_ n6_; clear hb hbox hg; have hnb4 := NB102_103.out; have hnc4 := NB103_102.out; have hcz5_0 : w3.cell? ⟨gb102, 0, none⟩ = some (.int .i64 a0_0) := (blk_cell BK102.out 0).trans rfl; have hcz5_1 : w3.cell? ⟨gb102, 1, none⟩ = some (.int .i64 a0_1) := (blk_cell BK102.out 1).trans rfl; have hfz5_0 := blk_frozen BK102.out 0; have hfz5_1 := blk_frozen BK102.out 1; have hcz6_0 : w3.cell? ⟨gb103, 0, none⟩ = some (.int .i64 0) := (blk_cell BK103.out 0).trans rfl; have hcz6_1 : w3.cell? ⟨gb103, 1, none⟩ = some (.int .i64 0) := (blk_cell BK103.out 1).trans rfl; have hfz6_0 := blk_frozen BK103.out 0; have hfz6_1 := blk_frozen BK103.out 1))
  refine bodyPost_ret (results_cell_row rfl _ _ gb103 25 #[.int .i64 a0_0, .int .i64 a0_1] (0, 0) _ rfl (by (with_reducible repeat (first | refine blk_drewN ?_ _ | refine blk_drew ?_ | refine blk_alloc ?_ _)); refine blk_put (cs := #[.int .i64 a0_0, .int .i64 0]) ?_ 1 _ rfl; (with_reducible repeat (first | refine blk_drewN ?_ _ | refine blk_drew ?_ | refine blk_alloc ?_ _)); refine blk_put (cs := #[.int .i64 0, .int .i64 0]) ?_ 0 _ rfl; (with_reducible repeat (first | refine blk_drewN ?_ _ | refine blk_drew ?_ | refine blk_alloc ?_ _)); exact BK103.out) Try.underlying25 rfl (by kernel_rfl)) rfl ?_
  exact ⟨by first | rfl | (simp [errW_none, errW_some] <;> rfl) | (simp [*, errW_none, errW_some] <;> rfl), by repeat (first | (with_reducible first | exact HB.out | apply below_alloc | apply pw_below_drewN | apply below_drew1 | refine below_set ?_ GE102.out | refine below_set ?_ GE103.out) | exact HB.out)⟩
end Go.Proofs.Ytkongoedgngfhaa.P
