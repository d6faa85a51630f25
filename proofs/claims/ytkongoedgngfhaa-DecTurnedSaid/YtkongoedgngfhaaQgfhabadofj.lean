-- Written by a program of the session (a print of the seat's translation, functions given by hand among it). Lean checks it.
import Derived.Test.YtkongoedgngfhaaQpdplnmmfcd
import Derived.Test.YtkongoedgngfhaaQljocgnejeg
namespace Go.Proofs.Ytkongoedgngfhaa.P
open Go.RowKit Go.Proofs.YtkongoedgngfhaaW.PrintWords Go.Proofs.YtkongoedgngfhaaW.PrintLast Go.Proofs.YtkongoedgngfhaaW.PrintMore
open Go.Proofs.Ytkongoedgngfhaa.A
attribute [local go_sem] max2_int min2_int max_two min_two max_three min_three max_four min_four   -- for this text's walks alone
set_option linter.unusedVariables false
set_option linter.unusedSimpArgs false
def dec_Floor.f (k : Nat) (a0_0 : Int) (a0_1 : Int) : Option (Int × Int) := (dec_Right.f a0_0 a0_1).bind fun t278 => (if t278 = true then ((dec_Dec_split.f k a0_0 a0_1).bind fun bt279 => (some (bt279.1, 0))) else (some (0, 1)))
theorem dec_Floor.mono : ∀ a0 a1 k, LeO (dec_Floor.f k a0 a1) (dec_Floor.f (k + 1) a0 a1) := by
  intro a0 a1 k
  unfold dec_Floor.f
  repeat' first
      | (with_reducible exact dec_Dec_split.mono _ _ _)
      | (with_reducible exact LeO.refl _)
      | (with_reducible exact LeO.none _)
      | (with_reducible refine LeO.ite ?_ ?_)
      | (with_reducible refine LeO.bind ?_ (fun _ => ?_))
      | exact dec_Dec_split.mono _ _ _
      | exact LeO.none _
      | refine LeO.ite ?_ ?_
      | refine LeO.bind ?_ (fun _ => ?_)
set_option maxRecDepth 100000 in
theorem dec_Floor.vc (k : Nat) (a0_0 : Int) (a0_1 : Int) (K : AV → Prop) : afv PA Try.prog (tab [(31, dec_Right.con), (48, dec_Dec_split.con k)]) noLoops 2 21 [.agg [.int .i64 a0_0, .int .i64 a0_1]] K = (brc (Option.isSome (dec_Right.f a0_0 a0_1)) (∀ (m0 : Bool), m0 = gd (dec_Right.f a0_0 a0_1) → brc (!m0) (K (AV.tup [AV.int IntKind.i64 0, AV.int IntKind.i64 1])) (brc (Option.isSome (dec_Dec_split.f k a0_0 a0_1)) (∀ (m1 : Int), m1 = Prod.fst (gd (dec_Dec_split.f k a0_0 a0_1)) → ∀ (m2 : Int), m2 = Prod.snd (gd (dec_Dec_split.f k a0_0 a0_1)) → K (AV.tup [AV.int IntKind.i64 m1, AV.int IntKind.i64 0])) False)) False) := by kernel_rfl
set_option maxHeartbeats 1000000 in
set_option maxRecDepth 100000 in
theorem dec_Floor.calls (k : Nat) (a0_0 : Int) (a0_1 : Int) (r1 : Int) (r2 : Int) (w : World) (h : dec_Floor.f k a0_0 a0_1 = some (r1, r2)) :
    Calls Try.prog 21 #[.agg #[.int .i64 a0_0, .int .i64 a0_1]] w fun e w' => e = .returned (.tuple #[.int .i64 r1, .int .i64 r2]) ∧ Below w.heap.size w w' := by
  refine calls_of_vc (A := [.agg #[.int .i64 a0_0, .int .i64 a0_1]]) (v := .tup [.int .i64 r1, .int .i64 r2]) (tab_cons (dec_Right.cok) (tab_cons (dec_Dec_split.cok k) (tab_nil))) ((dec_Floor.vc k a0_0 a0_1 _).mpr ?_) (by simp [rl_cons, rl_nil, rv_int, rv_bool, rv_str, rv_agg, rv_fn]) (fun ρ V' hV => by simpa [rl_cons, rl_nil, rv_int, rv_bool, rv_str, rv_agg, rv_tup] using hV)
  unfold dec_Floor.f at h
  (try simp only [bne, Option.bind_eq_some_iff, ite_some_iff] at h)
  (try simp only [bne, brc_iff, wrap_i64])
  first
    | grind (splits := 60) [gd_some]
    | ((repeat' (first | (have or_ : Or _ _ := h; clear or_; rcases h with h | h) | (have or_ : Exists _ := h; clear or_; obtain ⟨_, h⟩ := h) | (have or_ : And _ _ := h; clear or_; obtain ⟨hq_, h⟩ := h))) <;> (try simp only [Option.some.injEq, Prod.mk.injEq, reduceCtorEq] at h) <;> (try subst_vars) <;> first | (simp_all [gd_some] <;> (try omega) <;> done) | grind (splits := 60) [gd_some])
    | (intros; subst_vars; simp_all [gd_some]; done)
noncomputable def dec_Floor.con (k : Nat) : Con
  | [.agg [.int .i64 a0_0, .int .i64 a0_1]] => some ((dec_Floor.f k a0_0 a0_1).isSome, .tup [.int .i64 (gd (dec_Floor.f k a0_0 a0_1)).1, .int .i64 (gd (dec_Floor.f k a0_0 a0_1)).2])
  | _ => none
set_option maxRecDepth 100000 in
theorem dec_Floor.cok (k : Nat) : COk Try.prog 21 (dec_Floor.con k) := by
  intro args p v hc hp w A hA
  unfold dec_Floor.con at hc
  split at hc
  · rename_i a0_0 a0_1
    simp only [Option.some.injEq, Prod.mk.injEq] at hc
    obtain ⟨rfl, rfl⟩ := hc
    rcases hf : dec_Floor.f k a0_0 a0_1 with _ | ⟨r1, r2⟩
    · rw [hf] at hp; cases hp
    obtain rfl : A = [.agg #[.int .i64 a0_0, .int .i64 a0_1]] := by simpa [rl_cons, rl_nil, rv_int, rv_bool, rv_str, rv_agg, rv_fn] using hA
    exact gives_of_calls (fn := Try.f21) Try.func21 (by kernel_rfl) (by kernel_rfl) (dec_Floor.calls _ _ _ _ _ w hf) (fun _ => by simp [gd_some, rl_cons, rl_nil, rv_int, rv_bool, rv_str, rv_agg, rv_tup]) (fun _ h => h)
  · cases hc
def dec_Trim.l0 : Nat → Int → Int → Option (Int × Int)
  | 0, _, _ => none
  | k + 1, x282000, x282001 => if x282001 > 0 then (if (Int.tmod x282000 10) = 0 then (dec_Trim.l0 k (wrap64 (Int.tdiv x282000 10)) (wrap64 (x282001 - 1))) else (some (x282000, x282001))) else (some (x282000, x282001))
def dec_Trim.f (k : Nat) (a0_0 : Int) (a0_1 : Int) : Option (Int × Int) := (dec_Right.f a0_0 a0_1).bind fun t283 => (if t283 = true then (dec_Trim.l0 k a0_0 a0_1) else (some (a0_0, a0_1)))
theorem dec_Trim.mono_l : ∀ k, (∀ y0 y1, LeO (dec_Trim.l0 k y0 y1) (dec_Trim.l0 (k + 1) y0 y1))
  | 0 => fun _ _ r h => by simp [dec_Trim.l0] at h
  | k + 1 => by
    have ih0 := dec_Trim.mono_l k
    · intro y0 y1
      unfold dec_Trim.l0
      repeat' first
      | (with_reducible exact ih0 _ _)
      | (with_reducible exact LeO.refl _)
      | (with_reducible exact LeO.none _)
      | (with_reducible refine LeO.ite ?_ ?_)
      | (with_reducible refine LeO.bind ?_ (fun _ => ?_))
      | exact ih0 _ _
      | exact LeO.none _
      | refine LeO.ite ?_ ?_
      | refine LeO.bind ?_ (fun _ => ?_)
theorem dec_Trim.mono : ∀ a0 a1 k, LeO (dec_Trim.f k a0 a1) (dec_Trim.f (k + 1) a0 a1) := by
  intro a0 a1 k
  have ih0 := dec_Trim.mono_l k
  unfold dec_Trim.f
  repeat' first
      | (with_reducible exact ih0 _ _)
      | (with_reducible exact LeO.refl _)
      | (with_reducible exact LeO.none _)
      | (with_reducible refine LeO.ite ?_ ?_)
      | (with_reducible refine LeO.bind ?_ (fun _ => ?_))
      | exact ih0 _ _
      | exact LeO.none _
      | refine LeO.ite ?_ ?_
      | refine LeO.bind ?_ (fun _ => ?_)
set_option maxHeartbeats 8000000 in
set_option maxRecDepth 100000 in
theorem dec_Trim.calls (k : Nat) (a0_0 : Int) (a0_1 : Int) (r1 : Int) (r2 : Int) (w : World) (h : dec_Trim.f k a0_0 a0_1 = some (r1, r2)) :
    Calls Try.prog 23 #[.agg #[.int .i64 a0_0, .int .i64 a0_1]] w fun e w' => e = .returned (.agg #[.int .i64 r1, .int .i64 r2]) ∧ Below w.heap.size w w' := by
  have hu25 := Try.underlying25
  have HB := Aside0.mk (Below.refl w.heap.size w)
  have H : ((dec_Right.f a0_0 a0_1).bind fun t283 => (if t283 = true then (dec_Trim.l0 k a0_0 a0_1) else (some (a0_0, a0_1)))) = some (r1, r2) := h
  clear h
  replace H := Option.bind_eq_some_iff.mp H
  obtain ⟨t283, A20, H⟩ := H
  replace H : (if t283 = true then (dec_Trim.l0 k a0_0 a0_1) else (some (a0_0, a0_1))) = some (r1, r2) := H
  have A2 := Aside0.mk A20
  clear A20
  by_cases c3 : t283 = true
  · subst c3
    have H1 : (dec_Trim.l0 k a0_0 a0_1) = some (r1, r2) := by rw [if_pos rfl] at H; exact H
    clear H
    have H := H1
    clear H1
    have H' := Aside0.mk H
    clear H
    go_enter Try.func23, Try.ntmps23
    go_wp2_with (first | ((with_reducible refine gate_dst (N := 1) rfl ?_); refine box_event ?hg (N := 1) ?hd (cs := #[.int .i64 a0_0, .int .i64 a0_1]) (t := 25) ?hr ?_; (case hd => rfl); (case hg => rfl); (case hr => first | (go_simp; done) | (go_simp; rfl)); intro gb281 hg w4 hbox hb; have n0_ := Aside0.mk (below_step (by repeat (first | (with_reducible first | exact HB.out | apply below_alloc | apply kB | apply below_drew1) | exact HB.out)) hb); have n1_ := Aside0.mk (hbox); have n2_ := Aside0.mk ((by rw [hg]; exact (below_size (by repeat (first | (with_reducible first | exact HB.out | apply below_alloc | apply kB | apply below_drew1) | exact HB.out))) : w.heap.size ≤ gb281)); have n3_ := Aside0.mk ((by rw [hg]; exact (below_size (by repeat (first | (with_reducible first | exact HB.out | apply below_alloc | apply kB | apply below_drew1) | exact HB.out))) : w.heap.size ≤ gb281)); clear HB; have HB := n0_; have BK281 := n1_; have GW281 := n2_; have GE281 := n3_; clear n0_ n1_ n2_ n3_; clear hb hbox hg) | ((with_reducible refine gate_dst (N := 2) rfl ?_); refine box_event ?hg (N := 2) ?hd (cs := #[.int .i64 0, .int .i64 0]) (t := 25) ?hr ?_; (case hd => rfl); (case hg => rfl); (case hr => first | (go_simp; done) | (go_simp; rfl)); intro gb282 hg w5 hbox hb; have n0_ := Aside0.mk (blk_below (g := gb281) (o := .cells #[.int .i64 a0_0, .int .i64 a0_1] 25 (0, 0)) (by (with_reducible repeat (first | refine blk_drewN ?_ _ | refine blk_drew ?_ | refine blk_alloc ?_ _)); exact BK281.out) hb); have n1_ := Aside0.mk (below_step (by repeat (first | (with_reducible first | exact HB.out | apply below_alloc | apply kB | apply below_drew1 | refine below_set ?_ GE281.out) | exact HB.out)) hb); have n2_ := Aside0.mk (hbox); have n3_ := Aside0.mk ((by rw [hg]; exact (below_size (by repeat (first | (with_reducible first | exact HB.out | apply below_alloc | apply kB | apply below_drew1 | refine below_set ?_ GE281.out) | exact HB.out))) : w.heap.size ≤ gb282)); have n4_ := Aside0.mk ((by rw [hg]; exact (below_size (by repeat (first | (with_reducible first | exact HB.out | apply below_alloc | apply kB | apply below_drew1 | refine below_set ?_ GE281.out) | exact HB.out))) : w.heap.size ≤ gb282)); have n5_ := Aside0.mk ((by rw [hg]; exact Nat.ne_of_lt (blk_lt (g := gb281) (o := .cells #[.int .i64 a0_0, .int .i64 a0_1] 25 (0, 0)) (by (with_reducible repeat (first | refine blk_drewN ?_ _ | refine blk_drew ?_ | refine blk_alloc ?_ _)); exact BK281.out)) : gb281 ≠ gb282)); have n6_ := Aside0.mk ((by rw [hg]; exact Nat.ne_of_gt (blk_lt (g := gb281) (o := .cells #[.int .i64 a0_0, .int .i64 a0_1] 25 (0, 0)) (by (with_reducible repeat (first | refine blk_drewN ?_ _ | refine blk_drew ?_ | refine blk_alloc ?_ _)); exact BK281.out)) : gb282 ≠ gb281)); clear BK281; clear HB; have BK281 := n0_; have HB := n1_; have BK282 := n2_; have GW282 := n3_; have GE282 := n4_; have NB281_282 := n5_; have NB282_281 := n6_; clear n0_ n1_ n2_ n3_ n4_ n5_ n6_; clear hb hbox hg; have hnb6 := NB281_282.out; have hnc6 := NB282_281.out; have hcz7_0 : w5.cell? ⟨gb281, 0, none⟩ = some (.int .i64 a0_0) := (blk_cell BK281.out 0).trans rfl; have hcz7_1 : w5.cell? ⟨gb281, 1, none⟩ = some (.int .i64 a0_1) := (blk_cell BK281.out 1).trans rfl; have hfz7_0 := kA BK281.out 0; have hfz7_1 := kA BK281.out 1) | ((with_reducible refine gate_callee (f := 31) rfl ?_); refine goesL_ (some 4) rfl rfl Try.func31 (by kernel_rfl) rfl #[.agg #[.int .i64 a0_0, .int .i64 a0_1]] rfl (by (try simp only [List.map_toArray, List.map_cons, List.map_nil]); first | done | rfl | (simp only [List.length_drop, List.length_take]; rfl)) ?_; (with_reducible refine (dec_Right.calls a0_0 a0_1 true _ A2.out).mono ?_); rintro e w8 ⟨rfl, hb⟩; refine ⟨_, rfl, ?_⟩; have n0_ := Aside0.mk (blk_below (g := gb281) (o := .cells #[.int .i64 a0_0, .int .i64 a0_1] 25 (0, 0)) (by (with_reducible repeat (first | refine blk_drewN ?_ _ | refine blk_drew ?_ | refine blk_alloc ?_ _)); exact BK281.out) hb); have n1_ := Aside0.mk (blk_below (g := gb282) (o := .cells #[.int .i64 0, .int .i64 0] 25 (0, 0)) (by (with_reducible repeat (first | refine blk_drewN ?_ _ | refine blk_drew ?_ | refine blk_alloc ?_ _)); exact BK282.out) hb); have n2_ := Aside0.mk (below_step (by repeat (first | (with_reducible first | exact HB.out | apply below_alloc | apply kB | apply below_drew1 | refine below_set ?_ GE281.out | refine below_set ?_ GE282.out) | exact HB.out)) hb); clear BK281; clear BK282; clear HB; have BK281 := n0_; have BK282 := n1_; have HB := n2_; clear n0_ n1_ n2_; (try clear hb); (try clear hb2); (try clear hk); (try clear hi)))
    go_loopg [] k (fun kq w' => ∃ (x282000_1 : Int) (x282001_1 : Int), Aside0 (dec_Trim.l0 kq x282000_1 x282001_1 = some (r1, r2)) ∧ Aside0 (kq ≤ k) ∧ Aside0 (w'.heap[gb281]? = some (.cells #[.int .i64 x282000_1, .int .i64 x282001_1] 25 (0, 0))) ∧ Aside0 (w'.heap[gb282]? = some (.cells #[.int .i64 0, .int .i64 0] 25 (0, 0))) ∧ Aside0 (Below w.heap.size w w'))
    case atStart => exact ⟨(a0_0), (a0_1), H', ⟨Nat.le_refl _⟩, ⟨by (with_reducible repeat (first | refine blk_drewN ?_ _ | refine blk_drew ?_ | refine blk_alloc ?_ _)); exact BK281.out⟩, ⟨by (with_reducible repeat (first | refine blk_drewN ?_ _ | refine blk_drew ?_ | refine blk_alloc ?_ _)); exact BK282.out⟩, ⟨by repeat (first | (with_reducible first | exact HB.out | apply below_alloc | apply kB | apply below_drew1 | refine below_set ?_ GE281.out | refine below_set ?_ GE282.out) | exact HB.out)⟩⟩
    case round =>
      clear H'
      try clear c2
      try clear p2
      try clear c3
      try clear c6
      try clear hcz7_0
      try clear hcz7_1
      try clear hfz7_0
      try clear hfz7_1
      obtain ⟨x282000_1, x282001_1, HA, HK1, BK281, BK282, HB⟩ := hrel
      cases gk with
      | zero => exact absurd HA.out (by simp [dec_Trim.l0])
      | succ k1 =>
        have H := HA.out
        clear HA
        simp only [dec_Trim.l0] at H
        by_cases c9 : x282001_1 > 0
        · rw [if_pos c9] at H
          have c9b0 : decide (0 < x282001_1) = true := decide_eq_true c9
          clear c9
          by_cases c10 : (Int.tmod x282000_1 10) = 0
          · rw [if_pos c10] at H
            have c10b0 : ((Int.tmod x282000_1 10) == 0) = true := beq_iff_eq.mpr c10
            have c10b1 : ((Int.tmod x282000_1 10) != 0) = false := bne_eq_false_iff_eq.mpr c10
            clear c10
            have H' := Aside0.mk H
            clear H
            have hnb11 := NB281_282.out
            have hnc11 := NB282_281.out
            have hcz12_0 : wr.cell? ⟨gb281, 0, none⟩ = some (.int .i64 x282000_1) := (blk_cell BK281.out 0).trans rfl
            have hcz12_1 : wr.cell? ⟨gb281, 1, none⟩ = some (.int .i64 x282001_1) := (blk_cell BK281.out 1).trans rfl
            have hfz12_0 := kA BK281.out 0
            have hfz12_1 := kA BK281.out 1
            go_wp2
            go_roundg k1
            case measure => have := HK1.out; omega
            case rel => exact ⟨(wrap64 (Int.tdiv x282000_1 10)), (wrap64 (x282001_1 - 1)), H', ⟨by have := HK1.out; omega⟩, ⟨by (with_reducible repeat (first | refine blk_drewN ?_ _ | refine blk_drew ?_ | refine blk_alloc ?_ _)); refine blk_put (cs := #[.int .i64 (wrap64 (Int.tdiv x282000_1 10)), .int .i64 x282001_1]) ?_ 1 _ rfl; (with_reducible repeat (first | refine blk_drewN ?_ _ | refine blk_drew ?_ | refine blk_alloc ?_ _)); refine blk_put (cs := #[.int .i64 x282000_1, .int .i64 x282001_1]) ?_ 0 _ rfl; (with_reducible repeat (first | refine blk_drewN ?_ _ | refine blk_drew ?_ | refine blk_alloc ?_ _)); exact BK281.out⟩, ⟨by (with_reducible repeat (first | refine blk_drewN ?_ _ | refine blk_drew ?_ | refine blk_alloc ?_ _)); refine blk_far ?_ NB282_281.out _; (with_reducible repeat (first | refine blk_drewN ?_ _ | refine blk_drew ?_ | refine blk_alloc ?_ _)); refine blk_far ?_ NB282_281.out _; (with_reducible repeat (first | refine blk_drewN ?_ _ | refine blk_drew ?_ | refine blk_alloc ?_ _)); exact BK282.out⟩, ⟨by repeat (first | (with_reducible first | exact HB.out | apply below_alloc | apply kB | apply below_drew1 | refine below_set ?_ GE281.out | refine below_set ?_ GE282.out) | exact HB.out)⟩⟩
          · rw [if_neg c10] at H
            have c10b0 : ((Int.tmod x282000_1 10) == 0) = false := beq_eq_false_iff_ne.mpr c10
            have c10b1 : ((Int.tmod x282000_1 10) != 0) = true := bne_iff_ne.mpr c10
            simp only [Option.some.injEq, Prod.mk.injEq] at H
            obtain ⟨rfl, rfl⟩ := H
            have hnb13 := NB281_282.out
            have hnc13 := NB282_281.out
            have hcz14_0 : wr.cell? ⟨gb281, 0, none⟩ = some (.int .i64 x282000_1) := (blk_cell BK281.out 0).trans rfl
            have hcz14_1 : wr.cell? ⟨gb281, 1, none⟩ = some (.int .i64 x282001_1) := (blk_cell BK281.out 1).trans rfl
            have hfz14_0 := kA BK281.out 0
            have hfz14_1 := kA BK281.out 1
            have hcz15_0 : wr.cell? ⟨gb282, 0, none⟩ = some (.int .i64 0) := (blk_cell BK282.out 0).trans rfl
            have hcz15_1 : wr.cell? ⟨gb282, 1, none⟩ = some (.int .i64 0) := (blk_cell BK282.out 1).trans rfl
            have hfz15_0 := kA BK282.out 0
            have hfz15_1 := kA BK282.out 1
            go_wp2
            refine bodyPost_ret (results_cell_row rfl _ _ gb282 25 #[.int .i64 x282000_1, .int .i64 x282001_1] (0, 0) _ rfl (by (with_reducible repeat (first | refine blk_drewN ?_ _ | refine blk_drew ?_ | refine blk_alloc ?_ _)); refine blk_put (cs := #[.int .i64 x282000_1, .int .i64 0]) ?_ 1 _ rfl; (with_reducible repeat (first | refine blk_drewN ?_ _ | refine blk_drew ?_ | refine blk_alloc ?_ _)); refine blk_put (cs := #[.int .i64 0, .int .i64 0]) ?_ 0 _ rfl; (with_reducible repeat (first | refine blk_drewN ?_ _ | refine blk_drew ?_ | refine blk_alloc ?_ _)); exact BK282.out) Try.underlying25 rfl (by kernel_rfl)) rfl ?_
            exact ⟨by first | rfl | (simp [errW_none, errW_some] <;> rfl) | (simp [*, errW_none, errW_some] <;> rfl), by repeat (first | (with_reducible first | exact HB.out | apply below_alloc | apply kB | apply below_drew1 | refine below_set ?_ GE281.out | refine below_set ?_ GE282.out) | exact HB.out)⟩
        · rw [if_neg c9] at H
          have c9b0 : decide (0 < x282001_1) = false := decide_eq_false c9
          clear c9
          simp only [Option.some.injEq, Prod.mk.injEq] at H
          obtain ⟨rfl, rfl⟩ := H
          have hnb16 := NB281_282.out
          have hnc16 := NB282_281.out
          have hcz17_0 : wr.cell? ⟨gb281, 0, none⟩ = some (.int .i64 x282000_1) := (blk_cell BK281.out 0).trans rfl
          have hcz17_1 : wr.cell? ⟨gb281, 1, none⟩ = some (.int .i64 x282001_1) := (blk_cell BK281.out 1).trans rfl
          have hfz17_0 := kA BK281.out 0
          have hfz17_1 := kA BK281.out 1
          have hcz18_0 : wr.cell? ⟨gb282, 0, none⟩ = some (.int .i64 0) := (blk_cell BK282.out 0).trans rfl
          have hcz18_1 : wr.cell? ⟨gb282, 1, none⟩ = some (.int .i64 0) := (blk_cell BK282.out 1).trans rfl
          have hfz18_0 := kA BK282.out 0
          have hfz18_1 := kA BK282.out 1
          go_wp2
          refine bodyPost_ret (results_cell_row rfl _ _ gb282 25 #[.int .i64 x282000_1, .int .i64 x282001_1] (0, 0) _ rfl (by (with_reducible repeat (first | refine blk_drewN ?_ _ | refine blk_drew ?_ | refine blk_alloc ?_ _)); refine blk_put (cs := #[.int .i64 x282000_1, .int .i64 0]) ?_ 1 _ rfl; (with_reducible repeat (first | refine blk_drewN ?_ _ | refine blk_drew ?_ | refine blk_alloc ?_ _)); refine blk_put (cs := #[.int .i64 0, .int .i64 0]) ?_ 0 _ rfl; (with_reducible repeat (first | refine blk_drewN ?_ _ | refine blk_drew ?_ | refine blk_alloc ?_ _)); exact BK282.out) Try.underlying25 rfl (by kernel_rfl)) rfl ?_
          exact ⟨by first | rfl | (simp [errW_none, errW_some] <;> rfl) | (simp [*, errW_none, errW_some] <;> rfl), by repeat (first | (with_reducible first | exact HB.out | apply below_alloc | apply kB | apply below_drew1 | refine below_set ?_ GE281.out | refine below_set ?_ GE282.out) | exact HB.out)⟩
  · replace c3 := Bool.eq_false_iff.mpr c3
    subst c3
    have H1 : (some (a0_0, a0_1)) = some (r1, r2) := by rw [if_neg (show ¬ (false = true) by decide)] at H; exact H
    clear H
    have H := H1
    clear H1
    simp only [Option.some.injEq, Prod.mk.injEq] at H
    obtain ⟨rfl, rfl⟩ := H
    go_enter Try.func23, Try.ntmps23
    go_wp2_with (first | ((with_reducible refine gate_dst (N := 1) rfl ?_); refine box_event ?hg (N := 1) ?hd (cs := #[.int .i64 a0_0, .int .i64 a0_1]) (t := 25) ?hr ?_; (case hd => rfl); (case hg => rfl); (case hr => first | (go_simp; done) | (go_simp; rfl)); intro gb281 hg w19 hbox hb; have n0_ := Aside0.mk (below_step (by repeat (first | (with_reducible first | exact HB.out | apply below_alloc | apply kB | apply below_drew1) | exact HB.out)) hb); have n1_ := Aside0.mk (hbox); have n2_ := Aside0.mk ((by rw [hg]; exact (below_size (by repeat (first | (with_reducible first | exact HB.out | apply below_alloc | apply kB | apply below_drew1) | exact HB.out))) : w.heap.size ≤ gb281)); have n3_ := Aside0.mk ((by rw [hg]; exact (below_size (by repeat (first | (with_reducible first | exact HB.out | apply below_alloc | apply kB | apply below_drew1) | exact HB.out))) : w.heap.size ≤ gb281)); clear HB; have HB := n0_; have BK281 := n1_; have GW281 := n2_; have GE281 := n3_; clear n0_ n1_ n2_ n3_; clear hb hbox hg) | ((with_reducible refine gate_dst (N := 2) rfl ?_); refine box_event ?hg (N := 2) ?hd (cs := #[.int .i64 0, .int .i64 0]) (t := 25) ?hr ?_; (case hd => rfl); (case hg => rfl); (case hr => first | (go_simp; done) | (go_simp; rfl)); intro gb282 hg w20 hbox hb; have n0_ := Aside0.mk (blk_below (g := gb281) (o := .cells #[.int .i64 a0_0, .int .i64 a0_1] 25 (0, 0)) (by (with_reducible repeat (first | refine blk_drewN ?_ _ | refine blk_drew ?_ | refine blk_alloc ?_ _)); exact BK281.out) hb); have n1_ := Aside0.mk (below_step (by repeat (first | (with_reducible first | exact HB.out | apply below_alloc | apply kB | apply below_drew1 | refine below_set ?_ GE281.out) | exact HB.out)) hb); have n2_ := Aside0.mk (hbox); have n3_ := Aside0.mk ((by rw [hg]; exact (below_size (by repeat (first | (with_reducible first | exact HB.out | apply below_alloc | apply kB | apply below_drew1 | refine below_set ?_ GE281.out) | exact HB.out))) : w.heap.size ≤ gb282)); have n4_ := Aside0.mk ((by rw [hg]; exact (below_size (by repeat (first | (with_reducible first | exact HB.out | apply below_alloc | apply kB | apply below_drew1 | refine below_set ?_ GE281.out) | exact HB.out))) : w.heap.size ≤ gb282)); have n5_ := Aside0.mk ((by rw [hg]; exact Nat.ne_of_lt (blk_lt (g := gb281) (o := .cells #[.int .i64 a0_0, .int .i64 a0_1] 25 (0, 0)) (by (with_reducible repeat (first | refine blk_drewN ?_ _ | refine blk_drew ?_ | refine blk_alloc ?_ _)); exact BK281.out)) : gb281 ≠ gb282)); have n6_ := Aside0.mk ((by rw [hg]; exact Nat.ne_of_gt (blk_lt (g := gb281) (o := .cells #[.int .i64 a0_0, .int .i64 a0_1] 25 (0, 0)) (by (with_reducible repeat (first | refine blk_drewN ?_ _ | refine blk_drew ?_ | refine blk_alloc ?_ _)); exact BK281.out)) : gb282 ≠ gb281)); clear BK281; clear HB; have BK281 := n0_; have HB := n1_; have BK282 := n2_; have GW282 := n3_; have GE282 := n4_; have NB281_282 := n5_; have NB282_281 := n6_; clear n0_ n1_ n2_ n3_ n4_ n5_ n6_; clear hb hbox hg; have hnb21 := NB281_282.out; have hnc21 := NB282_281.out; have hcz22_0 : w20.cell? ⟨gb281, 0, none⟩ = some (.int .i64 a0_0) := (blk_cell BK281.out 0).trans rfl; have hcz22_1 : w20.cell? ⟨gb281, 1, none⟩ = some (.int .i64 a0_1) := (blk_cell BK281.out 1).trans rfl; have hfz22_0 := kA BK281.out 0; have hfz22_1 := kA BK281.out 1) | ((with_reducible refine gate_callee (f := 31) rfl ?_); refine goesL_ (some 4) rfl rfl Try.func31 (by kernel_rfl) rfl #[.agg #[.int .i64 a0_0, .int .i64 a0_1]] rfl (by (try simp only [List.map_toArray, List.map_cons, List.map_nil]); first | done | rfl | (simp only [List.length_drop, List.length_take]; rfl)) ?_; (with_reducible refine (dec_Right.calls a0_0 a0_1 false _ A2.out).mono ?_); rintro e w23 ⟨rfl, hb⟩; refine ⟨_, rfl, ?_⟩; have n0_ := Aside0.mk (blk_below (g := gb281) (o := .cells #[.int .i64 a0_0, .int .i64 a0_1] 25 (0, 0)) (by (with_reducible repeat (first | refine blk_drewN ?_ _ | refine blk_drew ?_ | refine blk_alloc ?_ _)); exact BK281.out) hb); have n1_ := Aside0.mk (blk_below (g := gb282) (o := .cells #[.int .i64 0, .int .i64 0] 25 (0, 0)) (by (with_reducible repeat (first | refine blk_drewN ?_ _ | refine blk_drew ?_ | refine blk_alloc ?_ _)); exact BK282.out) hb); have n2_ := Aside0.mk (below_step (by repeat (first | (with_reducible first | exact HB.out | apply below_alloc | apply kB | apply below_drew1 | refine below_set ?_ GE281.out | refine below_set ?_ GE282.out) | exact HB.out)) hb); clear BK281; clear BK282; clear HB; have BK281 := n0_; have BK282 := n1_; have HB := n2_; clear n0_ n1_ n2_; (try clear hb); (try clear hb2); (try clear hk); (try clear hi); have hcz24_0 : w23.cell? ⟨gb281, 0, none⟩ = some (.int .i64 a0_0) := (blk_cell BK281.out 0).trans rfl; have hcz24_1 : w23.cell? ⟨gb281, 1, none⟩ = some (.int .i64 a0_1) := (blk_cell BK281.out 1).trans rfl; have hfz24_0 := kA BK281.out 0; have hfz24_1 := kA BK281.out 1; have hcz25_0 : w23.cell? ⟨gb282, 0, none⟩ = some (.int .i64 0) := (blk_cell BK282.out 0).trans rfl; have hcz25_1 : w23.cell? ⟨gb282, 1, none⟩ = some (.int .i64 0) := (blk_cell BK282.out 1).trans rfl; have hfz25_0 := kA BK282.out 0; have hfz25_1 := kA BK282.out 1))
    refine bodyPost_ret (results_cell_row rfl _ _ gb282 25 #[.int .i64 a0_0, .int .i64 a0_1] (0, 0) _ rfl (by (with_reducible repeat (first | refine blk_drewN ?_ _ | refine blk_drew ?_ | refine blk_alloc ?_ _)); refine blk_put (cs := #[.int .i64 a0_0, .int .i64 0]) ?_ 1 _ rfl; (with_reducible repeat (first | refine blk_drewN ?_ _ | refine blk_drew ?_ | refine blk_alloc ?_ _)); refine blk_put (cs := #[.int .i64 0, .int .i64 0]) ?_ 0 _ rfl; (with_reducible repeat (first | refine blk_drewN ?_ _ | refine blk_drew ?_ | refine blk_alloc ?_ _)); exact BK282.out) Try.underlying25 rfl (by kernel_rfl)) rfl ?_
    exact ⟨by first | rfl | (simp [errW_none, errW_some] <;> rfl) | (simp [*, errW_none, errW_some] <;> rfl), by repeat (first | (with_reducible first | exact HB.out | apply below_alloc | apply kB | apply below_drew1 | refine below_set ?_ GE281.out | refine below_set ?_ GE282.out) | exact HB.out)⟩
noncomputable def dec_Trim.con (k : Nat) : Con
  | [.agg [.int .i64 a0_0, .int .i64 a0_1]] => some ((dec_Trim.f k a0_0 a0_1).isSome, .agg [.int .i64 (gd (dec_Trim.f k a0_0 a0_1)).1, .int .i64 (gd (dec_Trim.f k a0_0 a0_1)).2])
  | _ => none
set_option maxRecDepth 100000 in
theorem dec_Trim.cok (k : Nat) : COk Try.prog 23 (dec_Trim.con k) := by
  intro args p v hc hp w A hA
  unfold dec_Trim.con at hc
  split at hc
  · rename_i a0_0 a0_1
    simp only [Option.some.injEq, Prod.mk.injEq] at hc
    obtain ⟨rfl, rfl⟩ := hc
    rcases hf : dec_Trim.f k a0_0 a0_1 with _ | ⟨r1, r2⟩
    · rw [hf] at hp; cases hp
    obtain rfl : A = [.agg #[.int .i64 a0_0, .int .i64 a0_1]] := by simpa [rl_cons, rl_nil, rv_int, rv_bool, rv_str, rv_agg, rv_fn] using hA
    exact gives_of_calls (fn := Try.f23) Try.func23 (by kernel_rfl) (by kernel_rfl) (dec_Trim.calls _ _ _ _ _ w hf) (fun _ => by simp [gd_some, rl_cons, rl_nil, rv_int, rv_bool, rv_str, rv_agg, rv_tup]) (fun _ h => h)
  · cases hc
end Go.Proofs.Ytkongoedgngfhaa.P
namespace Go.Proofs.Ytkongoedgngfhaa.P
open Go.RowKit Go.Proofs.YtkongoedgngfhaaW.PrintWords Go.Proofs.YtkongoedgngfhaaW.PrintLast Go.Proofs.YtkongoedgngfhaaW.PrintMore
open Go.Proofs.Ytkongoedgngfhaa.A
attribute [local go_sem] max2_int min2_int max_two min_two max_three min_three max_four min_four   -- for this text's walks alone
set_option linter.unusedVariables false
set_option linter.unusedSimpArgs false
def computuslaw04_known.f (k : Nat)  : Option (Bool) := (dec_Read.f (⟨#[49, 50, 46, 51, 52, 48]⟩ : ByteArray)).bind fun bt284 => ((dec_Round.f k 25 1 0).bind fun bt288 => ((dec_Floor.f k (-5) 1).bind fun bt292 => ((dec_Trim.f k bt284.1 bt284.2.1).bind fun bt294 => ((dec_Text.f (-5) 1).bind fun t297 => (if t297.toList = ([45, 48, 46, 53] : List UInt8) then (if bt284.1 = 12340 then (if bt284.2.1 = 3 then (if bt284.2.2 = 0 then (if bt294.1 = 1234 then (if bt294.2 = 2 then (if bt288.1 = 3 then (if bt288.2.1 = 0 then (if bt288.2.2 = 0 then (if bt292.1 = (-1) then (some (bt292.2 == 0)) else (some false)) else (some false)) else (some false)) else (some false)) else (some false)) else (some false)) else (some false)) else (some false)) else (some false)) else (some false))))))
theorem computuslaw04_known.mono : ∀ k, LeO (computuslaw04_known.f k ) (computuslaw04_known.f (k + 1) ) := by
  intro  k
  unfold computuslaw04_known.f
  repeat' first
      | (with_reducible exact dec_Floor.mono _ _ _)
      | (with_reducible exact dec_Round.mono _ _ _ _)
      | (with_reducible exact dec_Trim.mono _ _ _)
      | (with_reducible exact LeO.refl _)
      | (with_reducible exact LeO.none _)
      | (with_reducible refine LeO.ite ?_ ?_)
      | (with_reducible refine LeO.bind ?_ (fun _ => ?_))
      | exact dec_Floor.mono _ _ _
      | exact dec_Round.mono _ _ _ _
      | exact dec_Trim.mono _ _ _
      | exact LeO.none _
      | refine LeO.ite ?_ ?_
      | refine LeO.bind ?_ (fun _ => ?_)
set_option maxRecDepth 100000 in
theorem computuslaw04_known.vc (k : Nat) (K : AV → Prop) : afv PA Try.prog (tab [(9, dec_Text.con), (11, dec_Read.con), (19, dec_Round.con k), (21, dec_Floor.con k), (23, dec_Trim.con k)]) noLoops 2 16 [] K = (brc (Option.isSome (dec_Read.f { data := #[49, 50, 46, 51, 52, 48] })) (∀ (m0 : Int), m0 = Prod.fst (gd (dec_Read.f { data := #[49, 50, 46, 51, 52, 48] })) → ∀ (m1 : Int), m1 = Prod.fst (Prod.snd (gd (dec_Read.f { data := #[49, 50, 46, 51, 52, 48] }))) → ∀ (m2 : Int), m2 = Prod.snd (Prod.snd (gd (dec_Read.f { data := #[49, 50, 46, 51, 52, 48] }))) → brc (Option.isSome (dec_Round.f k 25 1 0)) (∀ (m3 : Int), m3 = Prod.fst (gd (dec_Round.f k 25 1 0)) → ∀ (m4 : Int), m4 = Prod.fst (Prod.snd (gd (dec_Round.f k 25 1 0))) → ∀ (m5 : Int), m5 = Prod.snd (Prod.snd (gd (dec_Round.f k 25 1 0))) → brc (Option.isSome (dec_Floor.f k (-5) 1)) (∀ (m6 : Int), m6 = Prod.fst (gd (dec_Floor.f k (-5) 1)) → ∀ (m7 : Int), m7 = Prod.snd (gd (dec_Floor.f k (-5) 1)) → brc (Option.isSome (dec_Trim.f k m0 m1)) (∀ (m8 : Int), m8 = Prod.fst (gd (dec_Trim.f k m0 m1)) → ∀ (m9 : Int), m9 = Prod.snd (gd (dec_Trim.f k m0 m1)) → brc (Option.isSome (dec_Text.f (-5) 1)) (brc (ByteArray.toList (gd (dec_Text.f (-5) 1)) == ByteArray.toList { data := #[45, 48, 46, 53] }) (brc (m0 == 12340) (brc (m1 == 3) (brc (m2 == 0) (brc (m8 == 1234) (brc (m9 == 2) (brc (m3 == 3) (brc (m4 == 0) (brc (m5 == 0) (brc (m6 == -1) (K (AV.bool (m7 == 0))) (K (AV.bool false))) (K (AV.bool false))) (K (AV.bool false))) (K (AV.bool false))) (K (AV.bool false))) (K (AV.bool false))) (K (AV.bool false))) (K (AV.bool false))) (K (AV.bool false))) (K (AV.bool false))) False) False) False) False) False) := by kernel_rfl
set_option maxHeartbeats 1000000 in
set_option maxRecDepth 100000 in
theorem computuslaw04_known.calls (k : Nat)  (r : Bool) (w : World) (h : computuslaw04_known.f k  = some r) (hR : r = true) :
    Calls Try.prog 16 #[] w fun e w' => e = .returned (.bool r) ∧ Below w.heap.size w w' := by
  refine calls_of_vc (A := []) (v := .bool r) (tab_cons (dec_Text.cok) (tab_cons (dec_Read.cok) (tab_cons (dec_Round.cok k) (tab_cons (dec_Floor.cok k) (tab_cons (dec_Trim.cok k) (tab_nil)))))) ((computuslaw04_known.vc k _).mpr ?_) (by simp [rl_cons, rl_nil, rv_int, rv_bool, rv_str, rv_agg, rv_fn]) (fun ρ V' hV => by simpa [rl_cons, rl_nil, rv_int, rv_bool, rv_str, rv_agg, rv_tup] using hV)
  unfold computuslaw04_known.f at h
  (try simp only [bne, Option.bind_eq_some_iff, ite_some_iff] at h)
  (try simp only [bne, brc_iff, wrap_i64])
  first
    | grind (splits := 60) [gd_some]
    | ((repeat' (first | (have or_ : Or _ _ := h; clear or_; rcases h with h | h) | (have or_ : Exists _ := h; clear or_; obtain ⟨_, h⟩ := h) | (have or_ : And _ _ := h; clear or_; obtain ⟨hq_, h⟩ := h))) <;> (try simp only [Option.some.injEq, Prod.mk.injEq, reduceCtorEq] at h) <;> (try subst_vars) <;> first | (simp_all [gd_some] <;> (try omega) <;> done) | grind (splits := 60) [gd_some])
    | (intros; subst_vars; simp_all [gd_some]; done)
noncomputable def computuslaw04_known.con (k : Nat) : Con
  | [] => some (decide (computuslaw04_known.f k = some true), .bool true)
  | _ => none
set_option maxRecDepth 100000 in
theorem computuslaw04_known.cok (k : Nat) : COk Try.prog 16 (computuslaw04_known.con k) := by
  intro args p v hc hp w A hA
  unfold computuslaw04_known.con at hc
  split at hc
  · simp only [Option.some.injEq, Prod.mk.injEq] at hc
    obtain ⟨rfl, rfl⟩ := hc
    have hf := of_decide_eq_true hp
    obtain rfl : A = [] := by simpa [rl_cons, rl_nil, rv_int, rv_bool, rv_str, rv_agg, rv_fn] using hA
    exact gives_of_calls (fn := Try.f16) Try.func16 (by kernel_rfl) (by kernel_rfl) (computuslaw04_known.calls _ _ w hf rfl) (fun _ => by simp [gd_some, rl_cons, rl_nil, rv_int, rv_bool, rv_str, rv_agg, rv_tup]) (fun _ h => h)
  · cases hc
end Go.Proofs.Ytkongoedgngfhaa.P
namespace Go.Proofs.Ytkongoedgngfhaa.P
open Go.RowKit Go.Proofs.YtkongoedgngfhaaW.PrintWords Go.Proofs.YtkongoedgngfhaaW.PrintLast Go.Proofs.YtkongoedgngfhaaW.PrintMore
open Go.Proofs.Ytkongoedgngfhaa.A
attribute [local go_sem] max2_int min2_int max_two min_two max_three min_three max_four min_four   -- for this text's walks alone
set_option linter.unusedVariables false
set_option linter.unusedSimpArgs false
def dec_both.j0 : Nat → Bool → Int → Int → Int → Int → Option (Int × Int × Int × Int × Int)
  | 0, _, _, _, _, _ => none
  | k + 1, x19, x323000, x323001, x324000, x324001 => if x19 = true then (some (0, 0, 0, 0, 1)) else ((dec_Dec_to.f k x323000 x323001 (mx x323001 x324001)).bind fun bt328 => ((dec_Dec_to.f k x324000 x324001 (mx x323001 x324001)).bind fun bt332 => (some (bt328.1, bt328.2.1, bt332.1, bt332.2.1, mx bt328.2.2 bt332.2.2))))
def dec_both.f (k : Nat) (a0_0 : Int) (a0_1 : Int) (a1_0 : Int) (a1_1 : Int) : Option (Int × Int × Int × Int × Int) := (dec_Right.f a0_0 a0_1).bind fun t326 => (if t326 = true then ((dec_Right.f a1_0 a1_1).bind fun t327 => (dec_both.j0 k (!t327) a0_0 a0_1 a1_0 a1_1)) else (dec_both.j0 k true a0_0 a0_1 a1_0 a1_1))
set_option maxRecDepth 100000 in
theorem dec_both.vc (k : Nat) (a0_0 : Int) (a0_1 : Int) (a1_0 : Int) (a1_1 : Int) (K : AV → Prop) : afv PA Try.prog (tab [(31, dec_Right.con), (44, dec_Dec_to.con k)]) noLoops 2 42 [.agg [.int .i64 a0_0, .int .i64 a0_1], .agg [.int .i64 a1_0, .int .i64 a1_1]] K = (brc (Option.isSome (dec_Right.f a0_0 a0_1)) (∀ (m0 : Bool), m0 = gd (dec_Right.f a0_0 a0_1) → brc (!m0) (K (AV.tup [AV.agg [AV.int IntKind.i64 0, AV.int IntKind.i64 0], AV.agg [AV.int IntKind.i64 0, AV.int IntKind.i64 0], AV.int IntKind.i64 1])) (brc (Option.isSome (dec_Right.f a1_0 a1_1)) (∀ (m1 : Bool), m1 = gd (dec_Right.f a1_0 a1_1) → brc (!m1) (K (AV.tup [AV.agg [AV.int IntKind.i64 0, AV.int IntKind.i64 0], AV.agg [AV.int IntKind.i64 0, AV.int IntKind.i64 0], AV.int IntKind.i64 1])) (brc (Option.isSome (dec_Dec_to.f k a0_0 a0_1 (if a1_1 > a0_1 then a1_1 else a0_1))) (∀ (m2 : Int), m2 = Prod.fst (gd (dec_Dec_to.f k a0_0 a0_1 (if a1_1 > a0_1 then a1_1 else a0_1))) → ∀ (m3 : Int), m3 = Prod.fst (Prod.snd (gd (dec_Dec_to.f k a0_0 a0_1 (if a1_1 > a0_1 then a1_1 else a0_1)))) → ∀ (m4 : Int), m4 = Prod.snd (Prod.snd (gd (dec_Dec_to.f k a0_0 a0_1 (if a1_1 > a0_1 then a1_1 else a0_1)))) → brc (Option.isSome (dec_Dec_to.f k a1_0 a1_1 (if a1_1 > a0_1 then a1_1 else a0_1))) (∀ (m5 : Int), m5 = Prod.fst (gd (dec_Dec_to.f k a1_0 a1_1 (if a1_1 > a0_1 then a1_1 else a0_1))) → ∀ (m6 : Int), m6 = Prod.fst (Prod.snd (gd (dec_Dec_to.f k a1_0 a1_1 (if a1_1 > a0_1 then a1_1 else a0_1)))) → ∀ (m7 : Int), m7 = Prod.snd (Prod.snd (gd (dec_Dec_to.f k a1_0 a1_1 (if a1_1 > a0_1 then a1_1 else a0_1)))) → K (AV.tup [AV.agg [AV.int IntKind.i64 m2, AV.int IntKind.i64 m3], AV.agg [AV.int IntKind.i64 m5, AV.int IntKind.i64 m6], AV.int IntKind.i64 (if m7 > m4 then m7 else m4)])) False) False)) False)) False) := by kernel_rfl
set_option maxHeartbeats 1000000 in
set_option maxRecDepth 100000 in
theorem dec_both.calls (k : Nat) (a0_0 : Int) (a0_1 : Int) (a1_0 : Int) (a1_1 : Int) (r1 : Int) (r2 : Int) (r3 : Int) (r4 : Int) (r5 : Int) (w : World) (h : dec_both.f k a0_0 a0_1 a1_0 a1_1 = some (r1, r2, r3, r4, r5)) :
    Calls Try.prog 42 #[.agg #[.int .i64 a0_0, .int .i64 a0_1], .agg #[.int .i64 a1_0, .int .i64 a1_1]] w fun e w' => e = .returned (.tuple #[.agg #[.int .i64 r1, .int .i64 r2], .agg #[.int .i64 r3, .int .i64 r4], .int .i64 r5]) ∧ Below w.heap.size w w' := by
  refine calls_of_vc (A := [.agg #[.int .i64 a0_0, .int .i64 a0_1], .agg #[.int .i64 a1_0, .int .i64 a1_1]]) (v := .tup [.agg [.int .i64 r1, .int .i64 r2], .agg [.int .i64 r3, .int .i64 r4], .int .i64 r5]) (tab_cons (dec_Right.cok) (tab_cons (dec_Dec_to.cok k) (tab_nil))) ((dec_both.vc k a0_0 a0_1 a1_0 a1_1 _).mpr ?_) (by simp [rl_cons, rl_nil, rv_int, rv_bool, rv_str, rv_agg, rv_fn]) (fun ρ V' hV => by simpa [rl_cons, rl_nil, rv_int, rv_bool, rv_str, rv_agg, rv_tup] using hV)
  unfold dec_both.f at h
  cases k with
  | zero =>
    (try simp only [dec_both.j0] at h)
    (try simp only [bne, Option.bind_eq_some_iff, ite_some_iff] at h)
    (try simp only [bne, brc_iff, wrap_i64])
    first
      | grind (splits := 60) [gd_some, mx]
      | ((repeat' (first | (have or_ : Or _ _ := h; clear or_; rcases h with h | h) | (have or_ : Exists _ := h; clear or_; obtain ⟨_, h⟩ := h) | (have or_ : And _ _ := h; clear or_; obtain ⟨hq_, h⟩ := h))) <;> (try simp only [Option.some.injEq, Prod.mk.injEq, reduceCtorEq] at h) <;> (try subst_vars) <;> first | (simp_all [gd_some, mx] <;> (try omega) <;> done) | grind (splits := 60) [gd_some, mx])
      | (intros; subst_vars; simp_all [gd_some]; done)
  | succ k =>
    (try simp only [dec_both.j0] at h)
    (try simp only [bne, Option.bind_eq_some_iff, ite_some_iff] at h)
    (try simp only [bne, brc_iff, wrap_i64])
    first
      | grind (splits := 60) [gd_some, mx, dec_Dec_to.up]
      | ((repeat' (first | (have or_ : Or _ _ := h; clear or_; rcases h with h | h) | (have or_ : Exists _ := h; clear or_; obtain ⟨_, h⟩ := h) | (have or_ : And _ _ := h; clear or_; obtain ⟨hq_, h⟩ := h; (try first | replace hq_ := dec_Dec_to.le (n := k + 1) hq_ (by omega))))) <;> (try simp only [Option.some.injEq, Prod.mk.injEq, reduceCtorEq] at h) <;> (try subst_vars) <;> first | (simp_all [gd_some, mx] <;> (try omega) <;> done) | grind (splits := 60) [gd_some, mx, dec_Dec_to.up])
      | (intros; subst_vars; simp_all [gd_some]; done)
noncomputable def dec_both.con (k : Nat) : Con
  | [.agg [.int .i64 a0_0, .int .i64 a0_1], .agg [.int .i64 a1_0, .int .i64 a1_1]] => some ((dec_both.f k a0_0 a0_1 a1_0 a1_1).isSome, .tup [.agg [.int .i64 (gd (dec_both.f k a0_0 a0_1 a1_0 a1_1)).1, .int .i64 (gd (dec_both.f k a0_0 a0_1 a1_0 a1_1)).2.1], .agg [.int .i64 (gd (dec_both.f k a0_0 a0_1 a1_0 a1_1)).2.2.1, .int .i64 (gd (dec_both.f k a0_0 a0_1 a1_0 a1_1)).2.2.2.1], .int .i64 (gd (dec_both.f k a0_0 a0_1 a1_0 a1_1)).2.2.2.2])
  | _ => none
set_option maxRecDepth 100000 in
theorem dec_both.cok (k : Nat) : COk Try.prog 42 (dec_both.con k) := by
  intro args p v hc hp w A hA
  unfold dec_both.con at hc
  split at hc
  · rename_i a0_0 a0_1 a1_0 a1_1
    simp only [Option.some.injEq, Prod.mk.injEq] at hc
    obtain ⟨rfl, rfl⟩ := hc
    rcases hf : dec_both.f k a0_0 a0_1 a1_0 a1_1 with _ | ⟨r1, r2, r3, r4, r5⟩
    · rw [hf] at hp; cases hp
    obtain rfl : A = [.agg #[.int .i64 a0_0, .int .i64 a0_1], .agg #[.int .i64 a1_0, .int .i64 a1_1]] := by simpa [rl_cons, rl_nil, rv_int, rv_bool, rv_str, rv_agg, rv_fn] using hA
    exact gives_of_calls (fn := Try.f42) Try.func42 (by kernel_rfl) (by kernel_rfl) (dec_both.calls _ _ _ _ _ _ _ _ _ _ w hf) (fun _ => by simp [gd_some, rl_cons, rl_nil, rv_int, rv_bool, rv_str, rv_agg, rv_tup]) (fun _ h => h)
  · cases hc
end Go.Proofs.Ytkongoedgngfhaa.P
namespace Go.Proofs.Ytkongoedgngfhaa.P
open Go.RowKit Go.Proofs.YtkongoedgngfhaaW.PrintWords Go.Proofs.YtkongoedgngfhaaW.PrintLast Go.Proofs.YtkongoedgngfhaaW.PrintMore
open Go.Proofs.Ytkongoedgngfhaa.A
attribute [local go_sem] max2_int min2_int max_two min_two max_three min_three max_four min_four   -- for this text's walks alone
set_option linter.unusedVariables false
set_option linter.unusedSimpArgs false
def num_Add.f (a0 : Int) (a1 : Int) : Option (Int × Int) := if ((decide ((wrap64 (a0 + a1)) > a0)) != (decide (a1 > 0))) = true then (some (0, 10)) else (some (wrap64 (a0 + a1), 0))
set_option maxHeartbeats 8000000 in
set_option maxRecDepth 100000 in
theorem num_Add.calls (a0 : Int) (a1 : Int) (r1 : Int) (r2 : Int) (w : World) (h : num_Add.f a0 a1 = some (r1, r2)) :
    Calls Try.prog 43 #[.int .i64 a0, .int .i64 a1] w fun e w' => e = .returned (.tuple #[.int .i64 r1, .int .i64 r2]) ∧ Drawn0 w w' := by
  have H : (if ((decide ((wrap64 (a0 + a1)) > a0)) != (decide (a1 > 0))) = true then (some (0, 10)) else (some (wrap64 (a0 + a1), 0))) = some (r1, r2) := h
  clear h
  by_cases c3 : ((decide ((wrap64 (a0 + a1)) > a0)) != (decide (a1 > 0))) = true
  · rw [if_pos c3] at H
    have c3b0 : ((decide ((wrap64 (a0 + a1)) > a0)) != (decide (a1 > 0))) = true := c3
    (try (have c3b1 : decide ((decide ((wrap64 (a0 + a1)) > a0)) = (decide (a1 > 0))) = false := by simpa using c3))
    (try (have c3b2 : ((decide ((wrap64 (a0 + a1)) > a0)) == (decide (a1 > 0))) = false := by simpa using c3))
    (try (have c3b3 : ¬ ((decide ((wrap64 (a0 + a1)) > a0)) = (decide (a1 > 0))) := by simpa using c3))
    clear c3
    simp only [Option.some.injEq, Prod.mk.injEq] at H
    obtain ⟨rfl, rfl⟩ := H
    go_enter Try.func43, Try.ntmps43
    go_wp2
    go_ret2
    exact ⟨by first | rfl | (simp; done) | (simp [*]; done), by repeat (first | exact Drawn0.refl _ | apply Drawn0.step)⟩
  · rw [if_neg c3] at H
    have c3b0 : ((decide ((wrap64 (a0 + a1)) > a0)) != (decide (a1 > 0))) = false := by simpa using c3
    (try (have c3b1 : decide ((decide ((wrap64 (a0 + a1)) > a0)) = (decide (a1 > 0))) = true := by simpa using c3))
    (try (have c3b2 : ((decide ((wrap64 (a0 + a1)) > a0)) == (decide (a1 > 0))) = true := by simpa using c3))
    clear c3
    simp only [Option.some.injEq, Prod.mk.injEq] at H
    obtain ⟨rfl, rfl⟩ := H
    go_enter Try.func43, Try.ntmps43
    go_wp2
    go_ret2
    exact ⟨by first | rfl | (simp; done) | (simp [*]; done), by repeat (first | exact Drawn0.refl _ | apply Drawn0.step)⟩
noncomputable def num_Add.con : Con
  | [.int .i64 a0, .int .i64 a1] => some ((num_Add.f a0 a1).isSome, .tup [.int .i64 (gd (num_Add.f a0 a1)).1, .int .i64 (gd (num_Add.f a0 a1)).2])
  | _ => none
set_option maxRecDepth 100000 in
theorem num_Add.cok : COk Try.prog 43 (num_Add.con) := by
  intro args p v hc hp w A hA
  unfold num_Add.con at hc
  split at hc
  · rename_i a0 a1
    simp only [Option.some.injEq, Prod.mk.injEq] at hc
    obtain ⟨rfl, rfl⟩ := hc
    rcases hf : num_Add.f a0 a1 with _ | ⟨r1, r2⟩
    · rw [hf] at hp; cases hp
    obtain rfl : A = [.int .i64 a0, .int .i64 a1] := by simpa [rl_cons, rl_nil, rv_int, rv_bool, rv_str, rv_agg, rv_fn] using hA
    exact gives_of_calls (fn := Try.f43) Try.func43 (by kernel_rfl) (by kernel_rfl) (num_Add.calls _ _ _ _ w hf) (fun _ => by simp [gd_some, rl_cons, rl_nil, rv_int, rv_bool, rv_str, rv_agg, rv_tup]) (fun _ h => h.below)
  · cases hc
def dec_Add.f (k : Nat) (a0_0 : Int) (a0_1 : Int) (a1_0 : Int) (a1_1 : Int) : Option (Int × Int × Int) := (dec_both.f k a0_0 a0_1 a1_0 a1_1).bind fun bt354 => (if bt354.2.2.2.2 = 0 then ((num_Add.f bt354.1 bt354.2.2.1).bind fun bt361 => ((dec_made.f bt361.1 bt354.2.1 bt361.2).bind fun bt363 => (some (bt363.1, bt363.2.1, bt363.2.2)))) else (some (0, 0, bt354.2.2.2.2)))
set_option maxRecDepth 100000 in
theorem dec_Add.vc (k : Nat) (a0_0 : Int) (a0_1 : Int) (a1_0 : Int) (a1_1 : Int) (K : AV → Prop) : afv PA Try.prog (tab [(35, dec_made.con), (42, dec_both.con k), (43, num_Add.con)]) noLoops 2 18 [.agg [.int .i64 a0_0, .int .i64 a0_1], .agg [.int .i64 a1_0, .int .i64 a1_1]] K = (brc (Option.isSome (dec_both.f k a0_0 a0_1 a1_0 a1_1)) (∀ (m0 : Int), m0 = Prod.fst (gd (dec_both.f k a0_0 a0_1 a1_0 a1_1)) → ∀ (m1 : Int), m1 = Prod.fst (Prod.snd (gd (dec_both.f k a0_0 a0_1 a1_0 a1_1))) → ∀ (m2 : Int), m2 = Prod.fst (Prod.snd (Prod.snd (gd (dec_both.f k a0_0 a0_1 a1_0 a1_1)))) → ∀ (m3 : Int), m3 = Prod.fst (Prod.snd (Prod.snd (Prod.snd (gd (dec_both.f k a0_0 a0_1 a1_0 a1_1))))) → ∀ (m4 : Int), m4 = Prod.snd (Prod.snd (Prod.snd (Prod.snd (gd (dec_both.f k a0_0 a0_1 a1_0 a1_1))))) → brc (m4 != 0) (K (AV.tup [AV.agg [AV.int IntKind.i64 0, AV.int IntKind.i64 0], AV.int IntKind.i64 m4])) (brc (Option.isSome (num_Add.f m0 m2)) (∀ (m5 : Int), m5 = Prod.fst (gd (num_Add.f m0 m2)) → ∀ (m6 : Int), m6 = Prod.snd (gd (num_Add.f m0 m2)) → brc (Option.isSome (dec_made.f m5 m1 m6)) (∀ (m7 : Int), m7 = Prod.fst (gd (dec_made.f m5 m1 m6)) → ∀ (m8 : Int), m8 = Prod.fst (Prod.snd (gd (dec_made.f m5 m1 m6))) → ∀ (m9 : Int), m9 = Prod.snd (Prod.snd (gd (dec_made.f m5 m1 m6))) → K (AV.tup [AV.agg [AV.int IntKind.i64 m7, AV.int IntKind.i64 m8], AV.int IntKind.i64 m9])) False) False)) False) := by kernel_rfl
set_option maxHeartbeats 1000000 in
set_option maxRecDepth 100000 in
theorem dec_Add.calls (k : Nat) (a0_0 : Int) (a0_1 : Int) (a1_0 : Int) (a1_1 : Int) (r1 : Int) (r2 : Int) (r3 : Int) (w : World) (h : dec_Add.f k a0_0 a0_1 a1_0 a1_1 = some (r1, r2, r3)) :
    Calls Try.prog 18 #[.agg #[.int .i64 a0_0, .int .i64 a0_1], .agg #[.int .i64 a1_0, .int .i64 a1_1]] w fun e w' => e = .returned (.tuple #[.agg #[.int .i64 r1, .int .i64 r2], .int .i64 r3]) ∧ Below w.heap.size w w' := by
  refine calls_of_vc (A := [.agg #[.int .i64 a0_0, .int .i64 a0_1], .agg #[.int .i64 a1_0, .int .i64 a1_1]]) (v := .tup [.agg [.int .i64 r1, .int .i64 r2], .int .i64 r3]) (tab_cons (dec_made.cok) (tab_cons (dec_both.cok k) (tab_cons (num_Add.cok) (tab_nil)))) ((dec_Add.vc k a0_0 a0_1 a1_0 a1_1 _).mpr ?_) (by simp [rl_cons, rl_nil, rv_int, rv_bool, rv_str, rv_agg, rv_fn]) (fun ρ V' hV => by simpa [rl_cons, rl_nil, rv_int, rv_bool, rv_str, rv_agg, rv_tup] using hV)
  unfold dec_Add.f at h
  (try simp only [bne, Option.bind_eq_some_iff, ite_some_iff] at h)
  (try simp only [bne, brc_iff, wrap_i64])
  first
    | grind (splits := 60) [gd_some]
    | ((repeat' (first | (have or_ : Or _ _ := h; clear or_; rcases h with h | h) | (have or_ : Exists _ := h; clear or_; obtain ⟨_, h⟩ := h) | (have or_ : And _ _ := h; clear or_; obtain ⟨hq_, h⟩ := h))) <;> (try simp only [Option.some.injEq, Prod.mk.injEq, reduceCtorEq] at h) <;> (try subst_vars) <;> first | (simp_all [gd_some] <;> (try omega) <;> done) | grind (splits := 60) [gd_some])
    | (intros; subst_vars; simp_all [gd_some]; done)
noncomputable def dec_Add.con (k : Nat) : Con
  | [.agg [.int .i64 a0_0, .int .i64 a0_1], .agg [.int .i64 a1_0, .int .i64 a1_1]] => some ((dec_Add.f k a0_0 a0_1 a1_0 a1_1).isSome, .tup [.agg [.int .i64 (gd (dec_Add.f k a0_0 a0_1 a1_0 a1_1)).1, .int .i64 (gd (dec_Add.f k a0_0 a0_1 a1_0 a1_1)).2.1], .int .i64 (gd (dec_Add.f k a0_0 a0_1 a1_0 a1_1)).2.2])
  | _ => none
set_option maxRecDepth 100000 in
theorem dec_Add.cok (k : Nat) : COk Try.prog 18 (dec_Add.con k) := by
  intro args p v hc hp w A hA
  unfold dec_Add.con at hc
  split at hc
  · rename_i a0_0 a0_1 a1_0 a1_1
    simp only [Option.some.injEq, Prod.mk.injEq] at hc
    obtain ⟨rfl, rfl⟩ := hc
    rcases hf : dec_Add.f k a0_0 a0_1 a1_0 a1_1 with _ | ⟨r1, r2, r3⟩
    · rw [hf] at hp; cases hp
    obtain rfl : A = [.agg #[.int .i64 a0_0, .int .i64 a0_1], .agg #[.int .i64 a1_0, .int .i64 a1_1]] := by simpa [rl_cons, rl_nil, rv_int, rv_bool, rv_str, rv_agg, rv_fn] using hA
    exact gives_of_calls (fn := Try.f18) Try.func18 (by kernel_rfl) (by kernel_rfl) (dec_Add.calls _ _ _ _ _ _ _ _ w hf) (fun _ => by simp [gd_some, rl_cons, rl_nil, rv_int, rv_bool, rv_str, rv_agg, rv_tup]) (fun _ h => h)
  · cases hc
end Go.Proofs.Ytkongoedgngfhaa.P
namespace Go.Proofs.Ytkongoedgngfhaa.P
open Go.RowKit Go.Proofs.YtkongoedgngfhaaW.PrintWords Go.Proofs.YtkongoedgngfhaaW.PrintLast Go.Proofs.YtkongoedgngfhaaW.PrintMore
open Go.Proofs.Ytkongoedgngfhaa.A
attribute [local go_sem] max2_int min2_int max_two min_two max_three min_three max_four min_four   -- for this text's walks alone
set_option linter.unusedVariables false
set_option linter.unusedSimpArgs false
def cmp_isNaN_int64.f (a0 : Int) : Option (Bool) := some (a0 != a0)
set_option maxHeartbeats 8000000 in
set_option maxRecDepth 100000 in
theorem cmp_isNaN_int64.calls (a0 : Int) (r : Bool) (w : World) (h : cmp_isNaN_int64.f a0 = some r) :
    Calls Try.prog 62 #[.int .i64 a0] w fun e w' => e = .returned (.bool r) ∧ Drawn0 w w' := by
  have H : (some (a0 != a0)) = some r := h
  clear h
  obtain rfl := Option.some.inj H
  go_enter Try.func62, Try.ntmps62
  go_wp2
  go_ret
  exact ⟨by first | rfl | (simp; done) | (simp [*]; done), by repeat (first | exact Drawn0.refl _ | apply Drawn0.step)⟩
def cmp_Compare_int64.f (a0 : Int) (a1 : Int) : Option (Int) := (cmp_isNaN_int64.f a0).bind fun t479 => ((cmp_isNaN_int64.f a1).bind fun t480 => (if t479 = true then (if t480 = true then (some 0) else (some (-1))) else (if t480 = true then (some 1) else (if a0 < a1 then (some (-1)) else (if a0 > a1 then (some 1) else (some 0))))))
set_option maxHeartbeats 8000000 in
set_option maxRecDepth 100000 in
theorem cmp_Compare_int64.calls (a0 : Int) (a1 : Int) (r : Int) (w : World) (h : cmp_Compare_int64.f a0 a1 = some r) :
    Calls Try.prog 50 #[.int .i64 a0, .int .i64 a1] w fun e w' => e = .returned (.int .i64 r) ∧ Drawn0 w w' := by
  have H : ((cmp_isNaN_int64.f a0).bind fun t479 => ((cmp_isNaN_int64.f a1).bind fun t480 => (if t479 = true then (if t480 = true then (some 0) else (some (-1))) else (if t480 = true then (some 1) else (if a0 < a1 then (some (-1)) else (if a0 > a1 then (some 1) else (some 0))))))) = some r := h
  clear h
  replace H := Option.bind_eq_some_iff.mp H
  obtain ⟨t479, A30, H⟩ := H
  replace H : ((cmp_isNaN_int64.f a1).bind fun t480 => (if t479 = true then (if t480 = true then (some 0) else (some (-1))) else (if t480 = true then (some 1) else (if a0 < a1 then (some (-1)) else (if a0 > a1 then (some 1) else (some 0)))))) = some r := H
  have A3 := Aside0.mk A30
  clear A30
  replace H := Option.bind_eq_some_iff.mp H
  obtain ⟨t480, A40, H⟩ := H
  replace H : (if t479 = true then (if t480 = true then (some 0) else (some (-1))) else (if t480 = true then (some 1) else (if a0 < a1 then (some (-1)) else (if a0 > a1 then (some 1) else (some 0))))) = some r := H
  have A4 := Aside0.mk A40
  clear A40
  by_cases c5 : t479 = true
  · subst c5
    have H1 : (if t480 = true then (some 0) else (some (-1))) = some r := by rw [if_pos rfl] at H; exact H
    clear H
    have H := H1
    clear H1
    by_cases c6 : t480 = true
    · subst c6
      have H1 : (some 0) = some r := by rw [if_pos rfl] at H; exact H
      clear H
      have H := H1
      clear H1
      obtain rfl := Option.some.inj H
      go_enter Try.func50, Try.ntmps50
      go_wp2_with (first | ((with_reducible refine gate_callee (f := 62) rfl ?_); refine goesL_ (some 8) rfl rfl Try.func62 (by kernel_rfl) rfl #[.int .i64 a0] rfl (by (try simp only [List.map_toArray, List.map_cons, List.map_nil]); first | done | rfl | (simp only [List.length_drop, List.length_take]; rfl)) ?_; (with_reducible refine (cmp_isNaN_int64.calls a0 true _ A3.out).mono ?_); rintro e w' ⟨rfl, ⟨nd, rfl⟩⟩; refine ⟨_, rfl, ?_⟩) | ((with_reducible refine gate_callee (f := 62) rfl ?_); refine goesL_ (some 10) rfl rfl Try.func62 (by kernel_rfl) rfl #[.int .i64 a1] rfl (by (try simp only [List.map_toArray, List.map_cons, List.map_nil]); first | done | rfl | (simp only [List.length_drop, List.length_take]; rfl)) ?_; (with_reducible refine (cmp_isNaN_int64.calls a1 true _ A4.out).mono ?_); rintro e w' ⟨rfl, ⟨nd, rfl⟩⟩; refine ⟨_, rfl, ?_⟩))
      go_ret
      exact ⟨by first | rfl | (simp; done) | (simp [*]; done), by repeat (first | exact Drawn0.refl _ | apply Drawn0.step)⟩
    · replace c6 := Bool.eq_false_iff.mpr c6
      subst c6
      have H1 : (some (-1)) = some r := by rw [if_neg (show ¬ (false = true) by decide)] at H; exact H
      clear H
      have H := H1
      clear H1
      obtain rfl := Option.some.inj H
      go_enter Try.func50, Try.ntmps50
      go_wp2_with (first | ((with_reducible refine gate_callee (f := 62) rfl ?_); refine goesL_ (some 8) rfl rfl Try.func62 (by kernel_rfl) rfl #[.int .i64 a0] rfl (by (try simp only [List.map_toArray, List.map_cons, List.map_nil]); first | done | rfl | (simp only [List.length_drop, List.length_take]; rfl)) ?_; (with_reducible refine (cmp_isNaN_int64.calls a0 true _ A3.out).mono ?_); rintro e w' ⟨rfl, ⟨nd, rfl⟩⟩; refine ⟨_, rfl, ?_⟩) | ((with_reducible refine gate_callee (f := 62) rfl ?_); refine goesL_ (some 10) rfl rfl Try.func62 (by kernel_rfl) rfl #[.int .i64 a1] rfl (by (try simp only [List.map_toArray, List.map_cons, List.map_nil]); first | done | rfl | (simp only [List.length_drop, List.length_take]; rfl)) ?_; (with_reducible refine (cmp_isNaN_int64.calls a1 false _ A4.out).mono ?_); rintro e w' ⟨rfl, ⟨nd, rfl⟩⟩; refine ⟨_, rfl, ?_⟩))
      go_ret
      exact ⟨by first | rfl | (simp; done) | (simp [*]; done), by repeat (first | exact Drawn0.refl _ | apply Drawn0.step)⟩
  · replace c5 := Bool.eq_false_iff.mpr c5
    subst c5
    have H1 : (if t480 = true then (some 1) else (if a0 < a1 then (some (-1)) else (if a0 > a1 then (some 1) else (some 0)))) = some r := by rw [if_neg (show ¬ (false = true) by decide)] at H; exact H
    clear H
    have H := H1
    clear H1
    by_cases c7 : t480 = true
    · subst c7
      have H1 : (some 1) = some r := by rw [if_pos rfl] at H; exact H
      clear H
      have H := H1
      clear H1
      obtain rfl := Option.some.inj H
      go_enter Try.func50, Try.ntmps50
      go_wp2_with (first | ((with_reducible refine gate_callee (f := 62) rfl ?_); refine goesL_ (some 8) rfl rfl Try.func62 (by kernel_rfl) rfl #[.int .i64 a0] rfl (by (try simp only [List.map_toArray, List.map_cons, List.map_nil]); first | done | rfl | (simp only [List.length_drop, List.length_take]; rfl)) ?_; (with_reducible refine (cmp_isNaN_int64.calls a0 false _ A3.out).mono ?_); rintro e w' ⟨rfl, ⟨nd, rfl⟩⟩; refine ⟨_, rfl, ?_⟩) | ((with_reducible refine gate_callee (f := 62) rfl ?_); refine goesL_ (some 10) rfl rfl Try.func62 (by kernel_rfl) rfl #[.int .i64 a1] rfl (by (try simp only [List.map_toArray, List.map_cons, List.map_nil]); first | done | rfl | (simp only [List.length_drop, List.length_take]; rfl)) ?_; (with_reducible refine (cmp_isNaN_int64.calls a1 true _ A4.out).mono ?_); rintro e w' ⟨rfl, ⟨nd, rfl⟩⟩; refine ⟨_, rfl, ?_⟩))
      go_ret
      exact ⟨by first | rfl | (simp; done) | (simp [*]; done), by repeat (first | exact Drawn0.refl _ | apply Drawn0.step)⟩
    · replace c7 := Bool.eq_false_iff.mpr c7
      subst c7
      have H1 : (if a0 < a1 then (some (-1)) else (if a0 > a1 then (some 1) else (some 0))) = some r := by rw [if_neg (show ¬ (false = true) by decide)] at H; exact H
      clear H
      have H := H1
      clear H1
      by_cases c8 : a0 < a1
      · rw [if_pos c8] at H
        have c8b0 : decide (a0 < a1) = true := decide_eq_true c8
        clear c8
        obtain rfl := Option.some.inj H
        go_enter Try.func50, Try.ntmps50
        go_wp2_with (first | ((with_reducible refine gate_callee (f := 62) rfl ?_); refine goesL_ (some 8) rfl rfl Try.func62 (by kernel_rfl) rfl #[.int .i64 a0] rfl (by (try simp only [List.map_toArray, List.map_cons, List.map_nil]); first | done | rfl | (simp only [List.length_drop, List.length_take]; rfl)) ?_; (with_reducible refine (cmp_isNaN_int64.calls a0 false _ A3.out).mono ?_); rintro e w' ⟨rfl, ⟨nd, rfl⟩⟩; refine ⟨_, rfl, ?_⟩) | ((with_reducible refine gate_callee (f := 62) rfl ?_); refine goesL_ (some 10) rfl rfl Try.func62 (by kernel_rfl) rfl #[.int .i64 a1] rfl (by (try simp only [List.map_toArray, List.map_cons, List.map_nil]); first | done | rfl | (simp only [List.length_drop, List.length_take]; rfl)) ?_; (with_reducible refine (cmp_isNaN_int64.calls a1 false _ A4.out).mono ?_); rintro e w' ⟨rfl, ⟨nd, rfl⟩⟩; refine ⟨_, rfl, ?_⟩))
        go_ret
        exact ⟨by first | rfl | (simp; done) | (simp [*]; done), by repeat (first | exact Drawn0.refl _ | apply Drawn0.step)⟩
      · rw [if_neg c8] at H
        have c8b0 : decide (a0 < a1) = false := decide_eq_false c8
        clear c8
        by_cases c9 : a0 > a1
        · rw [if_pos c9] at H
          have c9b0 : decide (a1 < a0) = true := decide_eq_true c9
          clear c9
          obtain rfl := Option.some.inj H
          go_enter Try.func50, Try.ntmps50
          go_wp2_with (first | ((with_reducible refine gate_callee (f := 62) rfl ?_); refine goesL_ (some 8) rfl rfl Try.func62 (by kernel_rfl) rfl #[.int .i64 a0] rfl (by (try simp only [List.map_toArray, List.map_cons, List.map_nil]); first | done | rfl | (simp only [List.length_drop, List.length_take]; rfl)) ?_; (with_reducible refine (cmp_isNaN_int64.calls a0 false _ A3.out).mono ?_); rintro e w' ⟨rfl, ⟨nd, rfl⟩⟩; refine ⟨_, rfl, ?_⟩) | ((with_reducible refine gate_callee (f := 62) rfl ?_); refine goesL_ (some 10) rfl rfl Try.func62 (by kernel_rfl) rfl #[.int .i64 a1] rfl (by (try simp only [List.map_toArray, List.map_cons, List.map_nil]); first | done | rfl | (simp only [List.length_drop, List.length_take]; rfl)) ?_; (with_reducible refine (cmp_isNaN_int64.calls a1 false _ A4.out).mono ?_); rintro e w' ⟨rfl, ⟨nd, rfl⟩⟩; refine ⟨_, rfl, ?_⟩))
          go_ret
          exact ⟨by first | rfl | (simp; done) | (simp [*]; done), by repeat (first | exact Drawn0.refl _ | apply Drawn0.step)⟩
        · rw [if_neg c9] at H
          have c9b0 : decide (a1 < a0) = false := decide_eq_false c9
          clear c9
          obtain rfl := Option.some.inj H
          go_enter Try.func50, Try.ntmps50
          go_wp2_with (first | ((with_reducible refine gate_callee (f := 62) rfl ?_); refine goesL_ (some 8) rfl rfl Try.func62 (by kernel_rfl) rfl #[.int .i64 a0] rfl (by (try simp only [List.map_toArray, List.map_cons, List.map_nil]); first | done | rfl | (simp only [List.length_drop, List.length_take]; rfl)) ?_; (with_reducible refine (cmp_isNaN_int64.calls a0 false _ A3.out).mono ?_); rintro e w' ⟨rfl, ⟨nd, rfl⟩⟩; refine ⟨_, rfl, ?_⟩) | ((with_reducible refine gate_callee (f := 62) rfl ?_); refine goesL_ (some 10) rfl rfl Try.func62 (by kernel_rfl) rfl #[.int .i64 a1] rfl (by (try simp only [List.map_toArray, List.map_cons, List.map_nil]); first | done | rfl | (simp only [List.length_drop, List.length_take]; rfl)) ?_; (with_reducible refine (cmp_isNaN_int64.calls a1 false _ A4.out).mono ?_); rintro e w' ⟨rfl, ⟨nd, rfl⟩⟩; refine ⟨_, rfl, ?_⟩))
          go_ret
          exact ⟨by first | rfl | (simp; done) | (simp [*]; done), by repeat (first | exact Drawn0.refl _ | apply Drawn0.step)⟩
noncomputable def cmp_Compare_int64.con : Con
  | [.int .i64 a0, .int .i64 a1] => some ((cmp_Compare_int64.f a0 a1).isSome, .int .i64 (gd (cmp_Compare_int64.f a0 a1)))
  | _ => none
set_option maxRecDepth 100000 in
theorem cmp_Compare_int64.cok : COk Try.prog 50 (cmp_Compare_int64.con) := by
  intro args p v hc hp w A hA
  unfold cmp_Compare_int64.con at hc
  split at hc
  · rename_i a0 a1
    simp only [Option.some.injEq, Prod.mk.injEq] at hc
    obtain ⟨rfl, rfl⟩ := hc
    rcases hf : cmp_Compare_int64.f a0 a1 with _ | r
    · rw [hf] at hp; cases hp
    obtain rfl : A = [.int .i64 a0, .int .i64 a1] := by simpa [rl_cons, rl_nil, rv_int, rv_bool, rv_str, rv_agg, rv_fn] using hA
    exact gives_of_calls (fn := Try.f50) Try.func50 (by kernel_rfl) (by kernel_rfl) (cmp_Compare_int64.calls _ _ _ w hf) (fun _ => by simp [gd_some, rl_cons, rl_nil, rv_int, rv_bool, rv_str, rv_agg, rv_tup]) (fun _ h => h.below)
  · cases hc
end Go.Proofs.Ytkongoedgngfhaa.P
namespace Go.Proofs.Ytkongoedgngfhaa.P
open Go.RowKit Go.Proofs.YtkongoedgngfhaaW.PrintWords Go.Proofs.YtkongoedgngfhaaW.PrintLast Go.Proofs.YtkongoedgngfhaaW.PrintMore
open Go.Proofs.Ytkongoedgngfhaa.A
attribute [local go_sem] max2_int min2_int max_two min_two max_three min_three max_four min_four   -- for this text's walks alone
set_option linter.unusedVariables false
set_option linter.unusedSimpArgs false
def dec_Cmp.j0 : Nat → Bool → Int → Int → Int → Int → Option (Int)
  | 0, _, _, _, _, _ => none
  | k + 1, x14, x482000, x482001, x483000, x483001 => if x14 = true then (some 0) else ((dec_Dec_split.f k x482000 x482001).bind fun bt485 => ((dec_Dec_split.f k x483000 x483001).bind fun bt487 => (if (bt485.1 == bt487.1 && (bt485.2 == bt487.2)) = true then (some 0) else (if bt485.1 = bt487.1 then ((cmp_Compare_int64.f bt485.2 bt487.2).bind fun t491 => (some t491)) else ((cmp_Compare_int64.f bt485.1 bt487.1).bind fun t492 => (some t492))))))
def dec_Cmp.f (k : Nat) (a0_0 : Int) (a0_1 : Int) (a1_0 : Int) (a1_1 : Int) : Option (Int) := (dec_Right.f a0_0 a0_1).bind fun t483 => (if t483 = true then ((dec_Right.f a1_0 a1_1).bind fun t484 => (dec_Cmp.j0 k (!t484) a0_0 a0_1 a1_0 a1_1)) else (dec_Cmp.j0 k true a0_0 a0_1 a1_0 a1_1))
set_option maxRecDepth 100000 in
theorem dec_Cmp.vc (k : Nat) (a0_0 : Int) (a0_1 : Int) (a1_0 : Int) (a1_1 : Int) (K : AV → Prop) : afv PA Try.prog (tab [(31, dec_Right.con), (50, cmp_Compare_int64.con), (48, dec_Dec_split.con k)]) noLoops 2 25 [.agg [.int .i64 a0_0, .int .i64 a0_1], .agg [.int .i64 a1_0, .int .i64 a1_1]] K = (brc (Option.isSome (dec_Right.f a0_0 a0_1)) (∀ (m0 : Bool), m0 = gd (dec_Right.f a0_0 a0_1) → brc (!m0) (K (AV.int IntKind.i64 0)) (brc (Option.isSome (dec_Right.f a1_0 a1_1)) (∀ (m1 : Bool), m1 = gd (dec_Right.f a1_0 a1_1) → brc (!m1) (K (AV.int IntKind.i64 0)) (brc (Option.isSome (dec_Dec_split.f k a0_0 a0_1)) (∀ (m2 : Int), m2 = Prod.fst (gd (dec_Dec_split.f k a0_0 a0_1)) → ∀ (m3 : Int), m3 = Prod.snd (gd (dec_Dec_split.f k a0_0 a0_1)) → brc (Option.isSome (dec_Dec_split.f k a1_0 a1_1)) (∀ (m4 : Int), m4 = Prod.fst (gd (dec_Dec_split.f k a1_0 a1_1)) → ∀ (m5 : Int), m5 = Prod.snd (gd (dec_Dec_split.f k a1_0 a1_1)) → brc (m2 == m4 && (m3 == m5 && true)) (K (AV.int IntKind.i64 0)) (brc (m2 != m4) (brc (Option.isSome (cmp_Compare_int64.f m2 m4)) (∀ (m6 : Int), m6 = gd (cmp_Compare_int64.f m2 m4) → K (AV.int IntKind.i64 m6)) False) (brc (Option.isSome (cmp_Compare_int64.f m3 m5)) (∀ (m6 : Int), m6 = gd (cmp_Compare_int64.f m3 m5) → K (AV.int IntKind.i64 m6)) False))) False) False)) False)) False) := by kernel_rfl
set_option maxHeartbeats 1000000 in
set_option maxRecDepth 100000 in
theorem dec_Cmp.calls (k : Nat) (a0_0 : Int) (a0_1 : Int) (a1_0 : Int) (a1_1 : Int) (r : Int) (w : World) (h : dec_Cmp.f k a0_0 a0_1 a1_0 a1_1 = some r) :
    Calls Try.prog 25 #[.agg #[.int .i64 a0_0, .int .i64 a0_1], .agg #[.int .i64 a1_0, .int .i64 a1_1]] w fun e w' => e = .returned (.int .i64 r) ∧ Below w.heap.size w w' := by
  refine calls_of_vc (A := [.agg #[.int .i64 a0_0, .int .i64 a0_1], .agg #[.int .i64 a1_0, .int .i64 a1_1]]) (v := .int .i64 r) (tab_cons (dec_Right.cok) (tab_cons (cmp_Compare_int64.cok) (tab_cons (dec_Dec_split.cok k) (tab_nil)))) ((dec_Cmp.vc k a0_0 a0_1 a1_0 a1_1 _).mpr ?_) (by simp [rl_cons, rl_nil, rv_int, rv_bool, rv_str, rv_agg, rv_fn]) (fun ρ V' hV => by simpa [rl_cons, rl_nil, rv_int, rv_bool, rv_str, rv_agg, rv_tup] using hV)
  unfold dec_Cmp.f at h
  cases k with
  | zero =>
    (try simp only [dec_Cmp.j0] at h)
    (try simp only [bne, Option.bind_eq_some_iff, ite_some_iff] at h)
    (try simp only [bne, brc_iff, wrap_i64])
    first
      | grind (splits := 60) [gd_some]
      | ((repeat' (first | (have or_ : Or _ _ := h; clear or_; rcases h with h | h) | (have or_ : Exists _ := h; clear or_; obtain ⟨_, h⟩ := h) | (have or_ : And _ _ := h; clear or_; obtain ⟨hq_, h⟩ := h))) <;> (try simp only [Option.some.injEq, Prod.mk.injEq, reduceCtorEq] at h) <;> (try subst_vars) <;> first | (simp_all [gd_some] <;> (try omega) <;> done) | grind (splits := 60) [gd_some])
      | (intros; subst_vars; simp_all [gd_some]; done)
  | succ k =>
    (try simp only [dec_Cmp.j0] at h)
    (try simp only [bne, Option.bind_eq_some_iff, ite_some_iff] at h)
    (try simp only [bne, brc_iff, wrap_i64])
    first
      | grind (splits := 60) [gd_some, dec_Dec_split.up]
      | ((repeat' (first | (have or_ : Or _ _ := h; clear or_; rcases h with h | h) | (have or_ : Exists _ := h; clear or_; obtain ⟨_, h⟩ := h) | (have or_ : And _ _ := h; clear or_; obtain ⟨hq_, h⟩ := h; (try first | replace hq_ := dec_Dec_split.le (n := k + 1) hq_ (by omega))))) <;> (try simp only [Option.some.injEq, Prod.mk.injEq, reduceCtorEq] at h) <;> (try subst_vars) <;> first | (simp_all [gd_some] <;> (try omega) <;> done) | grind (splits := 60) [gd_some, dec_Dec_split.up])
      | (intros; subst_vars; simp_all [gd_some]; done)
noncomputable def dec_Cmp.con (k : Nat) : Con
  | [.agg [.int .i64 a0_0, .int .i64 a0_1], .agg [.int .i64 a1_0, .int .i64 a1_1]] => some ((dec_Cmp.f k a0_0 a0_1 a1_0 a1_1).isSome, .int .i64 (gd (dec_Cmp.f k a0_0 a0_1 a1_0 a1_1)))
  | _ => none
set_option maxRecDepth 100000 in
theorem dec_Cmp.cok (k : Nat) : COk Try.prog 25 (dec_Cmp.con k) := by
  intro args p v hc hp w A hA
  unfold dec_Cmp.con at hc
  split at hc
  · rename_i a0_0 a0_1 a1_0 a1_1
    simp only [Option.some.injEq, Prod.mk.injEq] at hc
    obtain ⟨rfl, rfl⟩ := hc
    rcases hf : dec_Cmp.f k a0_0 a0_1 a1_0 a1_1 with _ | r
    · rw [hf] at hp; cases hp
    obtain rfl : A = [.agg #[.int .i64 a0_0, .int .i64 a0_1], .agg #[.int .i64 a1_0, .int .i64 a1_1]] := by simpa [rl_cons, rl_nil, rv_int, rv_bool, rv_str, rv_agg, rv_fn] using hA
    exact gives_of_calls (fn := Try.f25) Try.func25 (by kernel_rfl) (by kernel_rfl) (dec_Cmp.calls _ _ _ _ _ _ w hf) (fun _ => by simp [gd_some, rl_cons, rl_nil, rv_int, rv_bool, rv_str, rv_agg, rv_tup]) (fun _ h => h)
  · cases hc
end Go.Proofs.Ytkongoedgngfhaa.P
namespace Go.Proofs.Ytkongoedgngfhaa.P
open Go.RowKit Go.Proofs.YtkongoedgngfhaaW.PrintWords Go.Proofs.YtkongoedgngfhaaW.PrintLast Go.Proofs.YtkongoedgngfhaaW.PrintMore
open Go.Proofs.Ytkongoedgngfhaa.A
attribute [local go_sem] max2_int min2_int max_two min_two max_three min_three max_four min_four   -- for this text's walks alone
set_option linter.unusedVariables false
set_option linter.unusedSimpArgs false
def dec_Mul.j0 : Nat → Bool → Int → Int → Int → Int → Option (Int × Int × Int)
  | 0, _, _, _, _, _ => none
  | k + 1, x15, x560000, x560001, x561000, x561001 => if x15 = true then (some (0, 0, 1)) else ((num_Mul.f k x560000 x561000).bind fun bt564 => (if (wrap64 (x560001 + x561001)) > 9 then ((dec_made.f bt564.1 (wrap64 (x560001 + x561001)) 10).bind fun bt566 => (some (bt566.1, bt566.2.1, bt566.2.2))) else ((dec_made.f bt564.1 (wrap64 (x560001 + x561001)) bt564.2).bind fun bt569 => (some (bt569.1, bt569.2.1, bt569.2.2)))))
def dec_Mul.f (k : Nat) (a0_0 : Int) (a0_1 : Int) (a1_0 : Int) (a1_1 : Int) : Option (Int × Int × Int) := (dec_Right.f a0_0 a0_1).bind fun t562 => (if t562 = true then ((dec_Right.f a1_0 a1_1).bind fun t563 => (dec_Mul.j0 k (!t563) a0_0 a0_1 a1_0 a1_1)) else (dec_Mul.j0 k true a0_0 a0_1 a1_0 a1_1))
set_option maxRecDepth 100000 in
theorem dec_Mul.vc (k : Nat) (a0_0 : Int) (a0_1 : Int) (a1_0 : Int) (a1_1 : Int) (K : AV → Prop) : afv PA Try.prog (tab [(31, dec_Right.con), (32, num_Mul.con k), (35, dec_made.con)]) noLoops 2 26 [.agg [.int .i64 a0_0, .int .i64 a0_1], .agg [.int .i64 a1_0, .int .i64 a1_1]] K = (brc (Option.isSome (dec_Right.f a0_0 a0_1)) (∀ (m0 : Bool), m0 = gd (dec_Right.f a0_0 a0_1) → brc (!m0) (K (AV.tup [AV.agg [AV.int IntKind.i64 0, AV.int IntKind.i64 0], AV.int IntKind.i64 1])) (brc (Option.isSome (dec_Right.f a1_0 a1_1)) (∀ (m1 : Bool), m1 = gd (dec_Right.f a1_0 a1_1) → brc (!m1) (K (AV.tup [AV.agg [AV.int IntKind.i64 0, AV.int IntKind.i64 0], AV.int IntKind.i64 1])) (brc (Option.isSome (num_Mul.f k a0_0 a1_0)) (∀ (m2 : Int), m2 = Prod.fst (gd (num_Mul.f k a0_0 a1_0)) → ∀ (m3 : Int), m3 = Prod.snd (gd (num_Mul.f k a0_0 a1_0)) → brc (decide (IntKind.wrap IntKind.i64 (a0_1 + a1_1) > 9)) (brc (Option.isSome (dec_made.f m2 (IntKind.wrap IntKind.i64 (a0_1 + a1_1)) 10)) (∀ (m4 : Int), m4 = Prod.fst (gd (dec_made.f m2 (IntKind.wrap IntKind.i64 (a0_1 + a1_1)) 10)) → ∀ (m5 : Int), m5 = Prod.fst (Prod.snd (gd (dec_made.f m2 (IntKind.wrap IntKind.i64 (a0_1 + a1_1)) 10))) → ∀ (m6 : Int), m6 = Prod.snd (Prod.snd (gd (dec_made.f m2 (IntKind.wrap IntKind.i64 (a0_1 + a1_1)) 10))) → K (AV.tup [AV.agg [AV.int IntKind.i64 m4, AV.int IntKind.i64 m5], AV.int IntKind.i64 m6])) False) (brc (Option.isSome (dec_made.f m2 (IntKind.wrap IntKind.i64 (a0_1 + a1_1)) m3)) (∀ (m4 : Int), m4 = Prod.fst (gd (dec_made.f m2 (IntKind.wrap IntKind.i64 (a0_1 + a1_1)) m3)) → ∀ (m5 : Int), m5 = Prod.fst (Prod.snd (gd (dec_made.f m2 (IntKind.wrap IntKind.i64 (a0_1 + a1_1)) m3))) → ∀ (m6 : Int), m6 = Prod.snd (Prod.snd (gd (dec_made.f m2 (IntKind.wrap IntKind.i64 (a0_1 + a1_1)) m3))) → K (AV.tup [AV.agg [AV.int IntKind.i64 m4, AV.int IntKind.i64 m5], AV.int IntKind.i64 m6])) False)) False)) False)) False) := by kernel_rfl
set_option maxHeartbeats 1000000 in
set_option maxRecDepth 100000 in
theorem dec_Mul.calls (k : Nat) (a0_0 : Int) (a0_1 : Int) (a1_0 : Int) (a1_1 : Int) (r1 : Int) (r2 : Int) (r3 : Int) (w : World) (h : dec_Mul.f k a0_0 a0_1 a1_0 a1_1 = some (r1, r2, r3)) :
    Calls Try.prog 26 #[.agg #[.int .i64 a0_0, .int .i64 a0_1], .agg #[.int .i64 a1_0, .int .i64 a1_1]] w fun e w' => e = .returned (.tuple #[.agg #[.int .i64 r1, .int .i64 r2], .int .i64 r3]) ∧ Below w.heap.size w w' := by
  refine calls_of_vc (A := [.agg #[.int .i64 a0_0, .int .i64 a0_1], .agg #[.int .i64 a1_0, .int .i64 a1_1]]) (v := .tup [.agg [.int .i64 r1, .int .i64 r2], .int .i64 r3]) (tab_cons (dec_Right.cok) (tab_cons (num_Mul.cok k) (tab_cons (dec_made.cok) (tab_nil)))) ((dec_Mul.vc k a0_0 a0_1 a1_0 a1_1 _).mpr ?_) (by simp [rl_cons, rl_nil, rv_int, rv_bool, rv_str, rv_agg, rv_fn]) (fun ρ V' hV => by simpa [rl_cons, rl_nil, rv_int, rv_bool, rv_str, rv_agg, rv_tup] using hV)
  unfold dec_Mul.f at h
  cases k with
  | zero =>
    (try simp only [dec_Mul.j0] at h)
    (try simp only [bne, Option.bind_eq_some_iff, ite_some_iff] at h)
    (try simp only [bne, brc_iff, wrap_i64])
    first
      | grind (splits := 60) [gd_some]
      | ((repeat' (first | (have or_ : Or _ _ := h; clear or_; rcases h with h | h) | (have or_ : Exists _ := h; clear or_; obtain ⟨_, h⟩ := h) | (have or_ : And _ _ := h; clear or_; obtain ⟨hq_, h⟩ := h))) <;> (try simp only [Option.some.injEq, Prod.mk.injEq, reduceCtorEq] at h) <;> (try subst_vars) <;> first | (simp_all [gd_some] <;> (try omega) <;> done) | grind (splits := 60) [gd_some])
      | (intros; subst_vars; simp_all [gd_some]; done)
  | succ k =>
    (try simp only [dec_Mul.j0] at h)
    (try simp only [bne, Option.bind_eq_some_iff, ite_some_iff] at h)
    (try simp only [bne, brc_iff, wrap_i64])
    first
      | grind (splits := 60) [gd_some, num_Mul.up]
      | ((repeat' (first | (have or_ : Or _ _ := h; clear or_; rcases h with h | h) | (have or_ : Exists _ := h; clear or_; obtain ⟨_, h⟩ := h) | (have or_ : And _ _ := h; clear or_; obtain ⟨hq_, h⟩ := h; (try first | replace hq_ := num_Mul.le (n := k + 1) hq_ (by omega))))) <;> (try simp only [Option.some.injEq, Prod.mk.injEq, reduceCtorEq] at h) <;> (try subst_vars) <;> first | (simp_all [gd_some] <;> (try omega) <;> done) | grind (splits := 60) [gd_some, num_Mul.up])
      | (intros; subst_vars; simp_all [gd_some]; done)
noncomputable def dec_Mul.con (k : Nat) : Con
  | [.agg [.int .i64 a0_0, .int .i64 a0_1], .agg [.int .i64 a1_0, .int .i64 a1_1]] => some ((dec_Mul.f k a0_0 a0_1 a1_0 a1_1).isSome, .tup [.agg [.int .i64 (gd (dec_Mul.f k a0_0 a0_1 a1_0 a1_1)).1, .int .i64 (gd (dec_Mul.f k a0_0 a0_1 a1_0 a1_1)).2.1], .int .i64 (gd (dec_Mul.f k a0_0 a0_1 a1_0 a1_1)).2.2])
  | _ => none
set_option maxRecDepth 100000 in
theorem dec_Mul.cok (k : Nat) : COk Try.prog 26 (dec_Mul.con k) := by
  intro args p v hc hp w A hA
  unfold dec_Mul.con at hc
  split at hc
  · rename_i a0_0 a0_1 a1_0 a1_1
    simp only [Option.some.injEq, Prod.mk.injEq] at hc
    obtain ⟨rfl, rfl⟩ := hc
    rcases hf : dec_Mul.f k a0_0 a0_1 a1_0 a1_1 with _ | ⟨r1, r2, r3⟩
    · rw [hf] at hp; cases hp
    obtain rfl : A = [.agg #[.int .i64 a0_0, .int .i64 a0_1], .agg #[.int .i64 a1_0, .int .i64 a1_1]] := by simpa [rl_cons, rl_nil, rv_int, rv_bool, rv_str, rv_agg, rv_fn] using hA
    exact gives_of_calls (fn := Try.f26) Try.func26 (by kernel_rfl) (by kernel_rfl) (dec_Mul.calls _ _ _ _ _ _ _ _ w hf) (fun _ => by simp [gd_some, rl_cons, rl_nil, rv_int, rv_bool, rv_str, rv_agg, rv_tup]) (fun _ h => h)
  · cases hc
end Go.Proofs.Ytkongoedgngfhaa.P
namespace Go.Proofs.Ytkongoedgngfhaa.P
open Go.RowKit Go.Proofs.YtkongoedgngfhaaW.PrintWords Go.Proofs.YtkongoedgngfhaaW.PrintLast Go.Proofs.YtkongoedgngfhaaW.PrintMore
open Go.Proofs.Ytkongoedgngfhaa.A
attribute [local go_sem] max2_int min2_int max_two min_two max_three min_three max_four min_four   -- for this text's walks alone
set_option linter.unusedVariables false
set_option linter.unusedSimpArgs false
attribute [local go_sem high] eqA25
def computuslaw04_DecTurned.f (k : Nat) (a0_0 : Int) (a0_1 : Int) (a1_0 : Int) (a1_1 : Int) : Option (Bool) := (computuslaw04_given.f a0_0 a0_1).bind fun bt574 => ((computuslaw04_given.f a1_0 a1_1).bind fun bt576 => ((dec_Add.f k bt574.1 bt574.2 bt576.1 bt576.2).bind fun bt578 => ((computuslaw04_given.f a1_0 a1_1).bind fun bt582 => ((computuslaw04_given.f a0_0 a0_1).bind fun bt584 => ((dec_Add.f k bt582.1 bt582.2 bt584.1 bt584.2).bind fun bt586 => ((computuslaw04_given.f a0_0 a0_1).bind fun bt590 => ((computuslaw04_given.f a1_0 a1_1).bind fun bt592 => ((dec_Mul.f k bt590.1 bt590.2 bt592.1 bt592.2).bind fun bt594 => ((computuslaw04_given.f a1_0 a1_1).bind fun bt598 => ((computuslaw04_given.f a0_0 a0_1).bind fun bt600 => ((dec_Mul.f k bt598.1 bt598.2 bt600.1 bt600.2).bind fun bt602 => (if (bt578.1 == bt586.1 && (bt578.2.1 == bt586.2.1)) = true then (if bt578.2.2 = bt586.2.2 then (if (bt594.1 == bt602.1 && (bt594.2.1 == bt602.2.1)) = true then (if bt594.2.2 = bt602.2.2 then ((computuslaw04_given.f a0_0 a0_1).bind fun bt606 => ((computuslaw04_given.f a1_0 a1_1).bind fun bt608 => ((dec_Cmp.f k bt606.1 bt606.2 bt608.1 bt608.2).bind fun t610 => ((computuslaw04_given.f a1_0 a1_1).bind fun bt611 => ((computuslaw04_given.f a0_0 a0_1).bind fun bt613 => ((dec_Cmp.f k bt611.1 bt611.2 bt613.1 bt613.2).bind fun t615 => (if t610 = (wrap64 (-t615)) then ((computuslaw04_known.f k).bind fun t616 => (some t616)) else (some false)))))))) else (some false)) else (some false)) else (some false)) else (some false)))))))))))))
set_option maxRecDepth 100000 in
theorem computuslaw04_DecTurned.vc (k : Nat) (a0_0 : Int) (a0_1 : Int) (a1_0 : Int) (a1_1 : Int) (K : AV → Prop) : afv PA Try.prog (tab [(10, computuslaw04_given.con), (16, computuslaw04_known.con k), (18, dec_Add.con k), (25, dec_Cmp.con k), (26, dec_Mul.con k)]) noLoops 2 7 [.agg [.int .i64 a0_0, .int .i64 a0_1], .agg [.int .i64 a1_0, .int .i64 a1_1]] K = (brc (Option.isSome (computuslaw04_given.f a0_0 a0_1)) (∀ (m0 : Int), m0 = Prod.fst (gd (computuslaw04_given.f a0_0 a0_1)) → ∀ (m1 : Int), m1 = Prod.snd (gd (computuslaw04_given.f a0_0 a0_1)) → brc (Option.isSome (computuslaw04_given.f a1_0 a1_1)) (∀ (m2 : Int), m2 = Prod.fst (gd (computuslaw04_given.f a1_0 a1_1)) → ∀ (m3 : Int), m3 = Prod.snd (gd (computuslaw04_given.f a1_0 a1_1)) → brc (Option.isSome (dec_Add.f k m0 m1 m2 m3)) (∀ (m4 : Int), m4 = Prod.fst (gd (dec_Add.f k m0 m1 m2 m3)) → ∀ (m5 : Int), m5 = Prod.fst (Prod.snd (gd (dec_Add.f k m0 m1 m2 m3))) → ∀ (m6 : Int), m6 = Prod.snd (Prod.snd (gd (dec_Add.f k m0 m1 m2 m3))) → brc (Option.isSome (computuslaw04_given.f a1_0 a1_1)) (∀ (m7 : Int), m7 = Prod.fst (gd (computuslaw04_given.f a1_0 a1_1)) → ∀ (m8 : Int), m8 = Prod.snd (gd (computuslaw04_given.f a1_0 a1_1)) → brc (Option.isSome (computuslaw04_given.f a0_0 a0_1)) (∀ (m9 : Int), m9 = Prod.fst (gd (computuslaw04_given.f a0_0 a0_1)) → ∀ (m10 : Int), m10 = Prod.snd (gd (computuslaw04_given.f a0_0 a0_1)) → brc (Option.isSome (dec_Add.f k m7 m8 m9 m10)) (∀ (m11 : Int), m11 = Prod.fst (gd (dec_Add.f k m7 m8 m9 m10)) → ∀ (m12 : Int), m12 = Prod.fst (Prod.snd (gd (dec_Add.f k m7 m8 m9 m10))) → ∀ (m13 : Int), m13 = Prod.snd (Prod.snd (gd (dec_Add.f k m7 m8 m9 m10))) → brc (Option.isSome (computuslaw04_given.f a0_0 a0_1)) (∀ (m14 : Int), m14 = Prod.fst (gd (computuslaw04_given.f a0_0 a0_1)) → ∀ (m15 : Int), m15 = Prod.snd (gd (computuslaw04_given.f a0_0 a0_1)) → brc (Option.isSome (computuslaw04_given.f a1_0 a1_1)) (∀ (m16 : Int), m16 = Prod.fst (gd (computuslaw04_given.f a1_0 a1_1)) → ∀ (m17 : Int), m17 = Prod.snd (gd (computuslaw04_given.f a1_0 a1_1)) → brc (Option.isSome (dec_Mul.f k m14 m15 m16 m17)) (∀ (m18 : Int), m18 = Prod.fst (gd (dec_Mul.f k m14 m15 m16 m17)) → ∀ (m19 : Int), m19 = Prod.fst (Prod.snd (gd (dec_Mul.f k m14 m15 m16 m17))) → ∀ (m20 : Int), m20 = Prod.snd (Prod.snd (gd (dec_Mul.f k m14 m15 m16 m17))) → brc (Option.isSome (computuslaw04_given.f a1_0 a1_1)) (∀ (m21 : Int), m21 = Prod.fst (gd (computuslaw04_given.f a1_0 a1_1)) → ∀ (m22 : Int), m22 = Prod.snd (gd (computuslaw04_given.f a1_0 a1_1)) → brc (Option.isSome (computuslaw04_given.f a0_0 a0_1)) (∀ (m23 : Int), m23 = Prod.fst (gd (computuslaw04_given.f a0_0 a0_1)) → ∀ (m24 : Int), m24 = Prod.snd (gd (computuslaw04_given.f a0_0 a0_1)) → brc (Option.isSome (dec_Mul.f k m21 m22 m23 m24)) (∀ (m25 : Int), m25 = Prod.fst (gd (dec_Mul.f k m21 m22 m23 m24)) → ∀ (m26 : Int), m26 = Prod.fst (Prod.snd (gd (dec_Mul.f k m21 m22 m23 m24))) → ∀ (m27 : Int), m27 = Prod.snd (Prod.snd (gd (dec_Mul.f k m21 m22 m23 m24))) → brc (m4 == m11 && (m5 == m12 && true)) (brc (m6 == m13) (brc (m18 == m25 && (m19 == m26 && true)) (brc (m20 == m27) (brc (Option.isSome (computuslaw04_given.f a0_0 a0_1)) (∀ (m28 : Int), m28 = Prod.fst (gd (computuslaw04_given.f a0_0 a0_1)) → ∀ (m29 : Int), m29 = Prod.snd (gd (computuslaw04_given.f a0_0 a0_1)) → brc (Option.isSome (computuslaw04_given.f a1_0 a1_1)) (∀ (m30 : Int), m30 = Prod.fst (gd (computuslaw04_given.f a1_0 a1_1)) → ∀ (m31 : Int), m31 = Prod.snd (gd (computuslaw04_given.f a1_0 a1_1)) → brc (Option.isSome (dec_Cmp.f k m28 m29 m30 m31)) (∀ (m32 : Int), m32 = gd (dec_Cmp.f k m28 m29 m30 m31) → brc (Option.isSome (computuslaw04_given.f a1_0 a1_1)) (∀ (m33 : Int), m33 = Prod.fst (gd (computuslaw04_given.f a1_0 a1_1)) → ∀ (m34 : Int), m34 = Prod.snd (gd (computuslaw04_given.f a1_0 a1_1)) → brc (Option.isSome (computuslaw04_given.f a0_0 a0_1)) (∀ (m35 : Int), m35 = Prod.fst (gd (computuslaw04_given.f a0_0 a0_1)) → ∀ (m36 : Int), m36 = Prod.snd (gd (computuslaw04_given.f a0_0 a0_1)) → brc (Option.isSome (dec_Cmp.f k m33 m34 m35 m36)) (∀ (m37 : Int), m37 = gd (dec_Cmp.f k m33 m34 m35 m36) → brc (m32 == IntKind.wrap IntKind.i64 (0 - m37)) (brc (decide (computuslaw04_known.f k = some true)) (∀ (m38 : Bool), m38 = true → K (AV.bool m38)) False) (K (AV.bool false))) False) False) False) False) False) False) (K (AV.bool false))) (K (AV.bool false))) (K (AV.bool false))) (K (AV.bool false))) False) False) False) False) False) False) False) False) False) False) False) False) := by kernel_rfl
set_option maxHeartbeats 1000000 in
set_option maxRecDepth 100000 in
theorem computuslaw04_DecTurned.calls (k : Nat) (a0_0 : Int) (a0_1 : Int) (a1_0 : Int) (a1_1 : Int) (r : Bool) (w : World) (h : computuslaw04_DecTurned.f k a0_0 a0_1 a1_0 a1_1 = some r) (hR : r = true) :
    Calls Try.prog 7 #[.agg #[.int .i64 a0_0, .int .i64 a0_1], .agg #[.int .i64 a1_0, .int .i64 a1_1]] w fun e w' => e = .returned (.bool r) ∧ Below w.heap.size w w' := by
  refine calls_of_vc (A := [.agg #[.int .i64 a0_0, .int .i64 a0_1], .agg #[.int .i64 a1_0, .int .i64 a1_1]]) (v := .bool r) (tab_cons (computuslaw04_given.cok) (tab_cons (computuslaw04_known.cok k) (tab_cons (dec_Add.cok k) (tab_cons (dec_Cmp.cok k) (tab_cons (dec_Mul.cok k) (tab_nil)))))) ((computuslaw04_DecTurned.vc k a0_0 a0_1 a1_0 a1_1 _).mpr ?_) (by simp [rl_cons, rl_nil, rv_int, rv_bool, rv_str, rv_agg, rv_fn]) (fun ρ V' hV => by simpa [rl_cons, rl_nil, rv_int, rv_bool, rv_str, rv_agg, rv_tup] using hV)
  unfold computuslaw04_DecTurned.f at h
  (try simp only [bne, Option.bind_eq_some_iff, ite_some_iff] at h)
  (try simp only [bne, brc_iff, wrap_i64])
  first
    | grind (splits := 60) [gd_some]
    | ((repeat' (first | (have or_ : Or _ _ := h; clear or_; rcases h with h | h) | (have or_ : Exists _ := h; clear or_; obtain ⟨_, h⟩ := h) | (have or_ : And _ _ := h; clear or_; obtain ⟨hq_, h⟩ := h))) <;> (try simp only [Option.some.injEq, Prod.mk.injEq, reduceCtorEq] at h) <;> (try subst_vars) <;> first | (simp_all [gd_some] <;> (try omega) <;> rcases hb0 : decide (computuslaw04_known.f k = some true) with _ | _ <;> simp_all [gd_some] <;> done) | grind (splits := 60) [gd_some])
    | (intros; subst_vars; simp_all [gd_some]; done)
/-- THE ONE PURE STATEMENT of computuslaw04_DecTurned: yours. -/
def computuslaw04_DecTurned.Pure : Prop := ∀ (a0_0 : Int) (a0_1 : Int) (a1_0 : Int) (a1_1 : Int), (Lit.int .i64 a0_0).wf = true → (Lit.int .i64 a0_1).wf = true → (Lit.int .i64 a1_0).wf = true → (Lit.int .i64 a1_1).wf = true → ∃ k, computuslaw04_DecTurned.f k a0_0 a0_1 a1_0 a1_1 = some true
theorem computuslaw04_DecTurned.walk (P : computuslaw04_DecTurned.Pure) (a0_0 : Int) (a0_1 : Int) (a1_0 : Int) (a1_1 : Int) (w : World) (w0_0 : (Lit.int .i64 a0_0).wf = true) (w0_1 : (Lit.int .i64 a0_1).wf = true) (w1_0 : (Lit.int .i64 a1_0).wf = true) (w1_1 : (Lit.int .i64 a1_1).wf = true) :
    Calls Try.prog 7 #[.agg #[.int .i64 a0_0, .int .i64 a0_1], .agg #[.int .i64 a1_0, .int .i64 a1_1]] w fun e w' => e = .returned (.bool true) ∧ Below w.heap.size w w' := by
  obtain ⟨k, h⟩ := P a0_0 a0_1 a1_0 a1_1 w0_0 w0_1 w1_0 w1_1
  refine (computuslaw04_DecTurned.calls k a0_0 a0_1 a1_0 a1_1 true w h rfl).mono ?_
  rintro e w' ⟨rfl, hd⟩
  exact ⟨rfl, hd⟩
end Go.Proofs.Ytkongoedgngfhaa.P
namespace Go.Proofs.Ytkongoedgngfhaa.Civ
set_option linter.unusedVariables false
set_option linter.unusedSimpArgs false
open Go.RowKit Go.Proofs.YtkongoedgngfhaaW.PrintWords Go.Proofs.YtkongoedgngfhaaW.PrintLast Go.Proofs.YtkongoedgngfhaaW.PrintMore
theorem w64 {x : Int} (h1 : -9223372036854775808 ≤ x) (h2 : x ≤ 9223372036854775807) : wrap64 x = x := by unfold wrap64; omega
/-- A number is one of 64 bits. -/
def I64 (x : Int) : Prop := -9223372036854775808 ≤ x ∧ x ≤ 9223372036854775807
theorem i64_of_wf {x : Int} (h : (Lit.int .i64 x).wf = true) : I64 x := by
  simp only [Lit.wf, IntKind.min, IntKind.max, IntKind.signed, IntKind.bits, Bool.and_eq_true, decide_eq_true_eq, if_true] at h
  exact h
theorem wrap_i64 (x : Int) : I64 (wrap64 x) := by unfold I64 wrap64; omega
theorem w64_of {x : Int} (h : I64 x) : wrap64 x = x := w64 h.1 h.2
theorem td_pos {a b : Int} (ha : 0 ≤ a) : Int.tdiv a b = a / b := Int.tdiv_eq_ediv_of_nonneg ha
theorem tm_pos {a b : Int} (ha : 0 ≤ a) : Int.tmod a b = a % b := Int.tmod_eq_emod_of_nonneg ha
theorem td_neg {a b : Int} (ha : a ≤ 0) : Int.tdiv a b = -((-a) / b) := by
  have : Int.tdiv (-a) b = (-a) / b := Int.tdiv_eq_ediv_of_nonneg (by omega)
  rw [← this, Int.neg_tdiv, Int.neg_neg]
theorem tm_neg {a b : Int} (ha : a ≤ 0) : Int.tmod a b = -((-a) % b) := by
  have : Int.tmod (-a) b = (-a) % b := Int.tmod_eq_emod_of_nonneg (by omega)
  rw [← this, Int.neg_tmod, Int.neg_neg]
/-- Cut division against floored division. -/
theorem cut_floor (a : Int) {b : Int} (hb : 0 < b) : (Int.tmod a b < 0 → Int.tdiv a b = a / b + 1 ∧ Int.tmod a b = a % b - b ∧ 0 < a % b) ∧ (¬ Int.tmod a b < 0 → Int.tdiv a b = a / b ∧ Int.tmod a b = a % b) := by
  rcases Int.le_total 0 a with h | h
  · rw [td_pos h, tm_pos h]
    have := Int.emod_nonneg a (Int.ne_of_gt hb)
    exact ⟨fun h => by omega, fun _ => ⟨rfl, rfl⟩⟩
  · rw [td_neg h, tm_neg h]
    have e := Int.mul_ediv_add_emod (-a) b
    have h1 := Int.emod_nonneg (-a) (Int.ne_of_gt hb)
    have h2 := Int.emod_lt_of_pos (-a) hb
    generalize (-a) / b = q at *
    generalize (-a) % b = r at *
    constructor
    · intro hr
      have := (Int.ediv_emod_unique (a := a) (b := b) (r := b - r) (q := -q - 1) hb).2 ⟨by rw [Int.mul_sub, Int.mul_neg]; omega, by omega, by omega⟩
      omega
    · intro hr
      have := (Int.ediv_emod_unique (a := a) (b := b) (r := 0) (q := -q) hb).2 ⟨by rw [Int.mul_neg]; omega, by omega, by omega⟩
      omega
theorem ediv_i64 {a b : Int} (ha : I64 a) (hb : 0 < b) : -9223372036854775808 ≤ a / b ∧ a / b ≤ 9223372036854775807 := by
  obtain ⟨h1, h2⟩ := ha
  have e := Int.mul_ediv_add_emod a b
  have g1 := Int.emod_nonneg a (Int.ne_of_gt hb)
  have g2 := Int.emod_lt_of_pos a hb
  constructor
  · rw [Int.le_ediv_iff_mul_le hb]
    have : -9223372036854775808 * b ≤ -9223372036854775808 * 1 := Int.mul_le_mul_of_nonpos_left (by omega) (by omega)
    omega
  · rcases Int.lt_or_le a 0 with h | h
    · have : a / b < 0 := Int.ediv_lt_of_lt_mul hb (by omega)
      omega
    · have := Int.ediv_le_self b h; omega
theorem Ev.at1 {α : Type} {g : Nat → Option α} {r : α} (h : ∀ k, g (k + 1) = some r) : Ev g r :=
  ⟨1, fun k hk => by obtain ⟨m, rfl⟩ : ∃ m, k = m + 1 := ⟨k - 1, by omega⟩; exact h m⟩
theorem Ev.cast {α : Type} {g : Nat → Option α} {r r' : α} (h : Ev g r) (e : r = r') : Ev g r' := e ▸ h
/-- What is told without rounds, and then what hangs on rounds. -/
theorem Ev.bind0 {α β : Type} {g : Option α} {f : Nat → α → Option β} {a : α} {r : β} (h : g = some a) (k : Ev (fun n => f n a) r) : Ev (fun n => g.bind (f n)) r := by
  subst h; exact k
/-- One round, as it stands. -/
theorem Ev.succ {α : Type} {g : Nat → Option α} {r : α} (h : Ev (fun k => g (k + 1)) r) : Ev g r := Ev.step (f := fun k => g (k + 1)) (fun _ => rfl) h
theorem Ev.pos {α : Type} {c : Prop} [Decidable c] {f g : Nat → Option α} {r : α} (h : c) (k : Ev f r) : Ev (fun n => if c then f n else g n) r := by
  simpa only [if_pos h] using k
theorem Ev.neg {α : Type} {c : Prop} [Decidable c] {f g : Nat → Option α} {r : α} (h : ¬ c) (k : Ev g r) : Ev (fun n => if c then f n else g n) r := by
  simpa only [if_neg h] using k
end Go.Proofs.Ytkongoedgngfhaa.Civ
namespace Go.Proofs.Ytkongoedgngfhaa.Civ
set_option linter.unusedVariables false
set_option linter.unusedSimpArgs false
open Go.RowKit Go.Proofs.YtkongoedgngfhaaW.PrintWords Go.Proofs.YtkongoedgngfhaaW.PrintLast Go.Proofs.YtkongoedgngfhaaW.PrintMore Go.Proofs.Ytkongoedgngfhaa.P
theorem u64m (x : Int) : IntKind.u64.wrap x = x % 18446744073709551616 := by simp [IntKind.wrap, IntKind.bits, IntKind.signed]
theorem u64w {x : Int} (h1 : 0 ≤ x) (h2 : x ≤ 18446744073709551615) : IntKind.u64.wrap x = x := by rw [u64m]; omega
theorem wraps_u64 (n : Int) (h₀ : 0 ≤ n) (h₁ : n < 2 ^ 64) : IntKind.u64.wrap n = n := by rw [u64m]; omega
theorem and32 {x : Int} (h1 : 0 ≤ x) (h2 : x ≤ 18446744073709551615) : Go.bits .and .u64 x 4294967295 = x % 4294967296 :=
  bits_mask .u64 64 (by decide) wraps_u64 32 (by decide) x h1 (by omega)
end Go.Proofs.Ytkongoedgngfhaa.Civ
namespace Go.Proofs.Ytkongoedgngfhaa.Civ
set_option linter.unusedVariables false
set_option linter.unusedSimpArgs false
open Go.RowKit Go.Proofs.YtkongoedgngfhaaW.PrintWords Go.Proofs.YtkongoedgngfhaaW.PrintLast Go.Proofs.YtkongoedgngfhaaW.PrintMore Go.Proofs.Ytkongoedgngfhaa.P
instance (x : Int) : Decidable (I64 x) := inferInstanceAs (Decidable (_ ∧ _))
/-- A number, if it is one of 64 bits; else out of range. -/
def out (z : Int) : Int × Int := if I64 z then (z, 0) else (0, 10)
theorem out_in {z : Int} (h : I64 z) : out z = (z, 0) := if_pos h
theorem out_no {z : Int} (h : ¬ I64 z) : out z = (0, 10) := if_neg h
theorem add_eq (a b : Int) (ha : I64 a) (hb : I64 b) : num_Add.f a b = some (out (a + b)) := by
  unfold num_Add.f out
  by_cases h : I64 (a + b)
  · rw [if_pos h, w64_of h, if_neg]
    simp only [bne_iff_ne, ne_eq, Decidable.not_not]
    apply decide_eq_decide.2; omega
  · rw [if_neg h, if_pos]
    unfold I64 at *
    have hw : wrap64 (a + b) = a + b - 18446744073709551616 ∨ wrap64 (a + b) = a + b + 18446744073709551616 := by unfold wrap64; omega
    simp only [bne_iff_ne, ne_eq, decide_eq_decide]
    unfold wrap64 at *
    omega
/-- Without a sign. -/
def ab (a : Int) : Int := if a < 0 then -a else a
theorem ab_bd {a : Int} (h : I64 a) : 0 ≤ ab a ∧ ab a ≤ 9223372036854775808 := by unfold ab; unfold I64 at h; split <;> omega
theorem ab_pos {a : Int} (h : 0 ≤ a) : ab a = a := by unfold ab; rw [if_neg (by omega)]
theorem ab_neg {a : Int} (h : a < 0) : ab a = -a := by unfold ab; rw [if_pos h]
theorem size_eq (a : Int) (ha : I64 a) : num_size.f a = some (ab a) := by
  unfold num_size.f ab
  unfold I64 at ha
  by_cases h : a < 0
  · rw [if_pos h, if_pos h, u64m, u64m]; congr 1; omega
  · rw [if_neg h, if_neg h, u64m]; congr 1; omega
theorem mul_bd {x y a b : Int} (hx : 0 ≤ x) (hxa : x ≤ a) (hy : 0 ≤ y) (hyb : y ≤ b) : 0 ≤ x * y ∧ x * y ≤ a * b :=
  ⟨Int.mul_nonneg hx hy, Int.mul_le_mul hxa hyb hy (by omega)⟩
theorem mul64_eq (x y : Int) (hx : 0 ≤ x) (hx1 : x ≤ 18446744073709551615) (hy : 0 ≤ y) (hy1 : y ≤ 18446744073709551615) :
    bits_Mul64.f x y = some (x * y / 18446744073709551616, x * y % 18446744073709551616) := by
  unfold bits_Mul64.f
  rw [and32 hx hx1, and32 hy hy1]
  have ex : x = x / 4294967296 * 4294967296 + x % 4294967296 := by omega
  have ey : y = y / 4294967296 * 4294967296 + y % 4294967296 := by omega
  have bx1 : 0 ≤ x / 4294967296 ∧ x / 4294967296 ≤ 4294967295 := by omega
  have bx0 : 0 ≤ x % 4294967296 ∧ x % 4294967296 ≤ 4294967295 := by omega
  have by1 : 0 ≤ y / 4294967296 ∧ y / 4294967296 ≤ 4294967295 := by omega
  have by0 : 0 ≤ y % 4294967296 ∧ y % 4294967296 ≤ 4294967295 := by omega
  have p11 := mul_bd bx1.1 bx1.2 by1.1 by1.2
  have p10 := mul_bd bx1.1 bx1.2 by0.1 by0.2
  have p01 := mul_bd bx0.1 bx0.2 by1.1 by1.2
  have p00 := mul_bd bx0.1 bx0.2 by0.1 by0.2
  have e : x * y = x / 4294967296 * (y / 4294967296) * 18446744073709551616 + (x / 4294967296 * (y % 4294967296) + x % 4294967296 * (y / 4294967296)) * 4294967296 + x % 4294967296 * (y % 4294967296) := by
    conv => lhs; rw [ex, ey]
    simp only [Int.mul_add, Int.add_mul]
    have c1 : x / 4294967296 * 4294967296 * (y / 4294967296 * 4294967296) = x / 4294967296 * (y / 4294967296) * 18446744073709551616 := by
      rw [Int.mul_assoc, Int.mul_left_comm 4294967296, ← Int.mul_assoc (x / 4294967296)]; rfl
    have c2 : x % 4294967296 * (y / 4294967296 * 4294967296) = x % 4294967296 * (y / 4294967296) * 4294967296 := by rw [Int.mul_assoc]
    have c3 : x / 4294967296 * 4294967296 * (y % 4294967296) = x / 4294967296 * (y % 4294967296) * 4294967296 := by rw [Int.mul_assoc, Int.mul_comm 4294967296, ← Int.mul_assoc]
    rw [c1, c2, c3]; omega
  generalize x * y = P at *
  generalize x / 4294967296 * (y / 4294967296) = P11 at *
  generalize x / 4294967296 * (y % 4294967296) = P10 at *
  generalize x % 4294967296 * (y / 4294967296) = P01 at *
  generalize x % 4294967296 * (y % 4294967296) = P00 at *
  clear ex ey bx1 bx0 by1 by0 hx hx1 hy hy1
  rw [u64w (x := P11) (by omega) (by omega), u64w (x := P10) (by omega) (by omega), u64w (x := P00) (by omega) (by omega), u64w (x := P01) (by omega) (by omega)]
  have t : 0 ≤ P00 / 4294967296 ∧ P00 / 4294967296 ≤ 4294967295 := by omega
  rw [u64w (x := P10 + P00 / 4294967296) (by omega) (by omega), and32 (by omega) (by omega)]
  obtain ⟨T, hT⟩ : ∃ T, P10 + P00 / 4294967296 = T := ⟨_, rfl⟩
  rw [hT]
  rw [u64w (x := T % 4294967296 + P01) (by omega) (by omega), u64w (x := P11 + T / 4294967296) (by omega) (by omega), u64w (x := P11 + T / 4294967296 + (T % 4294967296 + P01) / 4294967296) (by omega) (by omega), u64m]
  congr 2
  omega
theorem product_eq (a b : Int) (ha : I64 a) (hb : I64 b) : num_product.f a b = some (ab a * ab b / 18446744073709551616, ab a * ab b % 18446744073709551616) := by
  have h1 := ab_bd ha
  have h2 := ab_bd hb
  unfold num_product.f
  rw [size_eq a ha, size_eq b hb]
  simp only [Option.bind_some]
  rw [mul64_eq _ _ h1.1 (by omega) h2.1 (by omega)]
  rfl
theorem signed_eq (k : Nat) (neg : Bool) (hi lo : Int) (h0 : 0 ≤ hi) (h1 : 0 ≤ lo) (h2 : lo ≤ 18446744073709551615) :
    num_signed.f (k + 1) neg hi lo = some (out (if neg = true then -(hi * 18446744073709551616 + lo) else hi * 18446744073709551616 + lo)) := by
  unfold num_signed.f
  by_cases hh : hi = 0
  · subst hh
    rw [if_pos rfl]
    cases neg with
    | true =>
      simp only [if_true, num_signed.j0]
      by_cases g : lo ≤ 9223372036854775808
      · rw [decide_eq_true g, if_pos rfl, out_in (by unfold I64; omega), u64m]
        congr 2; unfold wrap64; omega
      · rw [decide_eq_false g, if_neg (by simp), out_no (by unfold I64; omega)]
    | false =>
      simp only [num_signed.j0, Bool.false_eq_true, if_false]
      by_cases g : lo > 9223372036854775807
      · rw [if_pos g, out_no (by unfold I64; omega)]
      · rw [if_neg g, out_in (by unfold I64; omega), w64 (by omega) (by omega)]
        congr 2; omega
  · rw [if_neg hh]
    cases neg with
    | true => rw [if_pos rfl, out_no (by unfold I64; omega)]
    | false => rw [if_neg (by simp), out_no (by unfold I64; omega)]
/-- The sign of a product. -/
theorem mul_sign (a b : Int) : (if ((decide (a < 0)) != (decide (b < 0))) = true then -(ab a * ab b) else ab a * ab b) = a * b := by
  by_cases h1 : a < 0
  · by_cases h2 : b < 0
    · rw [decide_eq_true h1, decide_eq_true h2, if_neg (by simp), ab_neg h1, ab_neg h2, Int.neg_mul_neg]
    · rw [decide_eq_true h1, decide_eq_false h2, if_pos (by simp), ab_neg h1, ab_pos (by omega), Int.neg_mul, Int.neg_neg]
  · by_cases h2 : b < 0
    · rw [decide_eq_false h1, decide_eq_true h2, if_pos (by simp), ab_pos (by omega), ab_neg h2, Int.mul_neg, Int.neg_neg]
    · rw [decide_eq_false h1, decide_eq_false h2, if_neg (by simp), ab_pos (by omega), ab_pos (by omega)]
theorem mul_eq (k : Nat) (a b : Int) (ha : I64 a) (hb : I64 b) : num_Mul.f (k + 1) a b = some (out (a * b)) := by
  have h1 := ab_bd ha
  have h2 := ab_bd hb
  have h3 := mul_bd h1.1 h1.2 h2.1 h2.2
  unfold num_Mul.f
  rw [product_eq a b ha hb]
  simp only [Option.bind_some]
  rw [signed_eq _ _ _ _ (by omega) (by omega) (by omega)]
  simp only [Option.bind_some]
  rw [show ab a * ab b / 18446744073709551616 * 18446744073709551616 + ab a * ab b % 18446744073709551616 = ab a * ab b by omega, mul_sign]
/-- How often, the greatest whole number that is not above; what is left. -/
def fl (a b : Int) : Int := if b < 0 then (-a) / (-b) else a / b
def md (a b : Int) : Int := if b < 0 then -((-a) % (-b)) else a % b
theorem fl_unique {a b q r : Int} (h : a = b * q + r) (hr : (0 ≤ r ∧ r < b) ∨ (b < r ∧ r ≤ 0)) : fl a b = q ∧ md a b = r := by
  unfold fl md
  by_cases hb : b < 0
  · rw [if_pos hb, if_pos hb]
    have := (Int.ediv_emod_unique (a := -a) (b := -b) (r := -r) (q := q) (by omega)).2 ⟨by rw [Int.neg_mul]; omega, by omega, by omega⟩
    omega
  · rw [if_neg hb, if_neg hb]
    have := (Int.ediv_emod_unique (a := a) (b := b) (r := r) (q := q) (by omega)).2 ⟨by omega, by omega, by omega⟩
    omega
theorem div64_small (k : Nat) (lo y : Int) (h0 : 0 < y) (h1 : 0 ≤ lo) (h2 : lo ≤ 18446744073709551615) : bits_Div64.f k 0 lo y = some (lo / y, lo % y) := by
  unfold bits_Div64.f
  rw [if_neg (by omega), if_neg (by omega), if_pos rfl, td_pos h1, tm_pos h1]
  have := Int.ediv_le_self y h1
  have := Int.ediv_nonneg h1 (b := y) (by omega)
  rw [u64w (by omega) (by omega)]
/-- Of a product without signs, and how often a number without a sign is there: with the signs. -/
theorem fl_signs {a b c P D : Int} (hP : ab a * ab b = P) (hD : ab c = D) (hc : c ≠ 0) :
    fl (a * b) c = if (((decide (a < 0)) != (decide (b < 0))) != (decide (c < 0))) = true then (if P % D = 0 then -(P / D) else -(P / D) - 1) else P / D := by
  have hs := mul_sign a b
  rw [hP] at hs
  have hD0 : 0 < D := by rw [← hD]; unfold ab; split <;> omega
  have e := Int.mul_ediv_add_emod P D
  have r0 := Int.emod_nonneg P (Int.ne_of_gt hD0)
  have r1 := Int.emod_lt_of_pos P hD0
  have hP0 : ((decide (a < 0)) != (decide (b < 0))) = true → a * b = -P := fun h => by rw [if_pos h] at hs; exact hs.symm
  have hP1 : ((decide (a < 0)) != (decide (b < 0))) = false → a * b = P := fun h => by rw [if_neg (by rw [h]; simp)] at hs; exact hs.symm
  generalize ((decide (a < 0)) != (decide (b < 0))) = s at *
  generalize P / D = q at *
  generalize P % D = r at *
  have em : D * (q + 1) = D * q + D := by rw [Int.mul_add, Int.mul_one]
  by_cases h3 : c < 0
  · rw [ab_neg h3] at hD
    rw [decide_eq_true h3]
    cases s with
    | true =>
      rw [if_neg (by simp), hP0 rfl]
      exact (fl_unique (r := -r) (by rw [← e, show c = -D by omega, Int.neg_mul]; omega) (by omega)).1
    | false =>
      rw [if_pos (by simp), hP1 rfl]
      by_cases hr : r = 0
      · rw [if_pos hr]
        exact (fl_unique (r := 0) (by rw [← e, show c = -D by omega, Int.neg_mul_neg]; omega) (by omega)).1
      · rw [if_neg hr]
        exact (fl_unique (r := r - D) (by rw [← e, show c = -D by omega, show -q - 1 = -(q + 1) by omega, Int.neg_mul_neg]; omega) (by omega)).1
  · rw [ab_pos (by omega)] at hD
    subst hD
    rw [decide_eq_false h3]
    cases s with
    | true =>
      rw [if_pos (by simp), hP0 rfl]
      by_cases hr : r = 0
      · rw [if_pos hr]
        exact (fl_unique (r := 0) (by rw [← e, Int.mul_neg]; omega) (by omega)).1
      · rw [if_neg hr]
        exact (fl_unique (r := c - r) (by rw [← e, show -q - 1 = -(q + 1) by omega, Int.mul_neg]; omega) (by omega)).1
    | false =>
      rw [if_neg (by simp), hP1 rfl]
      exact (fl_unique (r := r) (by omega) (by omega)).1
theorem add64_eq (x : Int) (h0 : 0 ≤ x) : bits_Add64.f x 1 0 = some ((x + 1) % 18446744073709551616, (x + 1) / 18446744073709551616) := by
  unfold bits_Add64.f
  rw [if_pos h0, if_pos (by omega), if_pos (by omega), if_pos (by omega), Int.add_zero]
/-- One number times another one, and how often a third one is there: if the division of 128 bits by 64 is as it is. -/
theorem scale_of (k : Nat) (a b c : Int) (ha : I64 a) (hb : I64 b) (hc : I64 c) (h0 : c ≠ 0)
    (hd : ab a * ab b / 18446744073709551616 < ab c → bits_Div64.f (k + 1) (ab a * ab b / 18446744073709551616) (ab a * ab b % 18446744073709551616) (ab c) = some (ab a * ab b / ab c, ab a * ab b % ab c)) :
    num_Scale.f (k + 1) a b c = some (out (fl (a * b) c)) := by
  have h1 := ab_bd ha
  have h2 := ab_bd hb
  have h3 := ab_bd hc
  have h4 := mul_bd h1.1 h1.2 h2.1 h2.2
  have hD0 : 0 < ab c := by unfold ab; split <;> omega
  rw [fl_signs rfl rfl h0]
  unfold num_Scale.f
  rw [if_neg h0, product_eq a b ha hb, size_eq c hc]
  simp only [Option.bind_some]
  generalize hP : ab a * ab b = P at *
  generalize hD : ab c = D at *
  have e := Int.mul_ediv_add_emod P D
  have r0 := Int.emod_nonneg P (Int.ne_of_gt hD0)
  have r1 := Int.emod_lt_of_pos P hD0
  have q0 : 0 ≤ P / D := Int.ediv_nonneg h4.1 (by omega)
  by_cases hl : P / 18446744073709551616 ≥ D
  · rw [if_pos hl]
    have hq : 18446744073709551616 ≤ P / D := by
      rw [Int.le_ediv_iff_mul_le hD0]; omega
    split
    · split
      · rw [out_no (by unfold I64; omega)]
      · rw [out_no (by unfold I64; omega)]
    · rw [out_no (by unfold I64; omega)]
  · rw [if_neg hl, hd (by omega)]
    simp only [Option.bind_some]
    have hq : P / D < 18446744073709551616 := Int.ediv_lt_of_lt_mul hD0 (by omega)
    generalize P / D = q at *
    generalize P % D = r at *
    by_cases hs : (((decide (a < 0)) != (decide (b < 0))) != (decide (c < 0))) = true
    · rw [if_pos hs, if_pos hs, hs]
      by_cases hr : r = 0
      · rw [if_pos hr, if_pos hr, signed_eq _ _ _ _ (by omega) (by omega) (by omega), if_pos rfl]
        simp only [Option.bind_some]
        rw [show (0 : Int) * 18446744073709551616 + q = q by omega]
      · rw [if_neg hr, if_neg hr, add64_eq _ q0]
        simp only [Option.bind_some]
        rw [signed_eq _ _ _ _ (by omega) (by omega) (by omega), if_pos rfl]
        simp only [Option.bind_some]
        rw [show (q + 1) / 18446744073709551616 * 18446744073709551616 + (q + 1) % 18446744073709551616 = q + 1 by omega, show -(q + 1) = -q - 1 by omega]
    · rw [if_neg hs, if_neg hs, signed_eq _ _ _ _ (by omega) (by omega) (by omega), if_neg hs]
      simp only [Option.bind_some]
      rw [show (0 : Int) * 18446744073709551616 + q = q by omega]
theorem div_eq (k : Nat) (a c : Int) (ha : I64 a) (hc : I64 c) (h0 : c ≠ 0) : num_Div.f (k + 1) a c = some (out (fl a c)) := by
  have h1 := ab_bd ha
  have h3 := ab_bd hc
  have hD0 : 0 < ab c := by unfold ab; split <;> omega
  unfold num_Div.f
  rw [scale_of k a 1 c ha (by unfold I64; omega) hc h0 (fun _ => ?_)]
  · simp only [Option.bind_some, Int.mul_one]
  · rw [ab_pos (a := 1) (by omega), Int.mul_one, show ab a / 18446744073709551616 = 0 by omega, show ab a % 18446744073709551616 = ab a by omega]
    exact div64_small _ _ _ hD0 h1.1 (by omega)
theorem mod_eq (a b : Int) (ha : I64 a) (hb : I64 b) (h0 : b ≠ 0) : num_Mod.f a b = some (md a b, 0) := by
  unfold num_Mod.f
  rw [if_neg h0]
  by_cases h1 : b = -1
  · rw [if_pos h1]
    have : md a b = 0 := by unfold md; rw [if_pos (by omega), h1]; simp
    rw [this]
  rw [if_neg h1]
  unfold I64 at hb
  by_cases hs : b < 0
  · -- the remainder of a cut division has the sign of a
    have e : Int.tmod a b = Int.tmod a (-b) := by rw [Int.tmod_neg]
    have c := cut_floor a (b := -b) (by omega)
    have g1 := Int.emod_nonneg a (b := -b) (by omega)
    have g2 := Int.emod_lt_of_pos a (b := -b) (by omega)
    have e2 : md a b = if a % (-b) = 0 then 0 else a % (-b) + b := by
      have d := Int.mul_ediv_add_emod a (-b)
      split
      · rename_i hz
        exact (fl_unique (q := -(a / -b)) (by rw [Int.mul_neg, ← Int.neg_mul]; omega) (by omega)).2
      · exact (fl_unique (q := -(a / -b) - 1) (by rw [show -(a / -b) - 1 = -((a / -b) + 1) by omega, Int.mul_neg, ← Int.neg_mul, Int.mul_add]; omega) (by omega)).2
    rw [e, e2]
    by_cases hn : Int.tmod a (-b) < 0
    · obtain ⟨c1, c2, c3⟩ := c.1 hn
      rw [if_neg (by omega), if_neg (show ¬ a % (-b) = 0 by omega), decide_eq_true hn, decide_eq_true hs, if_neg (by simp)]
      congr 2; omega
    · obtain ⟨c1, c2⟩ := c.2 hn
      rw [c2]
      by_cases hz : a % (-b) = 0
      · rw [if_pos hz, if_pos hz, hz]
      · rw [if_neg hz, if_neg hz, decide_eq_false (show ¬ a % (-b) < 0 by omega), decide_eq_true hs, if_pos (by simp), w64 (by omega) (by omega)]
  · have c := cut_floor a (b := b) (by omega)
    have g1 := Int.emod_nonneg a (b := b) (by omega)
    have g2 := Int.emod_lt_of_pos a (b := b) (by omega)
    have e2 : md a b = a % b := by unfold md; rw [if_neg hs]
    rw [e2]
    by_cases hn : Int.tmod a b < 0
    · obtain ⟨c1, c2, c3⟩ := c.1 hn
      rw [if_neg (by omega), decide_eq_true hn, decide_eq_false hs, if_pos (by simp), w64 (by omega) (by omega)]
      congr 2; omega
    · obtain ⟨c1, c2⟩ := c.2 hn
      rw [c2]
      by_cases hz : a % b = 0
      · rw [if_pos hz]
      · rw [if_neg hz, decide_eq_false (show ¬ a % b < 0 by omega), decide_eq_false hs, if_neg (by simp)]
theorem fl_pos {a b : Int} (h : 0 < b) : fl a b = a / b := by unfold fl; rw [if_neg (by omega)]
theorem md_pos {a b : Int} (h : 0 < b) : md a b = a % b := by unfold md; rw [if_neg (by omega)]
end Go.Proofs.Ytkongoedgngfhaa.Civ
namespace Go.Proofs.Ytkongoedgngfhaa.Civ
set_option linter.unusedVariables false
set_option linter.unusedSimpArgs false
open Go.RowKit Go.Proofs.YtkongoedgngfhaaW.PrintWords Go.Proofs.YtkongoedgngfhaaW.PrintLast Go.Proofs.YtkongoedgngfhaaW.PrintMore Go.Proofs.Ytkongoedgngfhaa.P
def p10 (k : Int) : Int := if k = 0 then 1 else if k = 1 then 10 else if k = 2 then 100 else if k = 3 then 1000 else if k = 4 then 10000 else if k = 5 then 100000 else if k = 6 then 1000000 else if k = 7 then 10000000 else if k = 8 then 100000000 else 1000000000
theorem ten_cases {k : Int} (h : 0 ≤ k ∧ k ≤ 9) : k = 0 ∨ k = 1 ∨ k = 2 ∨ k = 3 ∨ k = 4 ∨ k = 5 ∨ k = 6 ∨ k = 7 ∨ k = 8 ∨ k = 9 := by omega
theorem p10_bd (k : Int) : 1 ≤ p10 k ∧ p10 k ≤ 1000000000 := by
  unfold p10
  repeat' split
  all_goals omega
theorem ten_eq {k : Int} (h : 0 ≤ k ∧ k ≤ 9) : dec_ten.f k = some (p10 k) := by
  rcases ten_cases h with rfl | rfl | rfl | rfl | rfl | rfl | rfl | rfl | rfl | rfl <;> rfl
def DOk (s : Int) : Prop := 0 ≤ s ∧ s ≤ 9
instance (s : Int) : Decidable (DOk s) := inferInstanceAs (Decidable (_ ∧ _))
theorem dcright_eq (n s : Int) : dec_Right.f n s = some (decide (DOk s)) := by
  unfold dec_Right.f
  by_cases h : s ≥ 0
  · rw [if_pos h]; congr 1; apply decide_eq_decide.2; unfold DOk; omega
  · rw [if_neg h, decide_eq_false (by unfold DOk; omega)]
theorem i64_p10 (k : Int) : I64 (p10 k) := by have := p10_bd k; unfold I64; omega
/-- A number at a scale that is so much greater. -/
def tox (n s t : Int) : Int × Int × Int := if I64 (n * p10 (t - s)) then (n * p10 (t - s), t, 0) else (0, 0, 10)
theorem to_eq (k : Nat) {n s t : Int} (hn : I64 n) (hs : DOk s) (ht : DOk t) (h : s ≤ t) : dec_Dec_to.f (k + 1) n s t = some (tox n s t) := by
  unfold dec_Dec_to.f tox
  unfold DOk at hs ht
  rw [w64 (x := t - s) (by omega) (by omega), ten_eq (by omega)]
  simp only [Option.bind_some]
  rw [mul_eq k n _ hn (i64_p10 _)]
  simp only [Option.bind_some]
  by_cases g : I64 (n * p10 (t - s))
  · rw [out_in g, if_pos rfl, if_pos g]
  · rw [out_no g, if_neg (by decide), if_neg g]
theorem mx_le {a b : Int} : a ≤ mx a b ∧ b ≤ mx a b ∧ (mx a b = a ∨ mx a b = b) := by unfold mx; split <;> omega
def bothD (n s m r : Int) : Int × Int × Int × Int × Int :=
  if DOk s ∧ DOk r then ((tox n s (mx s r)).1, (tox n s (mx s r)).2.1, (tox m r (mx s r)).1, (tox m r (mx s r)).2.1, mx (tox n s (mx s r)).2.2 (tox m r (mx s r)).2.2) else (0, 0, 0, 0, 1)
theorem bothD_ev {n s m r : Int} (hn : I64 n) (hm : I64 m) : Ev (fun k => dec_both.f k n s m r) (bothD n s m r) := by
  unfold dec_both.f bothD
  refine Ev.bind0 (dcright_eq n s) ?_
  by_cases h1 : DOk s
  · refine Ev.pos (decide_eq_true h1) (Ev.bind0 (dcright_eq m r) (Ev.succ ?_))
    by_cases h2 : DOk r
    · have h12 : DOk s ∧ DOk r := ⟨h1, h2⟩
      have hx := mx_le (a := s) (b := r)
      have ht : DOk (mx s r) := by unfold DOk at *; omega
      rw [if_pos h12, decide_eq_true h2]
      simp only [dec_both.j0, Bool.not_true, Bool.false_eq_true, if_false]
      refine Ev.bind (Ev.at1 fun k => to_eq k hn h1 ht hx.1) ?_
      refine Ev.bind (Ev.at1 fun k => to_eq k hm h2 ht hx.2.1) ?_
      exact Ev.now _
    · have h12 : ¬ (DOk s ∧ DOk r) := fun f => h2 f.2
      rw [if_neg h12, decide_eq_false h2]
      simp only [dec_both.j0, Bool.not_false, if_true]
      exact Ev.now _
  · have h12 : ¬ (DOk s ∧ DOk r) := fun f => h1 f.1
    rw [if_neg h12]
    refine Ev.neg (by rw [decide_eq_false h1]; simp) (Ev.succ ?_)
    simp only [dec_both.j0, if_true]
    exact Ev.now _
/-- A number that came of two at one scale, if both could be there and it can be. -/
def sumD (n s m r z : Int) : Int × Int × Int :=
  if DOk s ∧ DOk r then (if I64 (n * p10 (mx s r - s)) ∧ I64 (m * p10 (mx s r - r)) ∧ I64 z then (z, mx s r, 0) else (0, 0, 10)) else (0, 0, 1)
theorem made_eqD (a b c : Int) : dec_made.f a b c = some (if c = 0 then (a, b, 0) else (0, 0, c)) := by
  unfold dec_made.f
  split <;> rfl
theorem bothD_ok {n s m r : Int} (h : DOk s ∧ DOk r) (a : I64 (n * p10 (mx s r - s))) (b : I64 (m * p10 (mx s r - r))) :
    bothD n s m r = (n * p10 (mx s r - s), mx s r, m * p10 (mx s r - r), mx s r, 0) := by
  unfold bothD tox
  rw [if_pos h, if_pos a, if_pos b]
  rfl
theorem bothD_err {n s m r : Int} (h : DOk s ∧ DOk r) (f : ¬ (I64 (n * p10 (mx s r - s)) ∧ I64 (m * p10 (mx s r - r)))) : (bothD n s m r).2.2.2.2 = 10 := by
  unfold bothD tox
  rw [if_pos h]
  by_cases a : I64 (n * p10 (mx s r - s))
  · have b : ¬ I64 (m * p10 (mx s r - r)) := fun b => f ⟨a, b⟩
    rw [if_pos a, if_neg b]; rfl
  · rw [if_neg a]
    by_cases b : I64 (m * p10 (mx s r - r))
    · rw [if_pos b]; rfl
    · rw [if_neg b]; rfl
theorem addD_ev {n s m r : Int} (hn : I64 n) (hm : I64 m) : Ev (fun k => dec_Add.f k n s m r) (sumD n s m r (n * p10 (mx s r - s) + m * p10 (mx s r - r))) := by
  unfold dec_Add.f
  refine Ev.bind (bothD_ev hn hm) ?_
  by_cases h : DOk s ∧ DOk r
  · by_cases f : I64 (n * p10 (mx s r - s)) ∧ I64 (m * p10 (mx s r - r))
    · rw [bothD_ok h f.1 f.2]
      refine Ev.pos rfl (Ev.bind0 (add_eq _ _ f.1 f.2) (Ev.bind0 (made_eqD _ _ _) (Ev.cast (Ev.now _) ?_)))
      unfold sumD
      rw [if_pos h]
      by_cases g : I64 (n * p10 (mx s r - s) + m * p10 (mx s r - r))
      · have fg := And.intro f.1 (And.intro f.2 g)
        rw [if_pos fg, out_in g]; rfl
      · have fg : ¬ (I64 (n * p10 (mx s r - s)) ∧ I64 (m * p10 (mx s r - r)) ∧ I64 (n * p10 (mx s r - s) + m * p10 (mx s r - r))) := fun q => g q.2.2
        rw [if_neg fg, out_no g]; rfl
    · have e := bothD_err h f
      refine Ev.neg (by rw [e]; decide) (Ev.cast (Ev.now _) ?_)
      have fg : ¬ (I64 (n * p10 (mx s r - s)) ∧ I64 (m * p10 (mx s r - r)) ∧ I64 (n * p10 (mx s r - s) + m * p10 (mx s r - r))) := fun q => f ⟨q.1, q.2.1⟩
      unfold sumD
      rw [e, if_pos h, if_neg fg]
  · have e : bothD n s m r = (0, 0, 0, 0, 1) := if_neg h
    rw [e]
    refine Ev.neg (by decide) (Ev.cast (Ev.now _) ?_)
    unfold sumD
    rw [if_neg h]
end Go.Proofs.Ytkongoedgngfhaa.Civ
namespace Go.Proofs.Ytkongoedgngfhaa.Civ
set_option linter.unusedVariables false
set_option linter.unusedSimpArgs false
open Go.RowKit Go.Proofs.Ytkongoedgngfhaa.P Go.Proofs.YtkongoedgngfhaaW.PrintWords Go.Proofs.YtkongoedgngfhaaW.PrintLast
theorem known_ev : Ev (fun k => computuslaw04_known.f k) true := Ev.of computuslaw04_known.mono (k := 12) (by decide +kernel)
theorem known_end : Ev (fun k => (computuslaw04_known.f k).bind fun t => some t) true := Ev.bind known_ev (Ev.now _)
end Go.Proofs.Ytkongoedgngfhaa.Civ
namespace Go.Proofs.Ytkongoedgngfhaa.Civ
set_option linter.unusedVariables false
set_option linter.unusedSimpArgs false
open Go.RowKit Go.Proofs.YtkongoedgngfhaaW.PrintWords Go.Proofs.YtkongoedgngfhaaW.PrintLast Go.Proofs.YtkongoedgngfhaaW.PrintMore Go.Proofs.Ytkongoedgngfhaa.P
theorem p10_pos (k : Int) : 0 < p10 k := by have := p10_bd k; omega
theorem floor_i64 {n : Int} (hn : I64 n) (k : Int) : I64 (n / p10 k) := ediv_i64 hn (p10_pos k)
def splD (n s : Int) : Int × Int := (n / p10 s, n % p10 s * p10 (9 - s))
theorem frac_bd (n : Int) {s : Int} (hs : DOk s) : 0 ≤ n % p10 s * p10 (9 - s) ∧ n % p10 s * p10 (9 - s) < 1000000000 := by
  have h0 := Int.emod_nonneg n (b := p10 s) (by have := p10_pos s; omega)
  have h1 := Int.emod_lt_of_pos n (p10_pos s)
  rcases ten_cases hs with rfl | rfl | rfl | rfl | rfl | rfl | rfl | rfl | rfl | rfl <;> simp [p10] at h0 h1 ⊢ <;> omega
theorem split_ev {n s : Int} (hn : I64 n) (hs : DOk s) : Ev (fun k => dec_Dec_split.f k n s) (splD n s) := by
  unfold dec_Dec_split.f
  have hp := p10_pos s
  refine Ev.bind0 (ten_eq hs) (Ev.bind (Ev.at1 fun k => div_eq k n _ hn (i64_p10 s) (by omega)) (Ev.bind0 (ten_eq hs) (Ev.bind0 (mod_eq n _ hn (i64_p10 s) (by omega)) ?_)))
  have hs' := hs
  unfold DOk at hs'
  rw [w64 (x := 9 - s) (by omega) (by omega)]
  refine Ev.bind0 (ten_eq (by omega)) (Ev.cast (Ev.now _) ?_)
  have hb := frac_bd n hs
  rw [fl_pos hp, md_pos hp, out_in (floor_i64 hn s)]
  show (n / p10 s, wrap64 (n % p10 s * p10 (9 - s))) = _
  rw [w64 (by omega) (by omega)]
  rfl
/-- How two numbers stand. -/
def ordD (n s m r : Int) : Int :=
  if DOk s ∧ DOk r then (if splD n s = splD m r then 0 else if n / p10 s = m / p10 r then (if (splD n s).2 < (splD m r).2 then -1 else 1) else if n / p10 s < m / p10 r then -1 else 1) else 0
theorem compare_eq (a b : Int) : cmp_Compare_int64.f a b = some (if a < b then -1 else if a > b then 1 else 0) := by
  unfold cmp_Compare_int64.f
  have e : ∀ x, cmp_isNaN_int64.f x = some false := fun x => by unfold cmp_isNaN_int64.f; simp
  rw [e, e]
  simp only [Option.bind_some, Bool.false_eq_true, if_false]
  repeat' split
  all_goals rfl
theorem cmpD_ev {n s m r : Int} (hn : I64 n) (hm : I64 m) : Ev (fun k => dec_Cmp.f k n s m r) (ordD n s m r) := by
  unfold dec_Cmp.f ordD
  refine Ev.bind0 (dcright_eq n s) ?_
  by_cases h1 : DOk s
  · refine Ev.pos (decide_eq_true h1) (Ev.bind0 (dcright_eq m r) (Ev.succ ?_))
    by_cases h2 : DOk r
    · have h12 : DOk s ∧ DOk r := ⟨h1, h2⟩
      rw [if_pos h12, decide_eq_true h2]
      simp only [dec_Cmp.j0, Bool.not_true, Bool.false_eq_true, if_false]
      refine Ev.bind (split_ev hn h1) (Ev.bind (split_ev hm h2) ?_)
      by_cases he : splD n s = splD m r
      · rw [if_pos he, he]
        exact Ev.pos (by simp) (Ev.now _)
      · rw [if_neg he]
        refine Ev.neg (fun g => he ?_) ?_
        · simp only [Bool.and_eq_true, beq_iff_eq] at g
          exact Prod.ext g.1 g.2
        · by_cases hf : n / p10 s = m / p10 r
          · rw [if_pos hf]
            refine Ev.pos hf (Ev.bind0 (compare_eq _ _) (Ev.cast (Ev.now _) ?_))
            by_cases hl : (splD n s).2 < (splD m r).2
            · rw [if_pos hl, if_pos hl]
            · have hne : (splD n s).2 ≠ (splD m r).2 := fun g => he (Prod.ext hf g)
              rw [if_neg hl, if_neg hl, if_pos (by omega)]
          · rw [if_neg hf]
            refine Ev.neg hf (Ev.bind0 (compare_eq _ _) (Ev.cast (Ev.now _) ?_))
            have e1 : (splD n s).1 = n / p10 s := rfl
            have e2 : (splD m r).1 = m / p10 r := rfl
            rw [e1, e2]
            by_cases hl : n / p10 s < m / p10 r
            · rw [if_pos hl, if_pos hl]
            · rw [if_neg hl, if_neg hl, if_pos (by omega)]
    · have h12 : ¬ (DOk s ∧ DOk r) := fun f => h2 f.2
      rw [if_neg h12, decide_eq_false h2]
      simp only [dec_Cmp.j0, Bool.not_false, if_true]
      exact Ev.now _
  · have h12 : ¬ (DOk s ∧ DOk r) := fun f => h1 f.1
    rw [if_neg h12]
    refine Ev.neg (by rw [decide_eq_false h1]; simp) (Ev.succ ?_)
    simp only [dec_Cmp.j0, if_true]
    exact Ev.now _
end Go.Proofs.Ytkongoedgngfhaa.Civ
namespace Go.Proofs.Ytkongoedgngfhaa.Civ
set_option linter.unusedVariables false
set_option linter.unusedSimpArgs false
open Go.RowKit Go.Proofs.YtkongoedgngfhaaW.PrintWords Go.Proofs.YtkongoedgngfhaaW.PrintLast Go.Proofs.YtkongoedgngfhaaW.PrintMore Go.Proofs.Ytkongoedgngfhaa.P
def mulD (n s m r : Int) : Int × Int × Int := if DOk s ∧ DOk r then (if s + r ≤ 9 ∧ I64 (n * m) then (n * m, s + r, 0) else (0, 0, 10)) else (0, 0, 1)
theorem mulD_ev {n s m r : Int} (hn : I64 n) (hm : I64 m) : Ev (fun k => dec_Mul.f k n s m r) (mulD n s m r) := by
  unfold dec_Mul.f mulD
  refine Ev.bind0 (dcright_eq n s) ?_
  by_cases h1 : DOk s
  · refine Ev.pos (decide_eq_true h1) (Ev.bind0 (dcright_eq m r) (Ev.succ ?_))
    by_cases h2 : DOk r
    · have h12 : DOk s ∧ DOk r := ⟨h1, h2⟩
      rw [if_pos h12, decide_eq_true h2]
      simp only [dec_Mul.j0, Bool.not_true, Bool.false_eq_true, if_false]
      refine Ev.bind (Ev.at1 fun k => mul_eq k n m hn hm) ?_
      rw [w64 (x := s + r) (by unfold DOk at h1 h2; omega) (by unfold DOk at h1 h2; omega)]
      by_cases g : s + r > 9
      · refine Ev.pos g (Ev.bind0 (made_eqD _ _ _) (Ev.cast (Ev.now _) ?_))
        have q : ¬ (s + r ≤ 9 ∧ I64 (n * m)) := fun f => by omega
        rw [if_neg q]; rfl
      · refine Ev.neg g (Ev.bind0 (made_eqD _ _ _) (Ev.cast (Ev.now _) ?_))
        by_cases i : I64 (n * m)
        · have q : s + r ≤ 9 ∧ I64 (n * m) := ⟨by omega, i⟩
          rw [if_pos q, out_in i]; rfl
        · have q : ¬ (s + r ≤ 9 ∧ I64 (n * m)) := fun f => i f.2
          rw [if_neg q, out_no i]; rfl
    · have h12 : ¬ (DOk s ∧ DOk r) := fun f => h2 f.2
      rw [if_neg h12, decide_eq_false h2]
      simp only [dec_Mul.j0, Bool.not_false, if_true]
      exact Ev.now _
  · have h12 : ¬ (DOk s ∧ DOk r) := fun f => h1 f.1
    rw [if_neg h12]
    refine Ev.neg (by rw [decide_eq_false h1]; simp) (Ev.succ ?_)
    simp only [dec_Mul.j0, if_true]
    exact Ev.now _
theorem mulD_comm (n s m r : Int) : mulD n s m r = mulD m r n s := by
  unfold mulD
  rw [Int.mul_comm n m, Int.add_comm s r]
  by_cases h : DOk s ∧ DOk r
  · rw [if_pos h, if_pos h.symm]
  · rw [if_neg h, if_neg fun g => h g.symm]
theorem sumD_comm (n s m r z : Int) : sumD n s m r z = sumD m r n s z := by
  unfold sumD
  have e : mx s r = mx r s := by unfold mx; split <;> split <;> omega
  rw [e]
  by_cases h : DOk s ∧ DOk r
  · rw [if_pos h, if_pos h.symm]
    by_cases g : I64 (n * p10 (mx r s - s)) ∧ I64 (m * p10 (mx r s - r)) ∧ I64 z
    · rw [if_pos g, if_pos ⟨g.2.1, g.1, g.2.2⟩]
    · rw [if_neg g, if_neg fun f => g ⟨f.2.1, f.1, f.2.2⟩]
  · rw [if_neg h, if_neg fun g => h g.symm]
theorem ordD_neg (n s m r : Int) : ordD n s m r = wrap64 (-(ordD m r n s)) := by
  unfold ordD
  by_cases h : DOk s ∧ DOk r
  · rw [if_pos h, if_pos h.symm]
    by_cases e : splD n s = splD m r
    · rw [if_pos e, if_pos e.symm]; unfold wrap64; omega
    · rw [if_neg e, if_neg (fun g => e g.symm : ¬ splD m r = splD n s)]
      by_cases f : n / p10 s = m / p10 r
      · have hne : (splD n s).2 ≠ (splD m r).2 := fun g => e (Prod.ext f g)
        rw [if_pos f, if_pos f.symm]
        by_cases l : (splD n s).2 < (splD m r).2
        · rw [if_pos l, if_neg (by omega : ¬ (splD m r).2 < (splD n s).2)]; unfold wrap64; omega
        · rw [if_neg l, if_pos (by omega : (splD m r).2 < (splD n s).2)]; unfold wrap64; omega
      · rw [if_neg f, if_neg (fun g => f g.symm : ¬ m / p10 r = n / p10 s)]
        by_cases l : n / p10 s < m / p10 r
        · rw [if_pos l, if_neg (by omega : ¬ m / p10 r < n / p10 s)]; unfold wrap64; omega
        · rw [if_neg l, if_pos (by omega : m / p10 r < n / p10 s)]; unfold wrap64; omega
  · rw [if_neg h, if_neg (fun g => h g.symm : ¬ (DOk r ∧ DOk s))]; unfold wrap64; omega
end Go.Proofs.Ytkongoedgngfhaa.Civ
