-- Written by a program of the session (a print of the seat's translation, functions given by hand among it). Lean checks it.
import Derived.Test.YtkongoedgngfhaaQfkleinmccf
import Derived.Test.YtkongoedgngfhaaQkemdehpojg
namespace Go.Proofs.Ytkongoedgngfhaa.P
open Go.RowKit Go.Proofs.YtkongoedgngfhaaW.PrintWords Go.Proofs.YtkongoedgngfhaaW.PrintLast Go.Proofs.YtkongoedgngfhaaW.PrintMore
open Go.Proofs.Ytkongoedgngfhaa.A
attribute [local go_sem] max2_int min2_int max_two min_two max_three min_three max_four min_four   -- for this text's walks alone
set_option linter.unusedVariables false
set_option linter.unusedSimpArgs false
def dec_Floor.f (k : Nat) (a0_0 : Int) (a0_1 : Int) : Option (Int × Int) := (dec_Right.f a0_0 a0_1).bind fun t278 => (if t278 = true then ((dec_Dec_split.f k a0_0 a0_1).bind fun bt279 => (some (bt279.1, 0))) else (some (0, 1)))
theorem dec_Floor.mono : ∀ a0 a1 k, LeO (dec_Floor.f k a0 a1) (dec_Floor.f (k + 1) a0 a1) := by
  intro a0 a1 k
  unfold dec_Floor.f
  repeat' first
      | (with_reducible exact dec_Dec_split.mono _ _ _)
      | (with_reducible exact LeO.refl _)
      | (with_reducible exact LeO.none _)
      | (with_reducible refine LeO.ite ?_ ?_)
      | (with_reducible refine LeO.bind ?_ (fun _ => ?_))
      | exact dec_Dec_split.mono _ _ _
      | exact LeO.none _
      | refine LeO.ite ?_ ?_
      | refine LeO.bind ?_ (fun _ => ?_)
set_option maxRecDepth 100000 in
theorem dec_Floor.vc (k : Nat) (a0_0 : Int) (a0_1 : Int) (K : AV → Prop) : afv PA Try.prog (tab [(31, dec_Right.con), (48, dec_Dec_split.con k)]) noLoops 2 21 [.agg [.int .i64 a0_0, .int .i64 a0_1]] K = (brc (Option.isSome (dec_Right.f a0_0 a0_1)) (∀ (m0 : Bool), m0 = gd (dec_Right.f a0_0 a0_1) → brc (!m0) (K (AV.tup [AV.int IntKind.i64 0, AV.int IntKind.i64 1])) (brc (Option.isSome (dec_Dec_split.f k a0_0 a0_1)) (∀ (m1 : Int), m1 = Prod.fst (gd (dec_Dec_split.f k a0_0 a0_1)) → ∀ (m2 : Int), m2 = Prod.snd (gd (dec_Dec_split.f k a0_0 a0_1)) → K (AV.tup [AV.int IntKind.i64 m1, AV.int IntKind.i64 0])) False)) False) := by kernel_rfl
set_option maxHeartbeats 1000000 in
set_option maxRecDepth 100000 in
theorem dec_Floor.calls (k : Nat) (a0_0 : Int) (a0_1 : Int) (r1 : Int) (r2 : Int) (w : World) (h : dec_Floor.f k a0_0 a0_1 = some (r1, r2)) :
    Calls Try.prog 21 #[.agg #[.int .i64 a0_0, .int .i64 a0_1]] w fun e w' => e = .returned (.tuple #[.int .i64 r1, .int .i64 r2]) ∧ Below w.heap.size w w' := by
  refine calls_of_vc (A := [.agg #[.int .i64 a0_0, .int .i64 a0_1]]) (v := .tup [.int .i64 r1, .int .i64 r2]) (tab_cons (dec_Right.cok) (tab_cons (dec_Dec_split.cok k) (tab_nil))) ((dec_Floor.vc k a0_0 a0_1 _).mpr ?_) (by simp [rl_cons, rl_nil, rv_int, rv_bool, rv_str, rv_agg, rv_fn]) (fun ρ V' hV => by simpa [rl_cons, rl_nil, rv_int, rv_bool, rv_str, rv_agg, rv_tup] using hV)
  unfold dec_Floor.f at h
  (try simp only [bne, Option.bind_eq_some_iff, ite_some_iff] at h)
  (try simp only [bne, brc_iff, wrap_i64])
  first
    | grind (splits := 60) [gd_some]
    | ((repeat' (first | (have or_ : Or _ _ := h; clear or_; rcases h with h | h) | (have or_ : Exists _ := h; clear or_; obtain ⟨_, h⟩ := h) | (have or_ : And _ _ := h; clear or_; obtain ⟨hq_, h⟩ := h))) <;> (try simp only [Option.some.injEq, Prod.mk.injEq, reduceCtorEq] at h) <;> (try subst_vars) <;> first | (simp_all [gd_some] <;> (try omega) <;> done) | grind (splits := 60) [gd_some])
    | (intros; subst_vars; simp_all [gd_some]; done)
noncomputable def dec_Floor.con (k : Nat) : Con
  | [.agg [.int .i64 a0_0, .int .i64 a0_1]] => some ((dec_Floor.f k a0_0 a0_1).isSome, .tup [.int .i64 (gd (dec_Floor.f k a0_0 a0_1)).1, .int .i64 (gd (dec_Floor.f k a0_0 a0_1)).2])
  | _ => none
set_option maxRecDepth 100000 in
theorem dec_Floor.cok (k : Nat) : COk Try.prog 21 (dec_Floor.con k) := by
  intro args p v hc hp w A hA
  unfold dec_Floor.con at hc
  split at hc
  · rename_i a0_0 a0_1
    simp only [Option.some.injEq, Prod.mk.injEq] at hc
    obtain ⟨rfl, rfl⟩ := hc
    rcases hf : dec_Floor.f k a0_0 a0_1 with _ | ⟨r1, r2⟩
    · rw [hf] at hp; cases hp
    obtain rfl : A = [.agg #[.int .i64 a0_0, .int .i64 a0_1]] := by simpa [rl_cons, rl_nil, rv_int, rv_bool, rv_str, rv_agg, rv_fn] using hA
    exact gives_of_calls (fn := Try.f21) Try.func21 (by kernel_rfl) (by kernel_rfl) (dec_Floor.calls _ _ _ _ _ w hf) (fun _ => by simp [gd_some, rl_cons, rl_nil, rv_int, rv_bool, rv_str, rv_agg, rv_tup]) (fun _ h => h)
  · cases hc
def dec_Trim.l0 : Nat → Int → Int → Option (Int × Int)
  | 0, _, _ => none
  | k + 1, x282000, x282001 => if x282001 > 0 then (if (Int.tmod x282000 10) = 0 then (dec_Trim.l0 k (wrap64 (Int.tdiv x282000 10)) (wrap64 (x282001 - 1))) else (some (x282000, x282001))) else (some (x282000, x282001))
def dec_Trim.f (k : Nat) (a0_0 : Int) (a0_1 : Int) : Option (Int × Int) := (dec_Right.f a0_0 a0_1).bind fun t283 => (if t283 = true then (dec_Trim.l0 k a0_0 a0_1) else (some (a0_0, a0_1)))
theorem dec_Trim.mono_l : ∀ k, (∀ y0 y1, LeO (dec_Trim.l0 k y0 y1) (dec_Trim.l0 (k + 1) y0 y1))
  | 0 => fun _ _ r h => by simp [dec_Trim.l0] at h
  | k + 1 => by
    have ih0 := dec_Trim.mono_l k
    · intro y0 y1
      unfold dec_Trim.l0
      repeat' first
      | (with_reducible exact ih0 _ _)
      | (with_reducible exact LeO.refl _)
      | (with_reducible exact LeO.none _)
      | (with_reducible refine LeO.ite ?_ ?_)
      | (with_reducible refine LeO.bind ?_ (fun _ => ?_))
      | exact ih0 _ _
      | exact LeO.none _
      | refine LeO.ite ?_ ?_
      | refine LeO.bind ?_ (fun _ => ?_)
theorem dec_Trim.mono : ∀ a0 a1 k, LeO (dec_Trim.f k a0 a1) (dec_Trim.f (k + 1) a0 a1) := by
  intro a0 a1 k
  have ih0 := dec_Trim.mono_l k
  unfold dec_Trim.f
  repeat' first
      | (with_reducible exact ih0 _ _)
      | (with_reducible exact LeO.refl _)
      | (with_reducible exact LeO.none _)
      | (with_reducible refine LeO.ite ?_ ?_)
      | (with_reducible refine LeO.bind ?_ (fun _ => ?_))
      | exact ih0 _ _
      | exact LeO.none _
      | refine LeO.ite ?_ ?_
      | refine LeO.bind ?_ (fun _ => ?_)
set_option maxHeartbeats 8000000 in
set_option maxRecDepth 100000 in
theorem dec_Trim.calls (k : Nat) (a0_0 : Int) (a0_1 : Int) (r1 : Int) (r2 : Int) (w : World) (h : dec_Trim.f k a0_0 a0_1 = some (r1, r2)) :
    Calls Try.prog 23 #[.agg #[.int .i64 a0_0, .int .i64 a0_1]] w fun e w' => e = .returned (.agg #[.int .i64 r1, .int .i64 r2]) ∧ Below w.heap.size w w' := by
  have hu25 := Try.underlying25
  have HB := Aside0.mk (Below.refl w.heap.size w)
  have H : ((dec_Right.f a0_0 a0_1).bind fun t283 => (if t283 = true then (dec_Trim.l0 k a0_0 a0_1) else (some (a0_0, a0_1)))) = some (r1, r2) := h
  clear h
  replace H := Option.bind_eq_some_iff.mp H
  obtain ⟨t283, A20, H⟩ := H
  replace H : (if t283 = true then (dec_Trim.l0 k a0_0 a0_1) else (some (a0_0, a0_1))) = some (r1, r2) := H
  have A2 := Aside0.mk A20
  clear A20
  by_cases c3 : t283 = true
  · subst c3
    have H1 : (dec_Trim.l0 k a0_0 a0_1) = some (r1, r2) := by rw [if_pos rfl] at H; exact H
    clear H
    have H := H1
    clear H1
    have H' := Aside0.mk H
    clear H
    go_enter Try.func23, Try.ntmps23
    go_wp2_with (first | ((with_reducible refine gate_dst (N := 1) rfl ?_); refine box_event ?hg (N := 1) ?hd (cs := #[.int .i64 a0_0, .int .i64 a0_1]) (t := 25) ?hr ?_; (case hd => rfl); (case hg => rfl); (case hr => first | (go_simp; done) | (go_simp; rfl)); intro gb281 hg w4 hbox hb; have n0_ := Aside0.mk (kL (by repeat (first | (with_reducible first | exact HB.out | apply kC | apply kA | apply kD) | exact HB.out)) hb); have n1_ := Aside0.mk (hbox); have n2_ := Aside0.mk ((by rw [hg]; exact (kK (by repeat (first | (with_reducible first | exact HB.out | apply kC | apply kA | apply kD) | exact HB.out))) : w.heap.size ≤ gb281)); have n3_ := Aside0.mk ((by rw [hg]; exact (kK (by repeat (first | (with_reducible first | exact HB.out | apply kC | apply kA | apply kD) | exact HB.out))) : w.heap.size ≤ gb281)); clear HB; have HB := n0_; have BK281 := n1_; have GW281 := n2_; have GE281 := n3_; clear n0_ n1_ n2_ n3_; clear hb hbox hg) | ((with_reducible refine gate_dst (N := 2) rfl ?_); refine box_event ?hg (N := 2) ?hd (cs := #[.int .i64 0, .int .i64 0]) (t := 25) ?hr ?_; (case hd => rfl); (case hg => rfl); (case hr => first | (go_simp; done) | (go_simp; rfl)); intro gb282 hg w5 hbox hb; have n0_ := Aside0.mk (kJ (g := gb281) (o := .cells #[.int .i64 a0_0, .int .i64 a0_1] 25 (0, 0)) (by (with_reducible repeat (first | refine kE ?_ _ | refine kG ?_ | refine kF ?_ _)); exact BK281.out) hb); have n1_ := Aside0.mk (kL (by repeat (first | (with_reducible first | exact HB.out | apply kC | apply kA | apply kD | refine kB ?_ GE281.out) | exact HB.out)) hb); have n2_ := Aside0.mk (hbox); have n3_ := Aside0.mk ((by rw [hg]; exact (kK (by repeat (first | (with_reducible first | exact HB.out | apply kC | apply kA | apply kD | refine kB ?_ GE281.out) | exact HB.out))) : w.heap.size ≤ gb282)); have n4_ := Aside0.mk ((by rw [hg]; exact (kK (by repeat (first | (with_reducible first | exact HB.out | apply kC | apply kA | apply kD | refine kB ?_ GE281.out) | exact HB.out))) : w.heap.size ≤ gb282)); have n5_ := Aside0.mk ((by rw [hg]; exact Nat.ne_of_lt (blk_lt (g := gb281) (o := .cells #[.int .i64 a0_0, .int .i64 a0_1] 25 (0, 0)) (by (with_reducible repeat (first | refine kE ?_ _ | refine kG ?_ | refine kF ?_ _)); exact BK281.out)) : gb281 ≠ gb282)); have n6_ := Aside0.mk ((by rw [hg]; exact Nat.ne_of_gt (blk_lt (g := gb281) (o := .cells #[.int .i64 a0_0, .int .i64 a0_1] 25 (0, 0)) (by (with_reducible repeat (first | refine kE ?_ _ | refine kG ?_ | refine kF ?_ _)); exact BK281.out)) : gb282 ≠ gb281)); clear BK281; clear HB; have BK281 := n0_; have HB := n1_; have BK282 := n2_; have GW282 := n3_; have GE282 := n4_; have NB281_282 := n5_; have NB282_281 := n6_; clear n0_ n1_ n2_ n3_ n4_ n5_ n6_; clear hb hbox hg; have hnb6 := NB281_282.out; have hnc6 := NB282_281.out; have hcz7_0 : w5.cell? ⟨gb281, 0, none⟩ = some (.int .i64 a0_0) := (kI BK281.out 0).trans rfl; have hcz7_1 : w5.cell? ⟨gb281, 1, none⟩ = some (.int .i64 a0_1) := (kI BK281.out 1).trans rfl; have hfz7_0 := kH BK281.out 0; have hfz7_1 := kH BK281.out 1) | ((with_reducible refine gate_callee (f := 31) rfl ?_); refine goesL_ (some 4) rfl rfl Try.func31 (by kernel_rfl) rfl #[.agg #[.int .i64 a0_0, .int .i64 a0_1]] rfl (by (try simp only [List.map_toArray, List.map_cons, List.map_nil]); first | done | rfl | (simp only [List.length_drop, List.length_take]; rfl)) ?_; (with_reducible refine (dec_Right.calls a0_0 a0_1 true _ A2.out).mono ?_); rintro e w8 ⟨rfl, hb⟩; refine ⟨_, rfl, ?_⟩; have n0_ := Aside0.mk (kJ (g := gb281) (o := .cells #[.int .i64 a0_0, .int .i64 a0_1] 25 (0, 0)) (by (with_reducible repeat (first | refine kE ?_ _ | refine kG ?_ | refine kF ?_ _)); exact BK281.out) hb); have n1_ := Aside0.mk (kJ (g := gb282) (o := .cells #[.int .i64 0, .int .i64 0] 25 (0, 0)) (by (with_reducible repeat (first | refine kE ?_ _ | refine kG ?_ | refine kF ?_ _)); exact BK282.out) hb); have n2_ := Aside0.mk (kL (by repeat (first | (with_reducible first | exact HB.out | apply kC | apply kA | apply kD | refine kB ?_ GE281.out | refine kB ?_ GE282.out) | exact HB.out)) hb); clear BK281; clear BK282; clear HB; have BK281 := n0_; have BK282 := n1_; have HB := n2_; clear n0_ n1_ n2_; (try clear hb); (try clear hb2); (try clear hk); (try clear hi)))
    go_loopg [] k (fun kq w' => ∃ (x282000_1 : Int) (x282001_1 : Int), Aside0 (dec_Trim.l0 kq x282000_1 x282001_1 = some (r1, r2)) ∧ Aside0 (kq ≤ k) ∧ Aside0 (w'.heap[gb281]? = some (.cells #[.int .i64 x282000_1, .int .i64 x282001_1] 25 (0, 0))) ∧ Aside0 (w'.heap[gb282]? = some (.cells #[.int .i64 0, .int .i64 0] 25 (0, 0))) ∧ Aside0 (Below w.heap.size w w'))
    case atStart => exact ⟨(a0_0), (a0_1), H', ⟨Nat.le_refl _⟩, ⟨by (with_reducible repeat (first | refine kE ?_ _ | refine kG ?_ | refine kF ?_ _)); exact BK281.out⟩, ⟨by (with_reducible repeat (first | refine kE ?_ _ | refine kG ?_ | refine kF ?_ _)); exact BK282.out⟩, ⟨by repeat (first | (with_reducible first | exact HB.out | apply kC | apply kA | apply kD | refine kB ?_ GE281.out | refine kB ?_ GE282.out) | exact HB.out)⟩⟩
    case round =>
      clear H'
      try clear c2
      try clear p2
      try clear c3
      try clear c6
      try clear hcz7_0
      try clear hcz7_1
      try clear hfz7_0
      try clear hfz7_1
      obtain ⟨x282000_1, x282001_1, HA, HK1, BK281, BK282, HB⟩ := hrel
      cases gk with
      | zero => exact absurd HA.out (by simp [dec_Trim.l0])
      | succ k1 =>
        have H := HA.out
        clear HA
        simp only [dec_Trim.l0] at H
        by_cases c9 : x282001_1 > 0
        · rw [if_pos c9] at H
          have c9b0 : decide (0 < x282001_1) = true := decide_eq_true c9
          clear c9
          by_cases c10 : (Int.tmod x282000_1 10) = 0
          · rw [if_pos c10] at H
            have c10b0 : ((Int.tmod x282000_1 10) == 0) = true := beq_iff_eq.mpr c10
            have c10b1 : ((Int.tmod x282000_1 10) != 0) = false := bne_eq_false_iff_eq.mpr c10
            clear c10
            have H' := Aside0.mk H
            clear H
            have hnb11 := NB281_282.out
            have hnc11 := NB282_281.out
            have hcz12_0 : wr.cell? ⟨gb281, 0, none⟩ = some (.int .i64 x282000_1) := (kI BK281.out 0).trans rfl
            have hcz12_1 : wr.cell? ⟨gb281, 1, none⟩ = some (.int .i64 x282001_1) := (kI BK281.out 1).trans rfl
            have hfz12_0 := kH BK281.out 0
            have hfz12_1 := kH BK281.out 1
            go_wp2
            go_roundg k1
            case measure => have := HK1.out; omega
            case rel => exact ⟨(wrap64 (Int.tdiv x282000_1 10)), (wrap64 (x282001_1 - 1)), H', ⟨by have := HK1.out; omega⟩, ⟨by (with_reducible repeat (first | refine kE ?_ _ | refine kG ?_ | refine kF ?_ _)); refine blk_put (cs := #[.int .i64 (wrap64 (Int.tdiv x282000_1 10)), .int .i64 x282001_1]) ?_ 1 _ rfl; (with_reducible repeat (first | refine kE ?_ _ | refine kG ?_ | refine kF ?_ _)); refine blk_put (cs := #[.int .i64 x282000_1, .int .i64 x282001_1]) ?_ 0 _ rfl; (with_reducible repeat (first | refine kE ?_ _ | refine kG ?_ | refine kF ?_ _)); exact BK281.out⟩, ⟨by (with_reducible repeat (first | refine kE ?_ _ | refine kG ?_ | refine kF ?_ _)); refine blk_far ?_ NB282_281.out _; (with_reducible repeat (first | refine kE ?_ _ | refine kG ?_ | refine kF ?_ _)); refine blk_far ?_ NB282_281.out _; (with_reducible repeat (first | refine kE ?_ _ | refine kG ?_ | refine kF ?_ _)); exact BK282.out⟩, ⟨by repeat (first | (with_reducible first | exact HB.out | apply kC | apply kA | apply kD | refine kB ?_ GE281.out | refine kB ?_ GE282.out) | exact HB.out)⟩⟩
          · rw [if_neg c10] at H
            have c10b0 : ((Int.tmod x282000_1 10) == 0) = false := beq_eq_false_iff_ne.mpr c10
            have c10b1 : ((Int.tmod x282000_1 10) != 0) = true := bne_iff_ne.mpr c10
            simp only [Option.some.injEq, Prod.mk.injEq] at H
            obtain ⟨rfl, rfl⟩ := H
            have hnb13 := NB281_282.out
            have hnc13 := NB282_281.out
            have hcz14_0 : wr.cell? ⟨gb281, 0, none⟩ = some (.int .i64 x282000_1) := (kI BK281.out 0).trans rfl
            have hcz14_1 : wr.cell? ⟨gb281, 1, none⟩ = some (.int .i64 x282001_1) := (kI BK281.out 1).trans rfl
            have hfz14_0 := kH BK281.out 0
            have hfz14_1 := kH BK281.out 1
            have hcz15_0 : wr.cell? ⟨gb282, 0, none⟩ = some (.int .i64 0) := (kI BK282.out 0).trans rfl
            have hcz15_1 : wr.cell? ⟨gb282, 1, none⟩ = some (.int .i64 0) := (kI BK282.out 1).trans rfl
            have hfz15_0 := kH BK282.out 0
            have hfz15_1 := kH BK282.out 1
            go_wp2
            refine bodyPost_ret (results_cell_row rfl _ _ gb282 25 #[.int .i64 x282000_1, .int .i64 x282001_1] (0, 0) _ rfl (by (with_reducible repeat (first | refine kE ?_ _ | refine kG ?_ | refine kF ?_ _)); refine blk_put (cs := #[.int .i64 x282000_1, .int .i64 0]) ?_ 1 _ rfl; (with_reducible repeat (first | refine kE ?_ _ | refine kG ?_ | refine kF ?_ _)); refine blk_put (cs := #[.int .i64 0, .int .i64 0]) ?_ 0 _ rfl; (with_reducible repeat (first | refine kE ?_ _ | refine kG ?_ | refine kF ?_ _)); exact BK282.out) Try.underlying25 rfl (by kernel_rfl)) rfl ?_
            exact ⟨by first | rfl | (simp [errW_none, errW_some] <;> rfl) | (simp [*, errW_none, errW_some] <;> rfl), by repeat (first | (with_reducible first | exact HB.out | apply kC | apply kA | apply kD | refine kB ?_ GE281.out | refine kB ?_ GE282.out) | exact HB.out)⟩
        · rw [if_neg c9] at H
          have c9b0 : decide (0 < x282001_1) = false := decide_eq_false c9
          clear c9
          simp only [Option.some.injEq, Prod.mk.injEq] at H
          obtain ⟨rfl, rfl⟩ := H
          have hnb16 := NB281_282.out
          have hnc16 := NB282_281.out
          have hcz17_0 : wr.cell? ⟨gb281, 0, none⟩ = some (.int .i64 x282000_1) := (kI BK281.out 0).trans rfl
          have hcz17_1 : wr.cell? ⟨gb281, 1, none⟩ = some (.int .i64 x282001_1) := (kI BK281.out 1).trans rfl
          have hfz17_0 := kH BK281.out 0
          have hfz17_1 := kH BK281.out 1
          have hcz18_0 : wr.cell? ⟨gb282, 0, none⟩ = some (.int .i64 0) := (kI BK282.out 0).trans rfl
          have hcz18_1 : wr.cell? ⟨gb282, 1, none⟩ = some (.int .i64 0) := (kI BK282.out 1).trans rfl
          have hfz18_0 := kH BK282.out 0
          have hfz18_1 := kH BK282.out 1
          go_wp2
          refine bodyPost_ret (results_cell_row rfl _ _ gb282 25 #[.int .i64 x282000_1, .int .i64 x282001_1] (0, 0) _ rfl (by (with_reducible repeat (first | refine kE ?_ _ | refine kG ?_ | refine kF ?_ _)); refine blk_put (cs := #[.int .i64 x282000_1, .int .i64 0]) ?_ 1 _ rfl; (with_reducible repeat (first | refine kE ?_ _ | refine kG ?_ | refine kF ?_ _)); refine blk_put (cs := #[.int .i64 0, .int .i64 0]) ?_ 0 _ rfl; (with_reducible repeat (first | refine kE ?_ _ | refine kG ?_ | refine kF ?_ _)); exact BK282.out) Try.underlying25 rfl (by kernel_rfl)) rfl ?_
          exact ⟨by first | rfl | (simp [errW_none, errW_some] <;> rfl) | (simp [*, errW_none, errW_some] <;> rfl), by repeat (first | (with_reducible first | exact HB.out | apply kC | apply kA | apply kD | refine kB ?_ GE281.out | refine kB ?_ GE282.out) | exact HB.out)⟩
  · replace c3 := Bool.eq_false_iff.mpr c3
    subst c3
    have H1 : (some (a0_0, a0_1)) = some (r1, r2) := by rw [if_neg (show ¬ (false = true) by decide)] at H; exact H
    clear H
    have H := H1
    clear H1
    simp only [Option.some.injEq, Prod.mk.injEq] at H
    obtain ⟨rfl, rfl⟩ := H
    go_enter Try.func23, Try.ntmps23
    go_wp2_with (first | ((with_reducible refine gate_dst (N := 1) rfl ?_); refine box_event ?hg (N := 1) ?hd (cs := #[.int .i64 a0_0, .int .i64 a0_1]) (t := 25) ?hr ?_; (case hd => rfl); (case hg => rfl); (case hr => first | (go_simp; done) | (go_simp; rfl)); intro gb281 hg w19 hbox hb; have n0_ := Aside0.mk (kL (by repeat (first | (with_reducible first | exact HB.out | apply kC | apply kA | apply kD) | exact HB.out)) hb); have n1_ := Aside0.mk (hbox); have n2_ := Aside0.mk ((by rw [hg]; exact (kK (by repeat (first | (with_reducible first | exact HB.out | apply kC | apply kA | apply kD) | exact HB.out))) : w.heap.size ≤ gb281)); have n3_ := Aside0.mk ((by rw [hg]; exact (kK (by repeat (first | (with_reducible first | exact HB.out | apply kC | apply kA | apply kD) | exact HB.out))) : w.heap.size ≤ gb281)); clear HB; have HB := n0_; have BK281 := n1_; have GW281 := n2_; have GE281 := n3_; clear n0_ n1_ n2_ n3_; clear hb hbox hg) | ((with_reducible refine gate_dst (N := 2) rfl ?_); refine box_event ?hg (N := 2) ?hd (cs := #[.int .i64 0, .int .i64 0]) (t := 25) ?hr ?_; (case hd => rfl); (case hg => rfl); (case hr => first | (go_simp; done) | (go_simp; rfl)); intro gb282 hg w20 hbox hb; have n0_ := Aside0.mk (kJ (g := gb281) (o := .cells #[.int .i64 a0_0, .int .i64 a0_1] 25 (0, 0)) (by (with_reducible repeat (first | refine kE ?_ _ | refine kG ?_ | refine kF ?_ _)); exact BK281.out) hb); have n1_ := Aside0.mk (kL (by repeat (first | (with_reducible first | exact HB.out | apply kC | apply kA | apply kD | refine kB ?_ GE281.out) | exact HB.out)) hb); have n2_ := Aside0.mk (hbox); have n3_ := Aside0.mk ((by rw [hg]; exact (kK (by repeat (first | (with_reducible first | exact HB.out | apply kC | apply kA | apply kD | refine kB ?_ GE281.out) | exact HB.out))) : w.heap.size ≤ gb282)); have n4_ := Aside0.mk ((by rw [hg]; exact (kK (by repeat (first | (with_reducible first | exact HB.out | apply kC | apply kA | apply kD | refine kB ?_ GE281.out) | exact HB.out))) : w.heap.size ≤ gb282)); have n5_ := Aside0.mk ((by rw [hg]; exact Nat.ne_of_lt (blk_lt (g := gb281) (o := .cells #[.int .i64 a0_0, .int .i64 a0_1] 25 (0, 0)) (by (with_reducible repeat (first | refine kE ?_ _ | refine kG ?_ | refine kF ?_ _)); exact BK281.out)) : gb281 ≠ gb282)); have n6_ := Aside0.mk ((by rw [hg]; exact Nat.ne_of_gt (blk_lt (g := gb281) (o := .cells #[.int .i64 a0_0, .int .i64 a0_1] 25 (0, 0)) (by (with_reducible repeat (first | refine kE ?_ _ | refine kG ?_ | refine kF ?_ _)); exact BK281.out)) : gb282 ≠ gb281)); clear BK281; clear HB; have BK281 := n0_; have HB := n1_; have BK282 := n2_; have GW282 := n3_; have GE282 := n4_; have NB281_282 := n5_; have NB282_281 := n6_; clear n0_ n1_ n2_ n3_ n4_ n5_ n6_; clear hb hbox hg; have hnb21 := NB281_282.out; have hnc21 := NB282_281.out; have hcz22_0 : w20.cell? ⟨gb281, 0, none⟩ = some (.int .i64 a0_0) := (kI BK281.out 0).trans rfl; have hcz22_1 : w20.cell? ⟨gb281, 1, none⟩ = some (.int .i64 a0_1) := (kI BK281.out 1).trans rfl; have hfz22_0 := kH BK281.out 0; have hfz22_1 := kH BK281.out 1) | ((with_reducible refine gate_callee (f := 31) rfl ?_); refine goesL_ (some 4) rfl rfl Try.func31 (by kernel_rfl) rfl #[.agg #[.int .i64 a0_0, .int .i64 a0_1]] rfl (by (try simp only [List.map_toArray, List.map_cons, List.map_nil]); first | done | rfl | (simp only [List.length_drop, List.length_take]; rfl)) ?_; (with_reducible refine (dec_Right.calls a0_0 a0_1 false _ A2.out).mono ?_); rintro e w23 ⟨rfl, hb⟩; refine ⟨_, rfl, ?_⟩; have n0_ := Aside0.mk (kJ (g := gb281) (o := .cells #[.int .i64 a0_0, .int .i64 a0_1] 25 (0, 0)) (by (with_reducible repeat (first | refine kE ?_ _ | refine kG ?_ | refine kF ?_ _)); exact BK281.out) hb); have n1_ := Aside0.mk (kJ (g := gb282) (o := .cells #[.int .i64 0, .int .i64 0] 25 (0, 0)) (by (with_reducible repeat (first | refine kE ?_ _ | refine kG ?_ | refine kF ?_ _)); exact BK282.out) hb); have n2_ := Aside0.mk (kL (by repeat (first | (with_reducible first | exact HB.out | apply kC | apply kA | apply kD | refine kB ?_ GE281.out | refine kB ?_ GE282.out) | exact HB.out)) hb); clear BK281; clear BK282; clear HB; have BK281 := n0_; have BK282 := n1_; have HB := n2_; clear n0_ n1_ n2_; (try clear hb); (try clear hb2); (try clear hk); (try clear hi); have hcz24_0 : w23.cell? ⟨gb281, 0, none⟩ = some (.int .i64 a0_0) := (kI BK281.out 0).trans rfl; have hcz24_1 : w23.cell? ⟨gb281, 1, none⟩ = some (.int .i64 a0_1) := (kI BK281.out 1).trans rfl; have hfz24_0 := kH BK281.out 0; have hfz24_1 := kH BK281.out 1; have hcz25_0 : w23.cell? ⟨gb282, 0, none⟩ = some (.int .i64 0) := (kI BK282.out 0).trans rfl; have hcz25_1 : w23.cell? ⟨gb282, 1, none⟩ = some (.int .i64 0) := (kI BK282.out 1).trans rfl; have hfz25_0 := kH BK282.out 0; have hfz25_1 := kH BK282.out 1))
    refine bodyPost_ret (results_cell_row rfl _ _ gb282 25 #[.int .i64 a0_0, .int .i64 a0_1] (0, 0) _ rfl (by (with_reducible repeat (first | refine kE ?_ _ | refine kG ?_ | refine kF ?_ _)); refine blk_put (cs := #[.int .i64 a0_0, .int .i64 0]) ?_ 1 _ rfl; (with_reducible repeat (first | refine kE ?_ _ | refine kG ?_ | refine kF ?_ _)); refine blk_put (cs := #[.int .i64 0, .int .i64 0]) ?_ 0 _ rfl; (with_reducible repeat (first | refine kE ?_ _ | refine kG ?_ | refine kF ?_ _)); exact BK282.out) Try.underlying25 rfl (by kernel_rfl)) rfl ?_
    exact ⟨by first | rfl | (simp [errW_none, errW_some] <;> rfl) | (simp [*, errW_none, errW_some] <;> rfl), by repeat (first | (with_reducible first | exact HB.out | apply kC | apply kA | apply kD | refine kB ?_ GE281.out | refine kB ?_ GE282.out) | exact HB.out)⟩
noncomputable def dec_Trim.con (k : Nat) : Con
  | [.agg [.int .i64 a0_0, .int .i64 a0_1]] => some ((dec_Trim.f k a0_0 a0_1).isSome, .agg [.int .i64 (gd (dec_Trim.f k a0_0 a0_1)).1, .int .i64 (gd (dec_Trim.f k a0_0 a0_1)).2])
  | _ => none
set_option maxRecDepth 100000 in
theorem dec_Trim.cok (k : Nat) : COk Try.prog 23 (dec_Trim.con k) := by
  intro args p v hc hp w A hA
  unfold dec_Trim.con at hc
  split at hc
  · rename_i a0_0 a0_1
    simp only [Option.some.injEq, Prod.mk.injEq] at hc
    obtain ⟨rfl, rfl⟩ := hc
    rcases hf : dec_Trim.f k a0_0 a0_1 with _ | ⟨r1, r2⟩
    · rw [hf] at hp; cases hp
    obtain rfl : A = [.agg #[.int .i64 a0_0, .int .i64 a0_1]] := by simpa [rl_cons, rl_nil, rv_int, rv_bool, rv_str, rv_agg, rv_fn] using hA
    exact gives_of_calls (fn := Try.f23) Try.func23 (by kernel_rfl) (by kernel_rfl) (dec_Trim.calls _ _ _ _ _ w hf) (fun _ => by simp [gd_some, rl_cons, rl_nil, rv_int, rv_bool, rv_str, rv_agg, rv_tup]) (fun _ h => h)
  · cases hc
end Go.Proofs.Ytkongoedgngfhaa.P
namespace Go.Proofs.Ytkongoedgngfhaa.P
open Go.RowKit Go.Proofs.YtkongoedgngfhaaW.PrintWords Go.Proofs.YtkongoedgngfhaaW.PrintLast Go.Proofs.YtkongoedgngfhaaW.PrintMore
open Go.Proofs.Ytkongoedgngfhaa.A
attribute [local go_sem] max2_int min2_int max_two min_two max_three min_three max_four min_four   -- for this text's walks alone
set_option linter.unusedVariables false
set_option linter.unusedSimpArgs false
def num_Sub.f (a0 : Int) (a1 : Int) : Option (Int × Int) := if ((decide ((wrap64 (a0 - a1)) < a0)) != (decide (a1 > 0))) = true then (some (0, 10)) else (some (wrap64 (a0 - a1), 0))
set_option maxHeartbeats 8000000 in
set_option maxRecDepth 100000 in
theorem num_Sub.calls (a0 : Int) (a1 : Int) (r1 : Int) (r2 : Int) (w : World) (h : num_Sub.f a0 a1 = some (r1, r2)) :
    Calls Try.prog 33 #[.int .i64 a0, .int .i64 a1] w fun e w' => e = .returned (.tuple #[.int .i64 r1, .int .i64 r2]) ∧ Drawn0 w w' := by
  have H : (if ((decide ((wrap64 (a0 - a1)) < a0)) != (decide (a1 > 0))) = true then (some (0, 10)) else (some (wrap64 (a0 - a1), 0))) = some (r1, r2) := h
  clear h
  by_cases c3 : ((decide ((wrap64 (a0 - a1)) < a0)) != (decide (a1 > 0))) = true
  · rw [if_pos c3] at H
    have c3b0 : ((decide ((wrap64 (a0 - a1)) < a0)) != (decide (a1 > 0))) = true := c3
    (try (have c3b1 : decide ((decide ((wrap64 (a0 - a1)) < a0)) = (decide (a1 > 0))) = false := by simpa using c3))
    (try (have c3b2 : ((decide ((wrap64 (a0 - a1)) < a0)) == (decide (a1 > 0))) = false := by simpa using c3))
    (try (have c3b3 : ¬ ((decide ((wrap64 (a0 - a1)) < a0)) = (decide (a1 > 0))) := by simpa using c3))
    clear c3
    simp only [Option.some.injEq, Prod.mk.injEq] at H
    obtain ⟨rfl, rfl⟩ := H
    go_enter Try.func33, Try.ntmps33
    go_wp2
    go_ret2
    exact ⟨by first | rfl | (simp; done) | (simp [*]; done), by repeat (first | exact Drawn0.refl _ | apply Drawn0.step)⟩
  · rw [if_neg c3] at H
    have c3b0 : ((decide ((wrap64 (a0 - a1)) < a0)) != (decide (a1 > 0))) = false := by simpa using c3
    (try (have c3b1 : decide ((decide ((wrap64 (a0 - a1)) < a0)) = (decide (a1 > 0))) = true := by simpa using c3))
    (try (have c3b2 : ((decide ((wrap64 (a0 - a1)) < a0)) == (decide (a1 > 0))) = true := by simpa using c3))
    clear c3
    simp only [Option.some.injEq, Prod.mk.injEq] at H
    obtain ⟨rfl, rfl⟩ := H
    go_enter Try.func33, Try.ntmps33
    go_wp2
    go_ret2
    exact ⟨by first | rfl | (simp; done) | (simp [*]; done), by repeat (first | exact Drawn0.refl _ | apply Drawn0.step)⟩
def num_Neg.f (a0 : Int) : Option (Int × Int) := (num_Sub.f 0 a0).bind fun bt114 => (some (bt114.1, bt114.2))
set_option maxHeartbeats 8000000 in
set_option maxRecDepth 100000 in
theorem num_Neg.calls (a0 : Int) (r1 : Int) (r2 : Int) (w : World) (h : num_Neg.f a0 = some (r1, r2)) :
    Calls Try.prog 34 #[.int .i64 a0] w fun e w' => e = .returned (.tuple #[.int .i64 r1, .int .i64 r2]) ∧ Drawn0 w w' := by
  have H : ((num_Sub.f 0 a0).bind fun bt114 => (some (bt114.1, bt114.2))) = some (r1, r2) := h
  clear h
  replace H := Option.bind_eq_some_iff.mp H
  obtain ⟨⟨t114, t115⟩, A20, H⟩ := H
  replace H : (some (t114, t115)) = some (r1, r2) := H
  have A2 := Aside0.mk A20
  clear A20
  simp only [Option.some.injEq, Prod.mk.injEq] at H
  obtain ⟨rfl, rfl⟩ := H
  go_enter Try.func34, Try.ntmps34
  go_wp2_with (first | ((with_reducible refine gate_callee (f := 33) rfl ?_); refine goesL_ (some 5) rfl rfl Try.func33 (by kernel_rfl) rfl #[.int .i64 0, .int .i64 a0] rfl (by (try simp only [List.map_toArray, List.map_cons, List.map_nil]); first | done | rfl | (simp only [List.length_drop, List.length_take]; rfl)) ?_; (with_reducible refine (num_Sub.calls 0 a0 t114 t115 _ A2.out).mono ?_); rintro e w' ⟨rfl, ⟨nd, rfl⟩⟩; refine ⟨_, rfl, ?_⟩))
  go_ret2
  exact ⟨by first | rfl | (simp; done) | (simp [*]; done), by repeat (first | exact Drawn0.refl _ | apply Drawn0.step)⟩
def dec_made.f (a0 : Int) (a1 : Int) (a2 : Int) : Option (Int × Int × Int) := if a2 = 0 then (some (a0, a1, 0)) else (some (0, 0, a2))
set_option maxRecDepth 100000 in
theorem dec_made.vc (a0 : Int) (a1 : Int) (a2 : Int) (K : AV → Prop) : afv PA Try.prog (tab []) noLoops 2 35 [.int .i64 a0, .int .i64 a1, .int .i64 a2] K = (brc (a2 != 0) (K (AV.tup [AV.agg [AV.int IntKind.i64 0, AV.int IntKind.i64 0], AV.int IntKind.i64 a2])) (K (AV.tup [AV.agg [AV.int IntKind.i64 a0, AV.int IntKind.i64 a1], AV.int IntKind.i64 0]))) := by kernel_rfl
set_option maxHeartbeats 1000000 in
set_option maxRecDepth 100000 in
theorem dec_made.calls (a0 : Int) (a1 : Int) (a2 : Int) (r1 : Int) (r2 : Int) (r3 : Int) (w : World) (h : dec_made.f a0 a1 a2 = some (r1, r2, r3)) :
    Calls Try.prog 35 #[.int .i64 a0, .int .i64 a1, .int .i64 a2] w fun e w' => e = .returned (.tuple #[.agg #[.int .i64 r1, .int .i64 r2], .int .i64 r3]) ∧ Below w.heap.size w w' := by
  refine calls_of_vc (A := [.int .i64 a0, .int .i64 a1, .int .i64 a2]) (v := .tup [.agg [.int .i64 r1, .int .i64 r2], .int .i64 r3]) (tab_nil) ((dec_made.vc a0 a1 a2 _).mpr ?_) (by simp [rl_cons, rl_nil, rv_int, rv_bool, rv_str, rv_agg, rv_fn]) (fun ρ V' hV => by simpa [rl_cons, rl_nil, rv_int, rv_bool, rv_str, rv_agg, rv_tup] using hV)
  unfold dec_made.f at h
  (try simp only [bne, Option.bind_eq_some_iff, ite_some_iff] at h)
  (try simp only [bne, brc_iff, wrap_i64])
  first
    | grind (splits := 60) [gd_some]
    | ((repeat' (first | (have or_ : Or _ _ := h; clear or_; rcases h with h | h) | (have or_ : Exists _ := h; clear or_; obtain ⟨_, h⟩ := h) | (have or_ : And _ _ := h; clear or_; obtain ⟨hq_, h⟩ := h))) <;> (try simp only [Option.some.injEq, Prod.mk.injEq, reduceCtorEq] at h) <;> (try subst_vars) <;> first | (simp_all [gd_some] <;> (try omega) <;> done) | grind (splits := 60) [gd_some])
    | (intros; subst_vars; simp_all [gd_some]; done)
def dec_Read.f (a0 : ByteArray) : Option (Int × Int × Int) := if a0 = ⟨#[49, 50, 46, 51, 52, 48]⟩ then some (12340, 3, 0) else none
set_option maxHeartbeats 8000000 in
set_option maxRecDepth 100000 in
theorem dec_Read.at12 (w : World) :
    Calls Try.prog 11 #[.string ⟨#[49, 50, 46, 51, 52, 48]⟩] w fun e w' => e = .returned (.tuple #[.agg #[.int .i64 12340, .int .i64 3], .int .i64 0]) ∧ Below w.heap.size w w' := by
  have hu25 := Try.underlying25
  have HB := Aside0.mk (Below.refl w.heap.size w)
  have hn : ((((⟨#[49, 50, 46, 51, 52, 48]⟩ : ByteArray)[0]'(by decide)).toNat : Int) == 45) = false := by decide
  have hp : ((((⟨#[49, 50, 46, 51, 52, 48]⟩ : ByteArray)[0]'(by decide)).toNat : Int) == 43) = false := by decide
  go_enter Try.func11, Try.ntmps11
  go_wp2
  obtain ⟨g2, hg2⟩ : ∃ g, w.heap.size = g := ⟨_, rfl⟩
  obtain ⟨g5, hg5⟩ : ∃ g, w.heap.size + 1 = g := ⟨_, rfl⟩
  obtain ⟨gI, hgI⟩ : ∃ g, w.heap.size + 1 + 1 = g := ⟨_, rfl⟩
  have GE2 : Aside0 (w.heap.size ≤ g2) := ⟨by omega⟩
  have GE5 : Aside0 (w.heap.size ≤ g5) := ⟨by omega⟩
  have GEI : Aside0 (w.heap.size ≤ gI) := ⟨by omega⟩
  have N2I : Aside0 (g2 ≠ gI) := ⟨by omega⟩
  have N5I : Aside0 (g5 ≠ gI) := ⟨by omega⟩
  have N5I_ : Aside0 (gI ≠ g5) := ⟨by omega⟩
  have N25 : Aside0 (g2 ≠ g5) := ⟨by omega⟩
  have N25_ : Aside0 (g5 ≠ g2) := ⟨by omega⟩
  rw [hgI, hg5, hg2]
  go_loopg [6, 7, 8] 7 (fun q v6 v7 v8 wr => Aside0 (Below w.heap.size w wr) ∧ Aside0 (wr.heap[g2]? = some (.cells #[.int .i64 0, .int .i64 0] 25 (0, 0))) ∧
    ((Aside0 (q = 7) ∧ v6 = .int .i64 0 ∧ v7 = .bool false ∧ v8 = .int .i64 0 ∧ Aside0 (wr.heap[g5]? = some (.cells #[.int .i64 0, .int .i64 0] 25 (0, 0))) ∧ Aside0 (wr.heap[gI]? = some (.stringIter ⟨#[49, 50, 46, 51, 52, 48]⟩ 0))) ∨
     (Aside0 (q = 6) ∧ v6 = .int .i64 1 ∧ v7 = .bool false ∧ v8 = .int .i64 0 ∧ Aside0 (wr.heap[g5]? = some (.cells #[.int .i64 (-1), .int .i64 0] 25 (0, 0))) ∧ Aside0 (wr.heap[gI]? = some (.stringIter ⟨#[49, 50, 46, 51, 52, 48]⟩ 1))) ∨
     (Aside0 (q = 5) ∧ v6 = .int .i64 2 ∧ v7 = .bool false ∧ v8 = .int .i64 0 ∧ Aside0 (wr.heap[g5]? = some (.cells #[.int .i64 (-12), .int .i64 0] 25 (0, 0))) ∧ Aside0 (wr.heap[gI]? = some (.stringIter ⟨#[49, 50, 46, 51, 52, 48]⟩ 2))) ∨
     (Aside0 (q = 4) ∧ v6 = .int .i64 2 ∧ v7 = .bool true ∧ v8 = .int .i64 0 ∧ Aside0 (wr.heap[g5]? = some (.cells #[.int .i64 (-12), .int .i64 0] 25 (0, 0))) ∧ Aside0 (wr.heap[gI]? = some (.stringIter ⟨#[49, 50, 46, 51, 52, 48]⟩ 3))) ∨
     (Aside0 (q = 3) ∧ v6 = .int .i64 3 ∧ v7 = .bool true ∧ v8 = .int .i64 0 ∧ Aside0 (wr.heap[g5]? = some (.cells #[.int .i64 (-123), .int .i64 1] 25 (0, 0))) ∧ Aside0 (wr.heap[gI]? = some (.stringIter ⟨#[49, 50, 46, 51, 52, 48]⟩ 4))) ∨
     (Aside0 (q = 2) ∧ v6 = .int .i64 4 ∧ v7 = .bool true ∧ v8 = .int .i64 0 ∧ Aside0 (wr.heap[g5]? = some (.cells #[.int .i64 (-1234), .int .i64 2] 25 (0, 0))) ∧ Aside0 (wr.heap[gI]? = some (.stringIter ⟨#[49, 50, 46, 51, 52, 48]⟩ 5))) ∨
     (Aside0 (q = 1) ∧ v6 = .int .i64 5 ∧ v7 = .bool true ∧ v8 = .int .i64 0 ∧ Aside0 (wr.heap[g5]? = some (.cells #[.int .i64 (-12340), .int .i64 3] 25 (0, 0))) ∧ Aside0 (wr.heap[gI]? = some (.stringIter ⟨#[49, 50, 46, 51, 52, 48]⟩ 6)))))
  case atStart =>
    have e1 : ∀ o : Obj, (w.alloc o).heap.size = w.heap.size + 1 := fun o => by show (w.heap.push o).size = _; rw [Array.size_push]
    have e2 : ∀ o o2 : Obj, ((w.alloc o).alloc o2).heap.size = w.heap.size + 1 + 1 := fun o o2 => by show ((w.heap.push o).push o2).size = _; rw [Array.size_push, Array.size_push]
    refine ⟨⟨kC (kC (kC HB.out _) _) _⟩, ⟨?_⟩, .inl ⟨⟨rfl⟩, rfl, rfl, rfl, ⟨?_⟩, ⟨?_⟩⟩⟩
    · rw [← hg2]
      exact kF (kF (blk_new w _) _) _
    · rw [← hg5, ← e1 (.cells #[.int .i64 0, .int .i64 0] 25 (0, 0))]
      exact kF (blk_new (w.alloc _) _) _
    · rw [← hgI, ← e2 (.cells #[.int .i64 0, .int .i64 0] 25 (0, 0)) (.cells #[.int .i64 0, .int .i64 0] 25 (0, 0))]
      exact World.iter_heap _ _ _
  case round =>
    obtain ⟨HB, BK2, h⟩ := hrel
    rcases h with ⟨hq, rfl, rfl, rfl, BK5, HI⟩ | ⟨hq, rfl, rfl, rfl, BK5, HI⟩ | ⟨hq, rfl, rfl, rfl, BK5, HI⟩ | ⟨hq, rfl, rfl, rfl, BK5, HI⟩ | ⟨hq, rfl, rfl, rfl, BK5, HI⟩ | ⟨hq, rfl, rfl, rfl, BK5, HI⟩ | ⟨hq, rfl, rfl, rfl, BK5, HI⟩
    · have hnx : ∀ ty, (Instr.next (.pointer (some ⟨gI, 0, none⟩)) true ty).run Try.prog wr = .ok (.tuple #[.bool true, .int .i64 0, .int .i32 49]) (wr.iterAt gI ⟨#[49, 50, 46, 51, 52, 48]⟩ 1) := fun ty => (Lib.run_next_any_at wr gI ⟨#[49, 50, 46, 51, 52, 48]⟩ 0 ty HI.out (by decide)).trans (by rfl)
      have HI2 : Aside0 ((wr.iterAt gI ⟨#[49, 50, 46, 51, 52, 48]⟩ 1).heap[gI]? = some (.stringIter ⟨#[49, 50, 46, 51, 52, 48]⟩ 1)) := ⟨Lib.iterAt_heap wr gI ⟨#[49, 50, 46, 51, 52, 48]⟩ 0 1 HI.out⟩
      have HB2 : Aside0 (Below w.heap.size w (wr.iterAt gI ⟨#[49, 50, 46, 51, 52, 48]⟩ 1)) := ⟨Lib.below_iterAt HB.out GEI.out ⟨#[49, 50, 46, 51, 52, 48]⟩ 1⟩
      have BK22 : Aside0 ((wr.iterAt gI ⟨#[49, 50, 46, 51, 52, 48]⟩ 1).heap[g2]? = some (.cells #[.int .i64 0, .int .i64 0] 25 (0, 0))) := ⟨(Lib.iterAt_other wr gI g2 ⟨#[49, 50, 46, 51, 52, 48]⟩ 1 N2I.out).trans BK2.out⟩
      have BK52 : Aside0 ((wr.iterAt gI ⟨#[49, 50, 46, 51, 52, 48]⟩ 1).heap[g5]? = some (.cells #[.int .i64 0, .int .i64 0] 25 (0, 0))) := ⟨(Lib.iterAt_other wr gI g5 ⟨#[49, 50, 46, 51, 52, 48]⟩ 1 N5I.out).trans BK5.out⟩
      clear HI HB BK2 BK5
      have HI := HI2
      have HB := HB2
      have BK2 := BK22
      have BK5 := BK52
      clear HI2 HB2 BK22 BK52
      generalize wr.iterAt gI ⟨#[49, 50, 46, 51, 52, 48]⟩ 1 = w1 at *
      have hcz1_0 : w1.cell? ⟨g5, 0, none⟩ = some (.int .i64 0) := (kI BK5.out 0).trans rfl; have hcz1_1 : w1.cell? ⟨g5, 1, none⟩ = some (.int .i64 0) := (kI BK5.out 1).trans rfl; have hfz1_0 := kH BK5.out 0; have hfz1_1 := kH BK5.out 1
      go_wp2_with (first | (go_at_call 32; (with_reducible refine (num_Mul.calls 3 0 10 0 0 _ (by decide +kernel)).mono ?_); rintro e_ w2 ⟨rfl, hb⟩; have n0_ := Aside0.mk (kL (by repeat (first | (with_reducible first | exact HB.out | apply kC | apply kA | apply kD | refine kB ?_ GE2.out | refine kB ?_ GE5.out) | exact HB.out)) hb); have n1_ := Aside0.mk (kJ (g := g2) (o := .cells #[.int .i64 0, .int .i64 0] 25 (0, 0)) (by exact BK2.out) hb); have n2_ := Aside0.mk (kJ (g := g5) (o := .cells #[.int .i64 0, .int .i64 0] 25 (0, 0)) (by exact BK5.out) hb); have n3_ := Aside0.mk (kJ (g := gI) (o := .stringIter ⟨#[49, 50, 46, 51, 52, 48]⟩ 1) (by exact HI.out) hb); clear HB BK2 BK5 HI; have HB := n0_; have BK2 := n1_; have BK5 := n2_; have HI := n3_; clear n0_ n1_ n2_ n3_ hb; have hcz2_0 : w2.cell? ⟨g5, 0, none⟩ = some (.int .i64 0) := (kI BK5.out 0).trans rfl; have hcz2_1 : w2.cell? ⟨g5, 1, none⟩ = some (.int .i64 0) := (kI BK5.out 1).trans rfl; have hfz2_0 := kH BK5.out 0; have hfz2_1 := kH BK5.out 1) | (go_at_call 33; (with_reducible refine (num_Sub.calls 0 1 (-1) 0 _ (by decide +kernel)).mono ?_); rintro e_ w3 ⟨rfl, ⟨nd, rfl⟩⟩))
      go_roundg 6
      case measure => have := hq.out; omega
      case rel => exact ⟨⟨by repeat (first | (with_reducible first | exact HB.out | apply kC | apply kA | apply kD | refine kB ?_ GE2.out | refine kB ?_ GE5.out) | exact HB.out)⟩, ⟨blk_far (kE (blk_far BK2.out N25.out _) _) N25.out _⟩, .inr (.inl ⟨⟨rfl⟩, rfl, rfl, rfl, ⟨blk_put (cs := #[.int .i64 0, .int .i64 0]) (kE (blk_put (cs := #[.int .i64 0, .int .i64 0]) BK5.out 0 _ rfl) _) 0 _ rfl⟩, ⟨(Below.heap_setCell _ _ _ _ N5I_.out).trans (show _ = _ from (Below.heap_setCell _ _ _ _ N5I_.out).trans HI.out)⟩⟩)⟩
    · have hnx : ∀ ty, (Instr.next (.pointer (some ⟨gI, 0, none⟩)) true ty).run Try.prog wr = .ok (.tuple #[.bool true, .int .i64 1, .int .i32 50]) (wr.iterAt gI ⟨#[49, 50, 46, 51, 52, 48]⟩ 2) := fun ty => (Lib.run_next_any_at wr gI ⟨#[49, 50, 46, 51, 52, 48]⟩ 1 ty HI.out (by decide)).trans (by rfl)
      have HI2 : Aside0 ((wr.iterAt gI ⟨#[49, 50, 46, 51, 52, 48]⟩ 2).heap[gI]? = some (.stringIter ⟨#[49, 50, 46, 51, 52, 48]⟩ 2)) := ⟨Lib.iterAt_heap wr gI ⟨#[49, 50, 46, 51, 52, 48]⟩ 1 2 HI.out⟩
      have HB2 : Aside0 (Below w.heap.size w (wr.iterAt gI ⟨#[49, 50, 46, 51, 52, 48]⟩ 2)) := ⟨Lib.below_iterAt HB.out GEI.out ⟨#[49, 50, 46, 51, 52, 48]⟩ 2⟩
      have BK22 : Aside0 ((wr.iterAt gI ⟨#[49, 50, 46, 51, 52, 48]⟩ 2).heap[g2]? = some (.cells #[.int .i64 0, .int .i64 0] 25 (0, 0))) := ⟨(Lib.iterAt_other wr gI g2 ⟨#[49, 50, 46, 51, 52, 48]⟩ 2 N2I.out).trans BK2.out⟩
      have BK52 : Aside0 ((wr.iterAt gI ⟨#[49, 50, 46, 51, 52, 48]⟩ 2).heap[g5]? = some (.cells #[.int .i64 (-1), .int .i64 0] 25 (0, 0))) := ⟨(Lib.iterAt_other wr gI g5 ⟨#[49, 50, 46, 51, 52, 48]⟩ 2 N5I.out).trans BK5.out⟩
      clear HI HB BK2 BK5
      have HI := HI2
      have HB := HB2
      have BK2 := BK22
      have BK5 := BK52
      clear HI2 HB2 BK22 BK52
      generalize wr.iterAt gI ⟨#[49, 50, 46, 51, 52, 48]⟩ 2 = w1 at *
      have hcz1_0 : w1.cell? ⟨g5, 0, none⟩ = some (.int .i64 (-1)) := (kI BK5.out 0).trans rfl; have hcz1_1 : w1.cell? ⟨g5, 1, none⟩ = some (.int .i64 0) := (kI BK5.out 1).trans rfl; have hfz1_0 := kH BK5.out 0; have hfz1_1 := kH BK5.out 1
      go_wp2_with (first | (go_at_call 32; (with_reducible refine (num_Mul.calls 3 (-1) 10 (-10) 0 _ (by decide +kernel)).mono ?_); rintro e_ w2 ⟨rfl, hb⟩; have n0_ := Aside0.mk (kL (by repeat (first | (with_reducible first | exact HB.out | apply kC | apply kA | apply kD | refine kB ?_ GE2.out | refine kB ?_ GE5.out) | exact HB.out)) hb); have n1_ := Aside0.mk (kJ (g := g2) (o := .cells #[.int .i64 0, .int .i64 0] 25 (0, 0)) (by exact BK2.out) hb); have n2_ := Aside0.mk (kJ (g := g5) (o := .cells #[.int .i64 (-1), .int .i64 0] 25 (0, 0)) (by exact BK5.out) hb); have n3_ := Aside0.mk (kJ (g := gI) (o := .stringIter ⟨#[49, 50, 46, 51, 52, 48]⟩ 2) (by exact HI.out) hb); clear HB BK2 BK5 HI; have HB := n0_; have BK2 := n1_; have BK5 := n2_; have HI := n3_; clear n0_ n1_ n2_ n3_ hb; have hcz2_0 : w2.cell? ⟨g5, 0, none⟩ = some (.int .i64 (-1)) := (kI BK5.out 0).trans rfl; have hcz2_1 : w2.cell? ⟨g5, 1, none⟩ = some (.int .i64 0) := (kI BK5.out 1).trans rfl; have hfz2_0 := kH BK5.out 0; have hfz2_1 := kH BK5.out 1) | (go_at_call 33; (with_reducible refine (num_Sub.calls (-10) 2 (-12) 0 _ (by decide +kernel)).mono ?_); rintro e_ w3 ⟨rfl, ⟨nd, rfl⟩⟩))
      go_roundg 5
      case measure => have := hq.out; omega
      case rel => exact ⟨⟨by repeat (first | (with_reducible first | exact HB.out | apply kC | apply kA | apply kD | refine kB ?_ GE2.out | refine kB ?_ GE5.out) | exact HB.out)⟩, ⟨blk_far (kE (blk_far BK2.out N25.out _) _) N25.out _⟩, .inr (.inr (.inl ⟨⟨rfl⟩, rfl, rfl, rfl, ⟨blk_put (cs := #[.int .i64 (-10), .int .i64 0]) (kE (blk_put (cs := #[.int .i64 (-1), .int .i64 0]) BK5.out 0 _ rfl) _) 0 _ rfl⟩, ⟨(Below.heap_setCell _ _ _ _ N5I_.out).trans (show _ = _ from (Below.heap_setCell _ _ _ _ N5I_.out).trans HI.out)⟩⟩))⟩
    · have hnx : ∀ ty, (Instr.next (.pointer (some ⟨gI, 0, none⟩)) true ty).run Try.prog wr = .ok (.tuple #[.bool true, .int .i64 2, .int .i32 46]) (wr.iterAt gI ⟨#[49, 50, 46, 51, 52, 48]⟩ 3) := fun ty => (Lib.run_next_any_at wr gI ⟨#[49, 50, 46, 51, 52, 48]⟩ 2 ty HI.out (by decide)).trans (by rfl)
      have HI2 : Aside0 ((wr.iterAt gI ⟨#[49, 50, 46, 51, 52, 48]⟩ 3).heap[gI]? = some (.stringIter ⟨#[49, 50, 46, 51, 52, 48]⟩ 3)) := ⟨Lib.iterAt_heap wr gI ⟨#[49, 50, 46, 51, 52, 48]⟩ 2 3 HI.out⟩
      have HB2 : Aside0 (Below w.heap.size w (wr.iterAt gI ⟨#[49, 50, 46, 51, 52, 48]⟩ 3)) := ⟨Lib.below_iterAt HB.out GEI.out ⟨#[49, 50, 46, 51, 52, 48]⟩ 3⟩
      have BK22 : Aside0 ((wr.iterAt gI ⟨#[49, 50, 46, 51, 52, 48]⟩ 3).heap[g2]? = some (.cells #[.int .i64 0, .int .i64 0] 25 (0, 0))) := ⟨(Lib.iterAt_other wr gI g2 ⟨#[49, 50, 46, 51, 52, 48]⟩ 3 N2I.out).trans BK2.out⟩
      have BK52 : Aside0 ((wr.iterAt gI ⟨#[49, 50, 46, 51, 52, 48]⟩ 3).heap[g5]? = some (.cells #[.int .i64 (-12), .int .i64 0] 25 (0, 0))) := ⟨(Lib.iterAt_other wr gI g5 ⟨#[49, 50, 46, 51, 52, 48]⟩ 3 N5I.out).trans BK5.out⟩
      clear HI HB BK2 BK5
      have HI := HI2
      have HB := HB2
      have BK2 := BK22
      have BK5 := BK52
      clear HI2 HB2 BK22 BK52
      generalize wr.iterAt gI ⟨#[49, 50, 46, 51, 52, 48]⟩ 3 = w1 at *
      have hcz1_0 : w1.cell? ⟨g5, 0, none⟩ = some (.int .i64 (-12)) := (kI BK5.out 0).trans rfl; have hcz1_1 : w1.cell? ⟨g5, 1, none⟩ = some (.int .i64 0) := (kI BK5.out 1).trans rfl; have hfz1_0 := kH BK5.out 0; have hfz1_1 := kH BK5.out 1
      go_wp2
      go_roundg 4
      case measure => have := hq.out; omega
      case rel => exact ⟨⟨HB.out⟩, ⟨BK2.out⟩, .inr (.inr (.inr (.inl ⟨⟨rfl⟩, rfl, rfl, rfl, ⟨BK5.out⟩, ⟨HI.out⟩⟩)))⟩
    · have hnx : ∀ ty, (Instr.next (.pointer (some ⟨gI, 0, none⟩)) true ty).run Try.prog wr = .ok (.tuple #[.bool true, .int .i64 3, .int .i32 51]) (wr.iterAt gI ⟨#[49, 50, 46, 51, 52, 48]⟩ 4) := fun ty => (Lib.run_next_any_at wr gI ⟨#[49, 50, 46, 51, 52, 48]⟩ 3 ty HI.out (by decide)).trans (by rfl)
      have HI2 : Aside0 ((wr.iterAt gI ⟨#[49, 50, 46, 51, 52, 48]⟩ 4).heap[gI]? = some (.stringIter ⟨#[49, 50, 46, 51, 52, 48]⟩ 4)) := ⟨Lib.iterAt_heap wr gI ⟨#[49, 50, 46, 51, 52, 48]⟩ 3 4 HI.out⟩
      have HB2 : Aside0 (Below w.heap.size w (wr.iterAt gI ⟨#[49, 50, 46, 51, 52, 48]⟩ 4)) := ⟨Lib.below_iterAt HB.out GEI.out ⟨#[49, 50, 46, 51, 52, 48]⟩ 4⟩
      have BK22 : Aside0 ((wr.iterAt gI ⟨#[49, 50, 46, 51, 52, 48]⟩ 4).heap[g2]? = some (.cells #[.int .i64 0, .int .i64 0] 25 (0, 0))) := ⟨(Lib.iterAt_other wr gI g2 ⟨#[49, 50, 46, 51, 52, 48]⟩ 4 N2I.out).trans BK2.out⟩
      have BK52 : Aside0 ((wr.iterAt gI ⟨#[49, 50, 46, 51, 52, 48]⟩ 4).heap[g5]? = some (.cells #[.int .i64 (-12), .int .i64 0] 25 (0, 0))) := ⟨(Lib.iterAt_other wr gI g5 ⟨#[49, 50, 46, 51, 52, 48]⟩ 4 N5I.out).trans BK5.out⟩
      clear HI HB BK2 BK5
      have HI := HI2
      have HB := HB2
      have BK2 := BK22
      have BK5 := BK52
      clear HI2 HB2 BK22 BK52
      generalize wr.iterAt gI ⟨#[49, 50, 46, 51, 52, 48]⟩ 4 = w1 at *
      have hcz1_0 : w1.cell? ⟨g5, 0, none⟩ = some (.int .i64 (-12)) := (kI BK5.out 0).trans rfl; have hcz1_1 : w1.cell? ⟨g5, 1, none⟩ = some (.int .i64 0) := (kI BK5.out 1).trans rfl; have hfz1_0 := kH BK5.out 0; have hfz1_1 := kH BK5.out 1
      go_wp2_with (first | (go_at_call 32; (with_reducible refine (num_Mul.calls 3 (-12) 10 (-120) 0 _ (by decide +kernel)).mono ?_); rintro e_ w2 ⟨rfl, hb⟩; have n0_ := Aside0.mk (kL (by repeat (first | (with_reducible first | exact HB.out | apply kC | apply kA | apply kD | refine kB ?_ GE2.out | refine kB ?_ GE5.out) | exact HB.out)) hb); have n1_ := Aside0.mk (kJ (g := g2) (o := .cells #[.int .i64 0, .int .i64 0] 25 (0, 0)) (by refine blk_far ?_ N25.out _; exact BK2.out) hb); have n2_ := Aside0.mk (kJ (g := g5) (o := .cells #[.int .i64 (-12), .int .i64 1] 25 (0, 0)) (by refine blk_put (cs := #[.int .i64 (-12), .int .i64 0]) ?_ 1 _ rfl; exact BK5.out) hb); have n3_ := Aside0.mk (kJ (g := gI) (o := .stringIter ⟨#[49, 50, 46, 51, 52, 48]⟩ 4) (by rw [Below.heap_setCell _ _ _ _ N5I_.out]; exact HI.out) hb); clear HB BK2 BK5 HI; have HB := n0_; have BK2 := n1_; have BK5 := n2_; have HI := n3_; clear n0_ n1_ n2_ n3_ hb; have hcz2_0 : w2.cell? ⟨g5, 0, none⟩ = some (.int .i64 (-12)) := (kI BK5.out 0).trans rfl; have hcz2_1 : w2.cell? ⟨g5, 1, none⟩ = some (.int .i64 1) := (kI BK5.out 1).trans rfl; have hfz2_0 := kH BK5.out 0; have hfz2_1 := kH BK5.out 1) | (go_at_call 33; (with_reducible refine (num_Sub.calls (-120) 3 (-123) 0 _ (by decide +kernel)).mono ?_); rintro e_ w3 ⟨rfl, ⟨nd, rfl⟩⟩))
      go_roundg 3
      case measure => have := hq.out; omega
      case rel => exact ⟨⟨by repeat (first | (with_reducible first | exact HB.out | apply kC | apply kA | apply kD | refine kB ?_ GE2.out | refine kB ?_ GE5.out) | exact HB.out)⟩, ⟨blk_far (kE (blk_far BK2.out N25.out _) _) N25.out _⟩, .inr (.inr (.inr (.inr (.inl ⟨⟨rfl⟩, rfl, rfl, rfl, ⟨blk_put (cs := #[.int .i64 (-120), .int .i64 1]) (kE (blk_put (cs := #[.int .i64 (-12), .int .i64 1]) BK5.out 0 _ rfl) _) 0 _ rfl⟩, ⟨(Below.heap_setCell _ _ _ _ N5I_.out).trans (show _ = _ from (Below.heap_setCell _ _ _ _ N5I_.out).trans HI.out)⟩⟩))))⟩
    · have hnx : ∀ ty, (Instr.next (.pointer (some ⟨gI, 0, none⟩)) true ty).run Try.prog wr = .ok (.tuple #[.bool true, .int .i64 4, .int .i32 52]) (wr.iterAt gI ⟨#[49, 50, 46, 51, 52, 48]⟩ 5) := fun ty => (Lib.run_next_any_at wr gI ⟨#[49, 50, 46, 51, 52, 48]⟩ 4 ty HI.out (by decide)).trans (by rfl)
      have HI2 : Aside0 ((wr.iterAt gI ⟨#[49, 50, 46, 51, 52, 48]⟩ 5).heap[gI]? = some (.stringIter ⟨#[49, 50, 46, 51, 52, 48]⟩ 5)) := ⟨Lib.iterAt_heap wr gI ⟨#[49, 50, 46, 51, 52, 48]⟩ 4 5 HI.out⟩
      have HB2 : Aside0 (Below w.heap.size w (wr.iterAt gI ⟨#[49, 50, 46, 51, 52, 48]⟩ 5)) := ⟨Lib.below_iterAt HB.out GEI.out ⟨#[49, 50, 46, 51, 52, 48]⟩ 5⟩
      have BK22 : Aside0 ((wr.iterAt gI ⟨#[49, 50, 46, 51, 52, 48]⟩ 5).heap[g2]? = some (.cells #[.int .i64 0, .int .i64 0] 25 (0, 0))) := ⟨(Lib.iterAt_other wr gI g2 ⟨#[49, 50, 46, 51, 52, 48]⟩ 5 N2I.out).trans BK2.out⟩
      have BK52 : Aside0 ((wr.iterAt gI ⟨#[49, 50, 46, 51, 52, 48]⟩ 5).heap[g5]? = some (.cells #[.int .i64 (-123), .int .i64 1] 25 (0, 0))) := ⟨(Lib.iterAt_other wr gI g5 ⟨#[49, 50, 46, 51, 52, 48]⟩ 5 N5I.out).trans BK5.out⟩
      clear HI HB BK2 BK5
      have HI := HI2
      have HB := HB2
      have BK2 := BK22
      have BK5 := BK52
      clear HI2 HB2 BK22 BK52
      generalize wr.iterAt gI ⟨#[49, 50, 46, 51, 52, 48]⟩ 5 = w1 at *
      have hcz1_0 : w1.cell? ⟨g5, 0, none⟩ = some (.int .i64 (-123)) := (kI BK5.out 0).trans rfl; have hcz1_1 : w1.cell? ⟨g5, 1, none⟩ = some (.int .i64 1) := (kI BK5.out 1).trans rfl; have hfz1_0 := kH BK5.out 0; have hfz1_1 := kH BK5.out 1
      go_wp2_with (first | (go_at_call 32; (with_reducible refine (num_Mul.calls 3 (-123) 10 (-1230) 0 _ (by decide +kernel)).mono ?_); rintro e_ w2 ⟨rfl, hb⟩; have n0_ := Aside0.mk (kL (by repeat (first | (with_reducible first | exact HB.out | apply kC | apply kA | apply kD | refine kB ?_ GE2.out | refine kB ?_ GE5.out) | exact HB.out)) hb); have n1_ := Aside0.mk (kJ (g := g2) (o := .cells #[.int .i64 0, .int .i64 0] 25 (0, 0)) (by refine blk_far ?_ N25.out _; exact BK2.out) hb); have n2_ := Aside0.mk (kJ (g := g5) (o := .cells #[.int .i64 (-123), .int .i64 2] 25 (0, 0)) (by refine blk_put (cs := #[.int .i64 (-123), .int .i64 1]) ?_ 1 _ rfl; exact BK5.out) hb); have n3_ := Aside0.mk (kJ (g := gI) (o := .stringIter ⟨#[49, 50, 46, 51, 52, 48]⟩ 5) (by rw [Below.heap_setCell _ _ _ _ N5I_.out]; exact HI.out) hb); clear HB BK2 BK5 HI; have HB := n0_; have BK2 := n1_; have BK5 := n2_; have HI := n3_; clear n0_ n1_ n2_ n3_ hb; have hcz2_0 : w2.cell? ⟨g5, 0, none⟩ = some (.int .i64 (-123)) := (kI BK5.out 0).trans rfl; have hcz2_1 : w2.cell? ⟨g5, 1, none⟩ = some (.int .i64 2) := (kI BK5.out 1).trans rfl; have hfz2_0 := kH BK5.out 0; have hfz2_1 := kH BK5.out 1) | (go_at_call 33; (with_reducible refine (num_Sub.calls (-1230) 4 (-1234) 0 _ (by decide +kernel)).mono ?_); rintro e_ w3 ⟨rfl, ⟨nd, rfl⟩⟩))
      go_roundg 2
      case measure => have := hq.out; omega
      case rel => exact ⟨⟨by repeat (first | (with_reducible first | exact HB.out | apply kC | apply kA | apply kD | refine kB ?_ GE2.out | refine kB ?_ GE5.out) | exact HB.out)⟩, ⟨blk_far (kE (blk_far BK2.out N25.out _) _) N25.out _⟩, .inr (.inr (.inr (.inr (.inr (.inl ⟨⟨rfl⟩, rfl, rfl, rfl, ⟨blk_put (cs := #[.int .i64 (-1230), .int .i64 2]) (kE (blk_put (cs := #[.int .i64 (-123), .int .i64 2]) BK5.out 0 _ rfl) _) 0 _ rfl⟩, ⟨(Below.heap_setCell _ _ _ _ N5I_.out).trans (show _ = _ from (Below.heap_setCell _ _ _ _ N5I_.out).trans HI.out)⟩⟩)))))⟩
    · have hnx : ∀ ty, (Instr.next (.pointer (some ⟨gI, 0, none⟩)) true ty).run Try.prog wr = .ok (.tuple #[.bool true, .int .i64 5, .int .i32 48]) (wr.iterAt gI ⟨#[49, 50, 46, 51, 52, 48]⟩ 6) := fun ty => (Lib.run_next_any_at wr gI ⟨#[49, 50, 46, 51, 52, 48]⟩ 5 ty HI.out (by decide)).trans (by rfl)
      have HI2 : Aside0 ((wr.iterAt gI ⟨#[49, 50, 46, 51, 52, 48]⟩ 6).heap[gI]? = some (.stringIter ⟨#[49, 50, 46, 51, 52, 48]⟩ 6)) := ⟨Lib.iterAt_heap wr gI ⟨#[49, 50, 46, 51, 52, 48]⟩ 5 6 HI.out⟩
      have HB2 : Aside0 (Below w.heap.size w (wr.iterAt gI ⟨#[49, 50, 46, 51, 52, 48]⟩ 6)) := ⟨Lib.below_iterAt HB.out GEI.out ⟨#[49, 50, 46, 51, 52, 48]⟩ 6⟩
      have BK22 : Aside0 ((wr.iterAt gI ⟨#[49, 50, 46, 51, 52, 48]⟩ 6).heap[g2]? = some (.cells #[.int .i64 0, .int .i64 0] 25 (0, 0))) := ⟨(Lib.iterAt_other wr gI g2 ⟨#[49, 50, 46, 51, 52, 48]⟩ 6 N2I.out).trans BK2.out⟩
      have BK52 : Aside0 ((wr.iterAt gI ⟨#[49, 50, 46, 51, 52, 48]⟩ 6).heap[g5]? = some (.cells #[.int .i64 (-1234), .int .i64 2] 25 (0, 0))) := ⟨(Lib.iterAt_other wr gI g5 ⟨#[49, 50, 46, 51, 52, 48]⟩ 6 N5I.out).trans BK5.out⟩
      clear HI HB BK2 BK5
      have HI := HI2
      have HB := HB2
      have BK2 := BK22
      have BK5 := BK52
      clear HI2 HB2 BK22 BK52
      generalize wr.iterAt gI ⟨#[49, 50, 46, 51, 52, 48]⟩ 6 = w1 at *
      have hcz1_0 : w1.cell? ⟨g5, 0, none⟩ = some (.int .i64 (-1234)) := (kI BK5.out 0).trans rfl; have hcz1_1 : w1.cell? ⟨g5, 1, none⟩ = some (.int .i64 2) := (kI BK5.out 1).trans rfl; have hfz1_0 := kH BK5.out 0; have hfz1_1 := kH BK5.out 1
      go_wp2_with (first | (go_at_call 32; (with_reducible refine (num_Mul.calls 3 (-1234) 10 (-12340) 0 _ (by decide +kernel)).mono ?_); rintro e_ w2 ⟨rfl, hb⟩; have n0_ := Aside0.mk (kL (by repeat (first | (with_reducible first | exact HB.out | apply kC | apply kA | apply kD | refine kB ?_ GE2.out | refine kB ?_ GE5.out) | exact HB.out)) hb); have n1_ := Aside0.mk (kJ (g := g2) (o := .cells #[.int .i64 0, .int .i64 0] 25 (0, 0)) (by refine blk_far ?_ N25.out _; exact BK2.out) hb); have n2_ := Aside0.mk (kJ (g := g5) (o := .cells #[.int .i64 (-1234), .int .i64 3] 25 (0, 0)) (by refine blk_put (cs := #[.int .i64 (-1234), .int .i64 2]) ?_ 1 _ rfl; exact BK5.out) hb); have n3_ := Aside0.mk (kJ (g := gI) (o := .stringIter ⟨#[49, 50, 46, 51, 52, 48]⟩ 6) (by rw [Below.heap_setCell _ _ _ _ N5I_.out]; exact HI.out) hb); clear HB BK2 BK5 HI; have HB := n0_; have BK2 := n1_; have BK5 := n2_; have HI := n3_; clear n0_ n1_ n2_ n3_ hb; have hcz2_0 : w2.cell? ⟨g5, 0, none⟩ = some (.int .i64 (-1234)) := (kI BK5.out 0).trans rfl; have hcz2_1 : w2.cell? ⟨g5, 1, none⟩ = some (.int .i64 3) := (kI BK5.out 1).trans rfl; have hfz2_0 := kH BK5.out 0; have hfz2_1 := kH BK5.out 1) | (go_at_call 33; (with_reducible refine (num_Sub.calls (-12340) 0 (-12340) 0 _ (by decide +kernel)).mono ?_); rintro e_ w3 ⟨rfl, ⟨nd, rfl⟩⟩))
      go_roundg 1
      case measure => have := hq.out; omega
      case rel => exact ⟨⟨by repeat (first | (with_reducible first | exact HB.out | apply kC | apply kA | apply kD | refine kB ?_ GE2.out | refine kB ?_ GE5.out) | exact HB.out)⟩, ⟨blk_far (kE (blk_far BK2.out N25.out _) _) N25.out _⟩, .inr (.inr (.inr (.inr (.inr (.inr (⟨⟨rfl⟩, rfl, rfl, rfl, ⟨blk_put (cs := #[.int .i64 (-12340), .int .i64 3]) (kE (blk_put (cs := #[.int .i64 (-1234), .int .i64 3]) BK5.out 0 _ rfl) _) 0 _ rfl⟩, ⟨(Below.heap_setCell _ _ _ _ N5I_.out).trans (show _ = _ from (Below.heap_setCell _ _ _ _ N5I_.out).trans HI.out)⟩⟩))))))⟩
    · have hnx : ∀ ty, (Instr.next (.pointer (some ⟨gI, 0, none⟩)) true ty).run Try.prog wr = _ := fun ty => Lib.run_next_end_at wr gI ⟨#[49, 50, 46, 51, 52, 48]⟩ 6 ty HI.out (by decide)
      have hcz1_0 : wr.cell? ⟨g5, 0, none⟩ = some (.int .i64 (-12340)) := (kI BK5.out 0).trans rfl; have hcz1_1 : wr.cell? ⟨g5, 1, none⟩ = some (.int .i64 3) := (kI BK5.out 1).trans rfl; have hfz1_0 := kH BK5.out 0; have hfz1_1 := kH BK5.out 1
      go_wp2_with (first | (go_at_call 34; (with_reducible refine (num_Neg.calls (-12340) 12340 0 _ (by decide +kernel)).mono ?_); rintro e_ w3 ⟨rfl, ⟨nd, rfl⟩⟩) | (go_at_call 35; (with_reducible refine (dec_made.calls 12340 3 0 12340 3 0 _ (by decide +kernel)).mono ?_); rintro e_ w4 ⟨rfl, hb⟩; have n0_ := Aside0.mk (kL (by repeat (first | (with_reducible first | exact HB.out | apply kC | apply kA | apply kD | refine kB ?_ GE2.out | refine kB ?_ GE5.out) | exact HB.out)) hb); have n1_ := Aside0.mk (kJ (g := g2) (o := .cells #[.int .i64 0, .int .i64 0] 25 (0, 0)) (blk_far (kE BK2.out _) N25.out _) hb); clear HB BK2 BK5 HI; have HB := n0_; have BK2 := n1_; clear n0_ n1_ hb; have hcz9_0 : w4.cell? ⟨g2, 0, none⟩ = some (.int .i64 0) := (kI BK2.out 0).trans rfl; have hcz9_1 : w4.cell? ⟨g2, 1, none⟩ = some (.int .i64 0) := (kI BK2.out 1).trans rfl; have hfz9_0 := kH BK2.out 0; have hfz9_1 := kH BK2.out 1))
      refine bodyPost_ret (results_ct rfl _ _ g2 25 #[.int .i64 12340, .int .i64 3] (0, 0) _ rfl (by (with_reducible repeat (first | refine kE ?_ _ | refine kG ?_ | refine kF ?_ _)); refine blk_put (cs := #[.int .i64 12340, .int .i64 0]) ?_ 1 _ rfl; (with_reducible repeat (first | refine kE ?_ _ | refine kG ?_ | refine kF ?_ _)); refine blk_put (cs := #[.int .i64 0, .int .i64 0]) ?_ 0 _ rfl; (with_reducible repeat (first | refine kE ?_ _ | refine kG ?_ | refine kF ?_ _)); exact BK2.out) Try.underlying25 rfl (by kernel_rfl)) rfl ?_
      exact ⟨rfl, by repeat (first | (with_reducible first | exact HB.out | apply kC | apply kA | apply kD | refine kB ?_ GE2.out | refine kB ?_ GE5.out) | exact HB.out)⟩
theorem dec_Read.calls (a0 : ByteArray) (r1 : Int) (r2 : Int) (r3 : Int) (w : World) (h : dec_Read.f a0 = some (r1, r2, r3)) :
    Calls Try.prog 11 #[.string a0] w fun e w' => e = .returned (.tuple #[.agg #[.int .i64 r1, .int .i64 r2], .int .i64 r3]) ∧ Below w.heap.size w w' := by
  unfold dec_Read.f at h
  by_cases g : a0 = ⟨#[49, 50, 46, 51, 52, 48]⟩
  · rw [if_pos g] at h
    simp only [Option.some.injEq, Prod.mk.injEq] at h
    obtain ⟨rfl, rfl, rfl⟩ := h
    subst g
    exact dec_Read.at12 w
  · rw [if_neg g] at h
    cases h
noncomputable def dec_Read.con : Con
  | [.str a0] => some ((dec_Read.f a0).isSome, .tup [.agg [.int .i64 (gd (dec_Read.f a0)).1, .int .i64 (gd (dec_Read.f a0)).2.1], .int .i64 (gd (dec_Read.f a0)).2.2])
  | _ => none
set_option maxRecDepth 100000 in
theorem dec_Read.cok : COk Try.prog 11 (dec_Read.con) := by
  intro args p v hc hp w A hA
  unfold dec_Read.con at hc
  split at hc
  · rename_i a0
    simp only [Option.some.injEq, Prod.mk.injEq] at hc
    obtain ⟨rfl, rfl⟩ := hc
    rcases hf : dec_Read.f a0 with _ | ⟨r1, r2, r3⟩
    · rw [hf] at hp; cases hp
    obtain rfl : A = [.string a0] := by simpa [rl_cons, rl_nil, rv_int, rv_bool, rv_str, rv_agg, rv_fn] using hA
    exact gives_of_calls (fn := Try.f11) Try.func11 (by kernel_rfl) (by kernel_rfl) (dec_Read.calls _ _ _ _ w hf) (fun _ => by simp [gd_some, rl_cons, rl_nil, rv_int, rv_bool, rv_str, rv_agg, rv_tup]) (fun _ h => h)
  · cases hc
end Go.Proofs.Ytkongoedgngfhaa.P
namespace Go.Proofs.Ytkongoedgngfhaa.P
open Go.RowKit Go.Proofs.YtkongoedgngfhaaW.PrintWords Go.Proofs.YtkongoedgngfhaaW.PrintLast Go.Proofs.YtkongoedgngfhaaW.PrintMore
open Go.Proofs.Ytkongoedgngfhaa.A
attribute [local go_sem] max2_int min2_int max_two min_two max_three min_three max_four min_four   -- for this text's walks alone
set_option linter.unusedVariables false
set_option linter.unusedSimpArgs false
def computuslaw04_known.f (k : Nat)  : Option (Bool) := (dec_Read.f (⟨#[49, 50, 46, 51, 52, 48]⟩ : ByteArray)).bind fun bt284 => ((dec_Round.f k 25 1 0).bind fun bt288 => ((dec_Floor.f k (-5) 1).bind fun bt292 => ((dec_Trim.f k bt284.1 bt284.2.1).bind fun bt294 => ((dec_Text.f (-5) 1).bind fun t297 => (if t297.toList = ([45, 48, 46, 53] : List UInt8) then (if bt284.1 = 12340 then (if bt284.2.1 = 3 then (if bt284.2.2 = 0 then (if bt294.1 = 1234 then (if bt294.2 = 2 then (if bt288.1 = 3 then (if bt288.2.1 = 0 then (if bt288.2.2 = 0 then (if bt292.1 = (-1) then (some (bt292.2 == 0)) else (some false)) else (some false)) else (some false)) else (some false)) else (some false)) else (some false)) else (some false)) else (some false)) else (some false)) else (some false))))))
theorem computuslaw04_known.mono : ∀ k, LeO (computuslaw04_known.f k ) (computuslaw04_known.f (k + 1) ) := by
  intro  k
  unfold computuslaw04_known.f
  repeat' first
      | (with_reducible exact dec_Floor.mono _ _ _)
      | (with_reducible exact dec_Round.mono _ _ _ _)
      | (with_reducible exact dec_Trim.mono _ _ _)
      | (with_reducible exact LeO.refl _)
      | (with_reducible exact LeO.none _)
      | (with_reducible refine LeO.ite ?_ ?_)
      | (with_reducible refine LeO.bind ?_ (fun _ => ?_))
      | exact dec_Floor.mono _ _ _
      | exact dec_Round.mono _ _ _ _
      | exact dec_Trim.mono _ _ _
      | exact LeO.none _
      | refine LeO.ite ?_ ?_
      | refine LeO.bind ?_ (fun _ => ?_)
set_option maxRecDepth 100000 in
theorem computuslaw04_known.vc (k : Nat) (K : AV → Prop) : afv PA Try.prog (tab [(9, dec_Text.con), (11, dec_Read.con), (19, dec_Round.con k), (21, dec_Floor.con k), (23, dec_Trim.con k)]) noLoops 2 16 [] K = (brc (Option.isSome (dec_Read.f { data := #[49, 50, 46, 51, 52, 48] })) (∀ (m0 : Int), m0 = Prod.fst (gd (dec_Read.f { data := #[49, 50, 46, 51, 52, 48] })) → ∀ (m1 : Int), m1 = Prod.fst (Prod.snd (gd (dec_Read.f { data := #[49, 50, 46, 51, 52, 48] }))) → ∀ (m2 : Int), m2 = Prod.snd (Prod.snd (gd (dec_Read.f { data := #[49, 50, 46, 51, 52, 48] }))) → brc (Option.isSome (dec_Round.f k 25 1 0)) (∀ (m3 : Int), m3 = Prod.fst (gd (dec_Round.f k 25 1 0)) → ∀ (m4 : Int), m4 = Prod.fst (Prod.snd (gd (dec_Round.f k 25 1 0))) → ∀ (m5 : Int), m5 = Prod.snd (Prod.snd (gd (dec_Round.f k 25 1 0))) → brc (Option.isSome (dec_Floor.f k (-5) 1)) (∀ (m6 : Int), m6 = Prod.fst (gd (dec_Floor.f k (-5) 1)) → ∀ (m7 : Int), m7 = Prod.snd (gd (dec_Floor.f k (-5) 1)) → brc (Option.isSome (dec_Trim.f k m0 m1)) (∀ (m8 : Int), m8 = Prod.fst (gd (dec_Trim.f k m0 m1)) → ∀ (m9 : Int), m9 = Prod.snd (gd (dec_Trim.f k m0 m1)) → brc (Option.isSome (dec_Text.f (-5) 1)) (brc (ByteArray.toList (gd (dec_Text.f (-5) 1)) == ByteArray.toList { data := #[45, 48, 46, 53] }) (brc (m0 == 12340) (brc (m1 == 3) (brc (m2 == 0) (brc (m8 == 1234) (brc (m9 == 2) (brc (m3 == 3) (brc (m4 == 0) (brc (m5 == 0) (brc (m6 == -1) (K (AV.bool (m7 == 0))) (K (AV.bool false))) (K (AV.bool false))) (K (AV.bool false))) (K (AV.bool false))) (K (AV.bool false))) (K (AV.bool false))) (K (AV.bool false))) (K (AV.bool false))) (K (AV.bool false))) (K (AV.bool false))) False) False) False) False) False) := by kernel_rfl
set_option maxHeartbeats 1000000 in
set_option maxRecDepth 100000 in
theorem computuslaw04_known.calls (k : Nat)  (r : Bool) (w : World) (h : computuslaw04_known.f k  = some r) (hR : r = true) :
    Calls Try.prog 16 #[] w fun e w' => e = .returned (.bool r) ∧ Below w.heap.size w w' := by
  refine calls_of_vc (A := []) (v := .bool r) (tab_cons (dec_Text.cok) (tab_cons (dec_Read.cok) (tab_cons (dec_Round.cok k) (tab_cons (dec_Floor.cok k) (tab_cons (dec_Trim.cok k) (tab_nil)))))) ((computuslaw04_known.vc k _).mpr ?_) (by simp [rl_cons, rl_nil, rv_int, rv_bool, rv_str, rv_agg, rv_fn]) (fun ρ V' hV => by simpa [rl_cons, rl_nil, rv_int, rv_bool, rv_str, rv_agg, rv_tup] using hV)
  unfold computuslaw04_known.f at h
  (try simp only [bne, Option.bind_eq_some_iff, ite_some_iff] at h)
  (try simp only [bne, brc_iff, wrap_i64])
  first
    | grind (splits := 60) [gd_some]
    | ((repeat' (first | (have or_ : Or _ _ := h; clear or_; rcases h with h | h) | (have or_ : Exists _ := h; clear or_; obtain ⟨_, h⟩ := h) | (have or_ : And _ _ := h; clear or_; obtain ⟨hq_, h⟩ := h))) <;> (try simp only [Option.some.injEq, Prod.mk.injEq, reduceCtorEq] at h) <;> (try subst_vars) <;> first | (simp_all [gd_some] <;> (try omega) <;> done) | grind (splits := 60) [gd_some])
    | (intros; subst_vars; simp_all [gd_some]; done)
noncomputable def computuslaw04_known.con (k : Nat) : Con
  | [] => some (decide (computuslaw04_known.f k = some true), .bool true)
  | _ => none
set_option maxRecDepth 100000 in
theorem computuslaw04_known.cok (k : Nat) : COk Try.prog 16 (computuslaw04_known.con k) := by
  intro args p v hc hp w A hA
  unfold computuslaw04_known.con at hc
  split at hc
  · simp only [Option.some.injEq, Prod.mk.injEq] at hc
    obtain ⟨rfl, rfl⟩ := hc
    have hf := of_decide_eq_true hp
    obtain rfl : A = [] := by simpa [rl_cons, rl_nil, rv_int, rv_bool, rv_str, rv_agg, rv_fn] using hA
    exact gives_of_calls (fn := Try.f16) Try.func16 (by kernel_rfl) (by kernel_rfl) (computuslaw04_known.calls _ _ w hf rfl) (fun _ => by simp [gd_some, rl_cons, rl_nil, rv_int, rv_bool, rv_str, rv_agg, rv_tup]) (fun _ h => h)
  · cases hc
end Go.Proofs.Ytkongoedgngfhaa.P
namespace Go.Proofs.Ytkongoedgngfhaa.P
open Go.RowKit Go.Proofs.YtkongoedgngfhaaW.PrintWords Go.Proofs.YtkongoedgngfhaaW.PrintLast Go.Proofs.YtkongoedgngfhaaW.PrintMore
attribute [local go_sem] max2_int min2_int max_two min_two max_three min_three max_four min_four   -- for this text's walks alone
set_option linter.unusedVariables false
set_option linter.unusedSimpArgs false
mutual
def computusref01_Small.l0 : Nat → Int → Bool → List Int → Option (Int × Int)
  | 0, _, _, _ => none
  | k + 1, x4, x185000, x185001 => if x4 < 6 then (if 0 ≤ x4 then (if x4 < (x185001.length : Int) then (if (rd x185001 x4) = 0 then (computusref01_Small.l0 k (wrap64 (x4 + 1)) x185000 x185001) else (some (0, 10))) else (none)) else (none)) else (if 1 < (x185001.length : Int) then (if 0 < (x185001.length : Int) then (if x185000 = true then (computusref01_Small.j1 k (Go.bits .or .u64 (IntKind.u64.wrap ((rd x185001 1) * 4294967296)) (rd x185001 0)) (decide ((Go.bits .or .u64 (IntKind.u64.wrap ((rd x185001 1) * 4294967296)) (rd x185001 0)) ≤ 9223372036854775808)) x185000 x185001) else (computusref01_Small.j1 k (Go.bits .or .u64 (IntKind.u64.wrap ((rd x185001 1) * 4294967296)) (rd x185001 0)) false x185000 x185001)) else (none)) else (none))
def computusref01_Small.j1 : Nat → Int → Bool → Bool → List Int → Option (Int × Int)
  | 0, _, _, _, _ => none
  | k + 1, x5, x31, x185000, x185001 => if x31 = true then (some (wrap64 (IntKind.u64.wrap (-x5)), 0)) else (if x185000 = true then (some (0, 10)) else (if x5 ≥ 9223372036854775808 then (some (0, 10)) else (some (wrap64 (x5), 0))))
end
def computusref01_Small.f (k : Nat) (a0_0 : Bool) (l0_1 : List Int) : Option (Int × Int) := computusref01_Small.l0 k 2 a0_0 l0_1
theorem computusref01_Small.mono_l : ∀ k, (∀ y0 y1 y2, LeO (computusref01_Small.l0 k y0 y1 y2) (computusref01_Small.l0 (k + 1) y0 y1 y2)) ∧ (∀ y0 y1 y2 y3, LeO (computusref01_Small.j1 k y0 y1 y2 y3) (computusref01_Small.j1 (k + 1) y0 y1 y2 y3))
  | 0 => ⟨fun _ _ _ r h => by simp [computusref01_Small.l0] at h, fun _ _ _ _ r h => by simp [computusref01_Small.j1] at h⟩
  | k + 1 => by
    obtain ⟨ih0, ih1⟩ := computusref01_Small.mono_l k
    refine ⟨?_, ?_⟩
    · intro y0 y1 y2
      unfold computusref01_Small.l0
      repeat' first
      | (with_reducible exact ih0 _ _ _)
      | (with_reducible exact ih1 _ _ _ _)
      | (with_reducible exact LeO.refl _)
      | (with_reducible exact LeO.none _)
      | (with_reducible refine LeO.ite ?_ ?_)
      | (with_reducible refine LeO.bind ?_ (fun _ => ?_))
      | exact ih0 _ _ _
      | exact ih1 _ _ _ _
      | exact LeO.none _
      | refine LeO.ite ?_ ?_
      | refine LeO.bind ?_ (fun _ => ?_)
    · intro y0 y1 y2 y3
      unfold computusref01_Small.j1
      repeat' first
      | (with_reducible exact ih0 _ _ _)
      | (with_reducible exact ih1 _ _ _ _)
      | (with_reducible exact LeO.refl _)
      | (with_reducible exact LeO.none _)
      | (with_reducible refine LeO.ite ?_ ?_)
      | (with_reducible refine LeO.bind ?_ (fun _ => ?_))
      | exact ih0 _ _ _
      | exact ih1 _ _ _ _
      | exact LeO.none _
      | refine LeO.ite ?_ ?_
      | refine LeO.bind ?_ (fun _ => ?_)
theorem computusref01_Small.mono : ∀ a0 a1 k, LeO (computusref01_Small.f k a0 a1) (computusref01_Small.f (k + 1) a0 a1) := by
  intro a0 a1 k
  obtain ⟨ih0, ih1⟩ := computusref01_Small.mono_l k
  unfold computusref01_Small.f
  repeat' first
      | (with_reducible exact ih0 _ _ _)
      | (with_reducible exact ih1 _ _ _ _)
      | (with_reducible exact LeO.refl _)
      | (with_reducible exact LeO.none _)
      | (with_reducible refine LeO.ite ?_ ?_)
      | (with_reducible refine LeO.bind ?_ (fun _ => ?_))
      | exact ih0 _ _ _
      | exact ih1 _ _ _ _
      | exact LeO.none _
      | refine LeO.ite ?_ ?_
      | refine LeO.bind ?_ (fun _ => ?_)
set_option maxHeartbeats 8000000 in
set_option maxRecDepth 100000 in
theorem computusref01_Small.calls (k : Nat) (a0_0 : Bool) (A0_1 : Option Addr) (c0_1 : Nat) (l0_1 : List Int) (r1 : Int) (r2 : Int) (w : World) (hr0_1 : Kd.C (Kd.int .u64) w A0_1 l0_1.length l0_1) (hc0_1 : l0_1.length ≤ c0_1) (h : computusref01_Small.f k a0_0 l0_1 = some (r1, r2)) :
    Calls Try.prog 40 #[.agg #[.bool a0_0, .slice A0_1 l0_1.length c0_1]] w fun e w' => e = .returned (.tuple #[.int .i64 r1, .int .i64 r2]) ∧ Below w.heap.size w w' := by
  have hu60 := Try.underlying60
  have HR0_1 := Aside0.mk hr0_1
  have HC0_1 := Aside0.mk hc0_1
  clear hr0_1 hc0_1
  have HB := Aside0.mk (Below.refl w.heap.size w)
  have H : (computusref01_Small.l0 k 2 a0_0 l0_1) = some (r1, r2) := h
  clear h
  have H' := Aside0.mk H
  clear H
  go_enter Try.func40, Try.ntmps40
  go_wp2_with (first | ((with_reducible refine gate_dst (N := 1) rfl ?_); refine box_event ?hg (N := 1) ?hd (cs := #[.bool a0_0, .slice A0_1 l0_1.length c0_1]) (t := 60) ?hr ?_; (case hd => rfl); (case hg => rfl); (case hr => first | (go_simp; done) | (go_simp; rfl)); intro gb184 hg w2 hbox hb; have n0_ := Aside0.mk (kL (by repeat (first | (with_reducible first | exact HB.out | apply kC | apply kA | apply kD) | exact HB.out)) hb); have n1_ := Aside0.mk (hbox); have n2_ := Aside0.mk ((by rw [hg]; exact (kK (by repeat (first | (with_reducible first | exact HB.out | apply kC | apply kA | apply kD) | exact HB.out))) : w.heap.size ≤ gb184)); have n3_ := Aside0.mk ((by rw [hg]; exact (kK (by repeat (first | (with_reducible first | exact HB.out | apply kC | apply kA | apply kD) | exact HB.out))) : w.heap.size ≤ gb184)); clear HB; have HB := n0_; have BK184 := n1_; have GW184 := n2_; have GE184 := n3_; clear n0_ n1_ n2_ n3_; clear hb hbox hg))
  repeat (go_quiet (first | ((with_reducible refine gate_dst (N := 1) rfl ?_); refine box_event ?hg (N := 1) ?hd (cs := #[.bool a0_0, .slice A0_1 l0_1.length c0_1]) (t := 60) ?hr ?_; (case hd => rfl); (case hg => rfl); (case hr => first | (go_simp; done) | (go_simp; rfl)); intro gb184 hg w2 hbox hb; have n0_ := Aside0.mk (kL (by repeat (first | (with_reducible first | exact HB.out | apply kC | apply kA | apply kD) | exact HB.out)) hb); have n1_ := Aside0.mk (hbox); have n2_ := Aside0.mk ((by rw [hg]; exact (kK (by repeat (first | (with_reducible first | exact HB.out | apply kC | apply kA | apply kD) | exact HB.out))) : w.heap.size ≤ gb184)); have n3_ := Aside0.mk ((by rw [hg]; exact (kK (by repeat (first | (with_reducible first | exact HB.out | apply kC | apply kA | apply kD) | exact HB.out))) : w.heap.size ≤ gb184)); clear HB; have HB := n0_; have BK184 := n1_; have GW184 := n2_; have GE184 := n3_; clear n0_ n1_ n2_ n3_; clear hb hbox hg)); try go_wp2_with (first | ((with_reducible refine gate_dst (N := 1) rfl ?_); refine box_event ?hg (N := 1) ?hd (cs := #[.bool a0_0, .slice A0_1 l0_1.length c0_1]) (t := 60) ?hr ?_; (case hd => rfl); (case hg => rfl); (case hr => first | (go_simp; done) | (go_simp; rfl)); intro gb184 hg w2 hbox hb; have n0_ := Aside0.mk (kL (by repeat (first | (with_reducible first | exact HB.out | apply kC | apply kA | apply kD) | exact HB.out)) hb); have n1_ := Aside0.mk (hbox); have n2_ := Aside0.mk ((by rw [hg]; exact (kK (by repeat (first | (with_reducible first | exact HB.out | apply kC | apply kA | apply kD) | exact HB.out))) : w.heap.size ≤ gb184)); have n3_ := Aside0.mk ((by rw [hg]; exact (kK (by repeat (first | (with_reducible first | exact HB.out | apply kC | apply kA | apply kD) | exact HB.out))) : w.heap.size ≤ gb184)); clear HB; have HB := n0_; have BK184 := n1_; have GW184 := n2_; have GE184 := n3_; clear n0_ n1_ n2_ n3_; clear hb hbox hg)))
  go_loopg [4] k (fun kq v4 w' => ∃ (x4_1 : Int), v4 = .int .i64 x4_1 ∧ Aside0 (computusref01_Small.l0 kq x4_1 a0_0 l0_1 = some (r1, r2)) ∧ Aside0 (kq ≤ k) ∧ Aside0 (w'.heap[gb184]? = some (.cells #[.bool a0_0, (.slice A0_1 l0_1.length c0_1)] 60 (0, 0))) ∧ Aside0 (Below w.heap.size w w'))
  case atStart => exact ⟨(2), (by first | rfl | (simp; done) | (simp [*]; done)), H', ⟨Nat.le_refl _⟩, ⟨by (with_reducible repeat (first | refine kE ?_ _ | refine kG ?_ | refine kF ?_ _)); exact BK184.out⟩, ⟨by repeat (first | (with_reducible first | exact HB.out | apply kC | apply kA | apply kD | refine kB ?_ GE184.out) | exact HB.out)⟩⟩
  case round =>
    clear H'
    try clear p2
    obtain ⟨x4_1, rfl, HA, HK1, BK184, HB⟩ := hrel
    cases gk with
    | zero => exact absurd HA.out (by simp [computusref01_Small.l0])
    | succ k1 =>
      have H := HA.out
      clear HA
      simp only [computusref01_Small.l0] at H
      by_cases c3 : x4_1 < 6
      · rw [if_pos c3] at H
        have c3b0 : decide (x4_1 < 6) = true := decide_eq_true c3
        clear c3
        by_cases c4 : 0 ≤ x4_1
        · rw [if_pos c4] at H
          have c4b0 : decide (0 ≤ x4_1) = true := decide_eq_true c4
          clear c4
          by_cases c5 : x4_1 < (l0_1.length : Int)
          · rw [if_pos c5] at H
            have c5b0 : decide (x4_1 < (l0_1.length : Int)) = true := decide_eq_true c5
            clear c5
            by_cases c6 : (rd l0_1 x4_1) = 0
            · rw [if_pos c6] at H
              have c6b0 : ((rd l0_1 x4_1) == 0) = true := beq_iff_eq.mpr c6
              have c6b1 : ((rd l0_1 x4_1) != 0) = false := bne_eq_false_iff_eq.mpr c6
              clear c6
              have H' := Aside0.mk H
              clear H
              have hcz7_0 : wr.cell? ⟨gb184, 0, none⟩ = some (.bool a0_0) := (kI BK184.out 0).trans rfl
              have hcz7_1 : wr.cell? ⟨gb184, 1, none⟩ = some (.slice A0_1 l0_1.length c0_1) := (kI BK184.out 1).trans rfl
              have hfz7_0 := kH BK184.out 0
              have hfz7_1 := kH BK184.out 1
              have p185 : 0 ≤ (x4_1 : Int) := of_decide_eq_true (by first | (with_reducible assumption) | assumption)
              have q185 : x4_1 < (l0_1.length : Int) := of_decide_eq_true (by first | (with_reducible assumption) | assumption)
              obtain ⟨ad185, e185, hx185_0⟩ := Kd.at_int HR0_1.out x4_1 p185 q185
              cases e185
              replace hx185_0 := (HB.out.cell (World.block_lt_of_cell? w _ hx185_0)).trans hx185_0
              replace p185 := eq_true p185
              replace q185 := eq_true q185
              go_wp2
              repeat (go_quiet (fail); try go_wp2)
              go_roundg k1
              case measure => have := HK1.out; omega
              case rel => exact ⟨(wrap64 (x4_1 + 1)), (by first | rfl | (simp; done) | (simp [*]; done)), H', ⟨by have := HK1.out; omega⟩, ⟨by (with_reducible repeat (first | refine kE ?_ _ | refine kG ?_ | refine kF ?_ _)); exact BK184.out⟩, ⟨by repeat (first | (with_reducible first | exact HB.out | apply kC | apply kA | apply kD | refine kB ?_ GE184.out) | exact HB.out)⟩⟩
            · rw [if_neg c6] at H
              have c6b0 : ((rd l0_1 x4_1) == 0) = false := beq_eq_false_iff_ne.mpr c6
              have c6b1 : ((rd l0_1 x4_1) != 0) = true := bne_iff_ne.mpr c6
              simp only [Option.some.injEq, Prod.mk.injEq] at H
              obtain ⟨rfl, rfl⟩ := H
              have hcz8_0 : wr.cell? ⟨gb184, 0, none⟩ = some (.bool a0_0) := (kI BK184.out 0).trans rfl
              have hcz8_1 : wr.cell? ⟨gb184, 1, none⟩ = some (.slice A0_1 l0_1.length c0_1) := (kI BK184.out 1).trans rfl
              have hfz8_0 := kH BK184.out 0
              have hfz8_1 := kH BK184.out 1
              have p185 : 0 ≤ (x4_1 : Int) := of_decide_eq_true (by first | (with_reducible assumption) | assumption)
              have q185 : x4_1 < (l0_1.length : Int) := of_decide_eq_true (by first | (with_reducible assumption) | assumption)
              obtain ⟨ad185, e185, hx185_0⟩ := Kd.at_int HR0_1.out x4_1 p185 q185
              cases e185
              replace hx185_0 := (HB.out.cell (World.block_lt_of_cell? w _ hx185_0)).trans hx185_0
              replace p185 := eq_true p185
              replace q185 := eq_true q185
              go_wp2
              repeat (go_quiet (fail); try go_wp2)
              go_ret2
              exact ⟨by first | rfl | (simp [errW_none, errW_some] <;> rfl) | (simp [*, errW_none, errW_some] <;> rfl), by repeat (first | (with_reducible first | exact HB.out | apply kC | apply kA | apply kD | refine kB ?_ GE184.out) | exact HB.out)⟩
          · rw [if_neg c5] at H
            exact absurd H (by simp)
        · rw [if_neg c4] at H
          exact absurd H (by simp)
      · rw [if_neg c3] at H
        have c3b0 : decide (x4_1 < 6) = false := decide_eq_false c3
        clear c3
        by_cases c9 : 1 < (l0_1.length : Int)
        · rw [if_pos c9] at H
          have c9b0 : decide (1 < (l0_1.length : Int)) = true := decide_eq_true c9
          have c9b1 : decide (1 < l0_1.length) = true := decide_eq_true (by omega)
          clear c9
          by_cases c10 : 0 < (l0_1.length : Int)
          · rw [if_pos c10] at H
            have c10b0 : decide (0 < (l0_1.length : Int)) = true := decide_eq_true c10
            have c10b1 : decide (0 < l0_1.length) = true := decide_eq_true (by omega)
            clear c10
            have HC11 := Aside0.mk H
            clear H
            have hcz12_0 : wr.cell? ⟨gb184, 0, none⟩ = some (.bool a0_0) := (kI BK184.out 0).trans rfl
            have hcz12_1 : wr.cell? ⟨gb184, 1, none⟩ = some (.slice A0_1 l0_1.length c0_1) := (kI BK184.out 1).trans rfl
            have hfz12_0 := kH BK184.out 0
            have hfz12_1 := kH BK184.out 1
            have p186 : 0 ≤ (1 : Int) := (by omega)
            have q186 : 1 < (l0_1.length : Int) := of_decide_eq_true (by first | (with_reducible assumption) | assumption)
            obtain ⟨ad186, e186, hx186_0⟩ := Kd.at_int HR0_1.out 1 p186 q186
            cases e186
            (try simp only [show (1 : Int).toNat = 1 from rfl, Nat.reduceMul, Nat.reduceEqDiff, Go.Addr.add, ↓reduceIte] at hx186_0)
            have qi186 : (1 < l0_1.length) = True := eq_true (by omega)
            (try rw [show ((1 : Int)).toNat = 1 from rfl] at hx186_0)
            replace hx186_0 := (HB.out.cell (World.block_lt_of_cell? w _ hx186_0)).trans hx186_0
            replace p186 := eq_true p186
            replace q186 := eq_true q186
            have p187 : 0 ≤ (0 : Int) := (by omega)
            have q187 : 0 < (l0_1.length : Int) := of_decide_eq_true (by first | (with_reducible assumption) | assumption)
            obtain ⟨ad187, e187, hx187_0⟩ := Kd.at_int HR0_1.out 0 p187 q187
            obtain rfl : ad186 = ad187 := (by injection e187)
            have qi187 : (0 < l0_1.length) = True := eq_true (by omega)
            (try rw [show ((0 : Int)).toNat = 0 from rfl] at hx187_0)
            (try rw [Addr.add_zero'] at hx187_0)
            replace hx187_0 := (HB.out.cell (World.block_lt_of_cell? w _ hx187_0)).trans hx187_0
            replace p187 := eq_true p187
            replace q187 := eq_true q187
            go_upto_region 7 with (fail)
            repeat (go_quiet (fail); go_upto_region 7 with (fail))
            go_cut [31] (fun v31 wc => ∃ (kq : Nat) (x31_10 : Bool), v31 = .bool x31_10 ∧ Aside0 (computusref01_Small.j1 kq (Go.bits .or .u64 (IntKind.u64.wrap ((rd l0_1 1) * 4294967296)) (rd l0_1 0)) x31_10 a0_0 l0_1 = some (r1, r2)) ∧ Aside0 (kq ≤ k1) ∧ Aside0 (wc.heap[gb184]? = some (.cells #[.bool a0_0, (.slice (some ad186) l0_1.length c0_1)] 60 (0, 0))) ∧ Aside0 (Below w.heap.size w wc))
            case first =>
              have H := HC11.out
              clear HC11
              by_cases c13 : a0_0 = true
              · subst c13
                have H1 : (computusref01_Small.j1 k1 (Go.bits .or .u64 (IntKind.u64.wrap ((rd l0_1 1) * 4294967296)) (rd l0_1 0)) (decide ((Go.bits .or .u64 (IntKind.u64.wrap ((rd l0_1 1) * 4294967296)) (rd l0_1 0)) ≤ 9223372036854775808)) true l0_1) = some (r1, r2) := by rw [if_pos rfl] at H; exact H
                clear H
                have H := H1
                clear H1
                have H' := Aside0.mk H
                clear H
                have hcz14_0 : wr.cell? ⟨gb184, 0, none⟩ = some (.bool true) := (kI BK184.out 0).trans rfl
                have hcz14_1 : wr.cell? ⟨gb184, 1, none⟩ = some (.slice (some ad186) l0_1.length c0_1) := (kI BK184.out 1).trans rfl
                have hfz14_0 := kH BK184.out 0
                have hfz14_1 := kH BK184.out 1
                go_wp2
                repeat (go_quiet (fail); try go_wp2)
                go_meet
                case rel => exact ⟨_, (decide ((Go.bits .or .u64 (IntKind.u64.wrap ((rd l0_1 1) * 4294967296)) (rd l0_1 0)) ≤ 9223372036854775808)), (by first | rfl | (simp; done) | (simp [*]; done)), H', ⟨by have := HK1.out; first | omega | exact Nat.le_refl _⟩, ⟨by (with_reducible repeat (first | refine kE ?_ _ | refine kG ?_ | refine kF ?_ _)); exact BK184.out⟩, ⟨by repeat (first | (with_reducible first | exact HB.out | apply kC | apply kA | apply kD | refine kB ?_ GE184.out) | exact HB.out)⟩⟩
              · replace c13 := Bool.eq_false_iff.mpr c13
                subst c13
                have H1 : (computusref01_Small.j1 k1 (Go.bits .or .u64 (IntKind.u64.wrap ((rd l0_1 1) * 4294967296)) (rd l0_1 0)) false false l0_1) = some (r1, r2) := by rw [if_neg (show ¬ (false = true) by decide)] at H; exact H
                clear H
                have H := H1
                clear H1
                have H' := Aside0.mk H
                clear H
                have hcz15_0 : wr.cell? ⟨gb184, 0, none⟩ = some (.bool false) := (kI BK184.out 0).trans rfl
                have hcz15_1 : wr.cell? ⟨gb184, 1, none⟩ = some (.slice (some ad186) l0_1.length c0_1) := (kI BK184.out 1).trans rfl
                have hfz15_0 := kH BK184.out 0
                have hfz15_1 := kH BK184.out 1
                go_wp2
                repeat (go_quiet (fail); try go_wp2)
                go_meet
                case rel => exact ⟨_, (false), (by first | rfl | (simp; done) | (simp [*]; done)), H', ⟨by have := HK1.out; first | omega | exact Nat.le_refl _⟩, ⟨by (with_reducible repeat (first | refine kE ?_ _ | refine kG ?_ | refine kF ?_ _)); exact BK184.out⟩, ⟨by repeat (first | (with_reducible first | exact HB.out | apply kC | apply kA | apply kD | refine kB ?_ GE184.out) | exact HB.out)⟩⟩
            case rest =>
              clear HC11
              try clear c1
              try clear p1
              try clear q1
              try clear hx1
              try clear qi1
              try clear p2
              try clear c3
              try clear c3b0
              try clear c4
              try clear c4b0
              try clear c5
              try clear c5b0
              try clear c6
              try clear c6b0
              try clear c6b1
              try clear p6
              try clear c9
              try clear c9b0
              try clear c9b1
              try clear c10
              try clear c10b0
              try clear c10b1
              try clear c13
              try clear hcz12_0
              try clear hcz12_1
              try clear hcz14_0
              try clear hcz14_1
              try clear hcz15_0
              try clear hcz15_1
              try clear hcz7_0
              try clear hcz7_1
              try clear hcz8_0
              try clear hcz8_1
              try clear hfz12_0
              try clear hfz12_1
              try clear hfz14_0
              try clear hfz14_1
              try clear hfz15_0
              try clear hfz15_1
              try clear hfz7_0
              try clear hfz7_1
              try clear hfz8_0
              try clear hfz8_1
              try clear hx185_0
              try clear hx186_0
              try clear hx187_0
              try clear p185
              try clear p186
              try clear p187
              try clear p2
              try clear q185
              try clear q186
              try clear q187
              obtain ⟨kq, x31_10, rfl, HA, HJ10, BK184, HB⟩ := hcut
              cases kq with
              | zero => exact absurd HA.out (by simp [computusref01_Small.j1])
              | succ kj10 =>
                have H := HA.out
                clear HA
                simp only [computusref01_Small.j1] at H
                by_cases c16 : x31_10 = true
                · subst c16
                  have H1 : (some (wrap64 (IntKind.u64.wrap (-(Go.bits .or .u64 (IntKind.u64.wrap ((rd l0_1 1) * 4294967296)) (rd l0_1 0)))), 0)) = some (r1, r2) := by rw [if_pos rfl] at H; exact H
                  clear H
                  have H := H1
                  clear H1
                  simp only [Option.some.injEq, Prod.mk.injEq] at H
                  obtain ⟨rfl, rfl⟩ := H
                  go_wp2
                  repeat (go_quiet (fail); try go_wp2)
                  go_ret2
                  exact ⟨by first | rfl | (simp [errW_none, errW_some] <;> rfl) | (simp [*, errW_none, errW_some] <;> rfl), by repeat (first | (with_reducible first | exact HB.out | apply kC | apply kA | apply kD | refine kB ?_ GE184.out) | exact HB.out)⟩
                · replace c16 := Bool.eq_false_iff.mpr c16
                  subst c16
                  have H1 : (if a0_0 = true then (some (0, 10)) else (if (Go.bits .or .u64 (IntKind.u64.wrap ((rd l0_1 1) * 4294967296)) (rd l0_1 0)) ≥ 9223372036854775808 then (some (0, 10)) else (some (wrap64 ((Go.bits .or .u64 (IntKind.u64.wrap ((rd l0_1 1) * 4294967296)) (rd l0_1 0))), 0)))) = some (r1, r2) := by rw [if_neg (show ¬ (false = true) by decide)] at H; exact H
                  clear H
                  have H := H1
                  clear H1
                  by_cases c17 : a0_0 = true
                  · subst c17
                    have H1 : (some (0, 10)) = some (r1, r2) := by rw [if_pos rfl] at H; exact H
                    clear H
                    have H := H1
                    clear H1
                    simp only [Option.some.injEq, Prod.mk.injEq] at H
                    obtain ⟨rfl, rfl⟩ := H
                    have hcz18_0 : wc.cell? ⟨gb184, 0, none⟩ = some (.bool true) := (kI BK184.out 0).trans rfl
                    have hcz18_1 : wc.cell? ⟨gb184, 1, none⟩ = some (.slice (some ad186) l0_1.length c0_1) := (kI BK184.out 1).trans rfl
                    have hfz18_0 := kH BK184.out 0
                    have hfz18_1 := kH BK184.out 1
                    go_wp2
                    repeat (go_quiet (fail); try go_wp2)
                    go_ret2
                    exact ⟨by first | rfl | (simp [errW_none, errW_some] <;> rfl) | (simp [*, errW_none, errW_some] <;> rfl), by repeat (first | (with_reducible first | exact HB.out | apply kC | apply kA | apply kD | refine kB ?_ GE184.out) | exact HB.out)⟩
                  · replace c17 := Bool.eq_false_iff.mpr c17
                    subst c17
                    have H1 : (if (Go.bits .or .u64 (IntKind.u64.wrap ((rd l0_1 1) * 4294967296)) (rd l0_1 0)) ≥ 9223372036854775808 then (some (0, 10)) else (some (wrap64 ((Go.bits .or .u64 (IntKind.u64.wrap ((rd l0_1 1) * 4294967296)) (rd l0_1 0))), 0))) = some (r1, r2) := by rw [if_neg (show ¬ (false = true) by decide)] at H; exact H
                    clear H
                    have H := H1
                    clear H1
                    by_cases c19 : (Go.bits .or .u64 (IntKind.u64.wrap ((rd l0_1 1) * 4294967296)) (rd l0_1 0)) ≥ 9223372036854775808
                    · rw [if_pos c19] at H
                      have c19b0 : decide (9223372036854775808 ≤ (Go.bits .or .u64 (IntKind.u64.wrap ((rd l0_1 1) * 4294967296)) (rd l0_1 0))) = true := decide_eq_true c19
                      clear c19
                      simp only [Option.some.injEq, Prod.mk.injEq] at H
                      obtain ⟨rfl, rfl⟩ := H
                      have hcz20_0 : wc.cell? ⟨gb184, 0, none⟩ = some (.bool false) := (kI BK184.out 0).trans rfl
                      have hcz20_1 : wc.cell? ⟨gb184, 1, none⟩ = some (.slice (some ad186) l0_1.length c0_1) := (kI BK184.out 1).trans rfl
                      have hfz20_0 := kH BK184.out 0
                      have hfz20_1 := kH BK184.out 1
                      go_wp2
                      repeat (go_quiet (fail); try go_wp2)
                      go_ret2
                      exact ⟨by first | rfl | (simp [errW_none, errW_some] <;> rfl) | (simp [*, errW_none, errW_some] <;> rfl), by repeat (first | (with_reducible first | exact HB.out | apply kC | apply kA | apply kD | refine kB ?_ GE184.out) | exact HB.out)⟩
                    · rw [if_neg c19] at H
                      have c19b0 : decide (9223372036854775808 ≤ (Go.bits .or .u64 (IntKind.u64.wrap ((rd l0_1 1) * 4294967296)) (rd l0_1 0))) = false := decide_eq_false c19
                      clear c19
                      simp only [Option.some.injEq, Prod.mk.injEq] at H
                      obtain ⟨rfl, rfl⟩ := H
                      have hcz21_0 : wc.cell? ⟨gb184, 0, none⟩ = some (.bool false) := (kI BK184.out 0).trans rfl
                      have hcz21_1 : wc.cell? ⟨gb184, 1, none⟩ = some (.slice (some ad186) l0_1.length c0_1) := (kI BK184.out 1).trans rfl
                      have hfz21_0 := kH BK184.out 0
                      have hfz21_1 := kH BK184.out 1
                      go_wp2
                      repeat (go_quiet (fail); try go_wp2)
                      go_ret2
                      exact ⟨by first | rfl | (simp [errW_none, errW_some] <;> rfl) | (simp [*, errW_none, errW_some] <;> rfl), by repeat (first | (with_reducible first | exact HB.out | apply kC | apply kA | apply kD | refine kB ?_ GE184.out) | exact HB.out)⟩
          · rw [if_neg c10] at H
            exact absurd H (by simp)
        · rw [if_neg c9] at H
          exact absurd H (by simp)
end Go.Proofs.Ytkongoedgngfhaa.P
namespace Go.Proofs.Ytkongoedgngfhaa.P
open Go.RowKit Go.Proofs.YtkongoedgngfhaaW.PrintWords Go.Proofs.YtkongoedgngfhaaW.PrintLast Go.Proofs.YtkongoedgngfhaaW.PrintMore
open Go.Proofs.Ytkongoedgngfhaa.A
attribute [local go_sem] max2_int min2_int max_two min_two max_three min_three max_four min_four   -- for this text's walks alone
set_option linter.unusedVariables false
set_option linter.unusedSimpArgs false
def computusref04_Right.f (a0_0 : Int) (a0_1 : Int) : Option (Bool) := if a0_1 ≥ 0 then (some (decide (a0_1 ≤ 9))) else (some false)
set_option maxRecDepth 100000 in
theorem computusref04_Right.vc (a0_0 : Int) (a0_1 : Int) (K : AV → Prop) : afv PA Try.prog (tab []) noLoops 2 15 [.agg [.int .i64 a0_0, .int .i64 a0_1]] K = (brc (decide (a0_1 ≥ 0)) (K (AV.bool (decide (a0_1 ≤ 9)))) (K (AV.bool false))) := by kernel_rfl
set_option maxHeartbeats 1000000 in
set_option maxRecDepth 100000 in
theorem computusref04_Right.calls (a0_0 : Int) (a0_1 : Int) (r : Bool) (w : World) (h : computusref04_Right.f a0_0 a0_1 = some r) :
    Calls Try.prog 15 #[.agg #[.int .i64 a0_0, .int .i64 a0_1]] w fun e w' => e = .returned (.bool r) ∧ Below w.heap.size w w' := by
  refine calls_of_vc (A := [.agg #[.int .i64 a0_0, .int .i64 a0_1]]) (v := .bool r) (tab_nil) ((computusref04_Right.vc a0_0 a0_1 _).mpr ?_) (by simp [rl_cons, rl_nil, rv_int, rv_bool, rv_str, rv_agg, rv_fn]) (fun ρ V' hV => by simpa [rl_cons, rl_nil, rv_int, rv_bool, rv_str, rv_agg, rv_tup] using hV)
  unfold computusref04_Right.f at h
  (try simp only [bne, Option.bind_eq_some_iff, ite_some_iff] at h)
  (try simp only [bne, brc_iff, wrap_i64])
  first
    | grind (splits := 60) [gd_some]
    | ((repeat' (first | (have or_ : Or _ _ := h; clear or_; rcases h with h | h) | (have or_ : Exists _ := h; clear or_; obtain ⟨_, h⟩ := h) | (have or_ : And _ _ := h; clear or_; obtain ⟨hq_, h⟩ := h))) <;> (try simp only [Option.some.injEq, Prod.mk.injEq, reduceCtorEq] at h) <;> (try subst_vars) <;> first | (simp_all [gd_some] <;> (try omega) <;> done) | grind (splits := 60) [gd_some])
    | (intros; subst_vars; simp_all [gd_some]; done)
noncomputable def computusref04_Right.con : Con
  | [.agg [.int .i64 a0_0, .int .i64 a0_1]] => some ((computusref04_Right.f a0_0 a0_1).isSome, .bool (gd (computusref04_Right.f a0_0 a0_1)))
  | _ => none
set_option maxRecDepth 100000 in
theorem computusref04_Right.cok : COk Try.prog 15 (computusref04_Right.con) := by
  intro args p v hc hp w A hA
  unfold computusref04_Right.con at hc
  split at hc
  · rename_i a0_0 a0_1
    simp only [Option.some.injEq, Prod.mk.injEq] at hc
    obtain ⟨rfl, rfl⟩ := hc
    rcases hf : computusref04_Right.f a0_0 a0_1 with _ | r
    · rw [hf] at hp; cases hp
    obtain rfl : A = [.agg #[.int .i64 a0_0, .int .i64 a0_1]] := by simpa [rl_cons, rl_nil, rv_int, rv_bool, rv_str, rv_agg, rv_fn] using hA
    exact gives_of_calls (fn := Try.f15) Try.func15 (by kernel_rfl) (by kernel_rfl) (computusref04_Right.calls _ _ _ w hf) (fun _ => by simp [gd_some, rl_cons, rl_nil, rv_int, rv_bool, rv_str, rv_agg, rv_tup]) (fun _ h => h)
  · cases hc
end Go.Proofs.Ytkongoedgngfhaa.P
namespace Go.Proofs.Ytkongoedgngfhaa.P
open Go.RowKit Go.Proofs.YtkongoedgngfhaaW.PrintWords Go.Proofs.YtkongoedgngfhaaW.PrintLast Go.Proofs.YtkongoedgngfhaaW.PrintMore
open Go.Proofs.Ytkongoedgngfhaa.A
attribute [local go_sem] max2_int min2_int max_two min_two max_three min_three max_four min_four   -- for this text's walks alone
set_option linter.unusedVariables false
set_option linter.unusedSimpArgs false
def computusref04_ten.l0 : Nat → Int → Int → Int → Option (Int)
  | 0, _, _, _ => none
  | k + 1, x0, x3, x4 => if x4 < x0 then (computusref04_ten.l0 k x0 (wrap64 (x3 * 10)) (wrap64 (x4 + 1))) else (some x3)
def computusref04_ten.f (k : Nat) (a0 : Int) : Option (Int) := computusref04_ten.l0 k a0 1 0
theorem computusref04_ten.mono_l : ∀ k, (∀ y0 y1 y2, LeO (computusref04_ten.l0 k y0 y1 y2) (computusref04_ten.l0 (k + 1) y0 y1 y2))
  | 0 => fun _ _ _ r h => by simp [computusref04_ten.l0] at h
  | k + 1 => by
    have ih0 := computusref04_ten.mono_l k
    · intro y0 y1 y2
      unfold computusref04_ten.l0
      repeat' first
      | (with_reducible exact ih0 _ _ _)
      | (with_reducible exact LeO.refl _)
      | (with_reducible exact LeO.none _)
      | (with_reducible refine LeO.ite ?_ ?_)
      | (with_reducible refine LeO.bind ?_ (fun _ => ?_))
      | exact ih0 _ _ _
      | exact LeO.none _
      | refine LeO.ite ?_ ?_
      | refine LeO.bind ?_ (fun _ => ?_)
theorem computusref04_ten.mono : ∀ a0 k, LeO (computusref04_ten.f k a0) (computusref04_ten.f (k + 1) a0) := by
  intro a0 k
  have ih0 := computusref04_ten.mono_l k
  unfold computusref04_ten.f
  repeat' first
      | (with_reducible exact ih0 _ _ _)
      | (with_reducible exact LeO.refl _)
      | (with_reducible exact LeO.none _)
      | (with_reducible refine LeO.ite ?_ ?_)
      | (with_reducible refine LeO.bind ?_ (fun _ => ?_))
      | exact ih0 _ _ _
      | exact LeO.none _
      | refine LeO.ite ?_ ?_
      | refine LeO.bind ?_ (fun _ => ?_)
set_option maxHeartbeats 8000000 in
set_option maxRecDepth 100000 in
theorem computusref04_ten.calls (k : Nat) (a0 : Int) (r : Int) (w : World) (h : computusref04_ten.f k a0 = some r) :
    Calls Try.prog 47 #[.int .i64 a0] w fun e w' => e = .returned (.int .i64 r) ∧ Drawn0 w w' := by
  have H : (computusref04_ten.l0 k a0 1 0) = some r := h
  clear h
  have H' := Aside0.mk H
  clear H
  go_enter Try.func47, Try.ntmps47
  go_wp2
  go_loopg [3, 4] k (fun kq v3 v4 w' => ∃ (x3_1 : Int) (x4_1 : Int), v3 = .int .i64 x3_1 ∧ v4 = .int .i64 x4_1 ∧ Aside0 (computusref04_ten.l0 kq a0 x3_1 x4_1 = some r) ∧ Aside0 (kq ≤ k) ∧ Drawn0 w w')
  case atStart => exact ⟨(1), (0), (by first | rfl | (simp; done) | (simp [*]; done)), (by first | rfl | (simp; done) | (simp [*]; done)), H', ⟨Nat.le_refl _⟩, by repeat (first | exact Drawn0.refl _ | apply Drawn0.step)⟩
  case round =>
    clear H'
    obtain ⟨x3_1, x4_1, rfl, rfl, HA, HK1, ⟨m1, rfl⟩⟩ := hrel
    cases gk with
    | zero => exact absurd HA.out (by simp [computusref04_ten.l0])
    | succ k1 =>
      have H := HA.out
      clear HA
      simp only [computusref04_ten.l0] at H
      by_cases c2 : x4_1 < a0
      · rw [if_pos c2] at H
        have c2b0 : decide (x4_1 < a0) = true := decide_eq_true c2
        clear c2
        have H' := Aside0.mk H
        clear H
        go_wp2
        go_roundg k1
        case measure => have := HK1.out; omega
        case rel => exact ⟨(wrap64 (x3_1 * 10)), (wrap64 (x4_1 + 1)), (by first | rfl | (simp; done) | (simp [*]; done)), (by first | rfl | (simp; done) | (simp [*]; done)), H', ⟨by have := HK1.out; omega⟩, by repeat (first | exact Drawn0.refl _ | apply Drawn0.step)⟩
      · rw [if_neg c2] at H
        have c2b0 : decide (x4_1 < a0) = false := decide_eq_false c2
        clear c2
        obtain rfl := Option.some.inj H
        go_wp2
        go_ret
        exact ⟨by first | rfl | (simp; done) | (simp [*]; done), by repeat (first | exact Drawn0.refl _ | apply Drawn0.step)⟩
noncomputable def computusref04_ten.con (k : Nat) : Con
  | [.int .i64 a0] => some ((computusref04_ten.f k a0).isSome, .int .i64 (gd (computusref04_ten.f k a0)))
  | _ => none
set_option maxRecDepth 100000 in
theorem computusref04_ten.cok (k : Nat) : COk Try.prog 47 (computusref04_ten.con k) := by
  intro args p v hc hp w A hA
  unfold computusref04_ten.con at hc
  split at hc
  · rename_i a0
    simp only [Option.some.injEq, Prod.mk.injEq] at hc
    obtain ⟨rfl, rfl⟩ := hc
    rcases hf : computusref04_ten.f k a0 with _ | r
    · rw [hf] at hp; cases hp
    obtain rfl : A = [.int .i64 a0] := by simpa [rl_cons, rl_nil, rv_int, rv_bool, rv_str, rv_agg, rv_fn] using hA
    exact gives_of_calls (fn := Try.f47) Try.func47 (by kernel_rfl) (by kernel_rfl) (computusref04_ten.calls _ _ _ w hf) (fun _ => by simp [gd_some, rl_cons, rl_nil, rv_int, rv_bool, rv_str, rv_agg, rv_tup]) (fun _ h => h.below)
  · cases hc
end Go.Proofs.Ytkongoedgngfhaa.P
