-- Written by a program of the session (a print of the seat's translation, functions given by hand among it). Lean checks it.
import Derived.Test.YtkongoedgngfhaaQgkkgmomhkk
import Derived.Test.YtkongoedgngfhaaQcdjnlmedmo
import Derived.Test.YtkongoedgngfhaaQgfkoghcbaj
import Derived.Test.YtkongoedgngfhaaQfonafjaonf
import Derived.Test.YtkongoedgngfhaaQnognafakhh
namespace Go.Proofs.Ytkongoedgngfhaa.P
open Go.RowKit Go.Proofs.YtkongoedgngfhaaW.PrintWords Go.Proofs.YtkongoedgngfhaaW.PrintLast Go.Proofs.YtkongoedgngfhaaW.PrintMore
attribute [local go_sem] max2_int min2_int max_two min_two max_three min_three max_four min_four   -- for this text's walks alone
set_option linter.unusedVariables false
set_option linter.unusedSimpArgs false
def computuslaw04_known.f (k : Nat)  : Option (Bool) := (dec_Read.f (⟨#[49, 50, 46, 51, 52, 48]⟩ : ByteArray)).bind fun bt284 => ((dec_Round.f k 25 1 0).bind fun bt288 => ((dec_Floor.f k (-5) 1).bind fun bt292 => ((dec_Trim.f k bt284.1 bt284.2.1).bind fun bt294 => ((dec_Text.f (-5) 1).bind fun t297 => (if t297.toList = ([45, 48, 46, 53] : List UInt8) then (if bt284.1 = 12340 then (if bt284.2.1 = 3 then (if bt284.2.2 = 0 then (if bt294.1 = 1234 then (if bt294.2 = 2 then (if bt288.1 = 3 then (if bt288.2.1 = 0 then (if bt288.2.2 = 0 then (if bt292.1 = (-1) then (some (bt292.2 == 0)) else (some false)) else (some false)) else (some false)) else (some false)) else (some false)) else (some false)) else (some false)) else (some false)) else (some false)) else (some false))))))
theorem computuslaw04_known.mono : ∀ k, LeO (computuslaw04_known.f k ) (computuslaw04_known.f (k + 1) ) := by
  intro  k
  unfold computuslaw04_known.f
  repeat' first
      | (with_reducible exact dec_Floor.mono _ _ _)
      | (with_reducible exact dec_Round.mono _ _ _ _)
      | (with_reducible exact dec_Trim.mono _ _ _)
      | (with_reducible exact LeO.refl _)
      | (with_reducible exact LeO.none _)
      | (with_reducible refine LeO.ite ?_ ?_)
      | (with_reducible refine LeO.bind ?_ (fun _ => ?_))
      | exact dec_Floor.mono _ _ _
      | exact dec_Round.mono _ _ _ _
      | exact dec_Trim.mono _ _ _
      | exact LeO.none _
      | refine LeO.ite ?_ ?_
      | refine LeO.bind ?_ (fun _ => ?_)
set_option maxHeartbeats 8000000 in
set_option maxRecDepth 100000 in
theorem computuslaw04_known.calls (k : Nat)  (r : Bool) (w : World) (h : computuslaw04_known.f k  = some r) (hR : r = true) :
    Calls Try.prog 16 #[] w fun e w' => e = .returned (.bool r) ∧ Below w.heap.size w w' := by
  have HRT := Aside0.mk hR
  clear hR
  have hu25 := Try.underlying25
  have HB := Aside0.mk (Below.refl w.heap.size w)
  have H : ((dec_Read.f (⟨#[49, 50, 46, 51, 52, 48]⟩ : ByteArray)).bind fun bt284 => ((dec_Round.f k 25 1 0).bind fun bt288 => ((dec_Floor.f k (-5) 1).bind fun bt292 => ((dec_Trim.f k bt284.1 bt284.2.1).bind fun bt294 => ((dec_Text.f (-5) 1).bind fun t297 => (if t297.toList = ([45, 48, 46, 53] : List UInt8) then (if bt284.1 = 12340 then (if bt284.2.1 = 3 then (if bt284.2.2 = 0 then (if bt294.1 = 1234 then (if bt294.2 = 2 then (if bt288.1 = 3 then (if bt288.2.1 = 0 then (if bt288.2.2 = 0 then (if bt292.1 = (-1) then (some (bt292.2 == 0)) else (some false)) else (some false)) else (some false)) else (some false)) else (some false)) else (some false)) else (some false)) else (some false)) else (some false)) else (some false))))))) = some r := h
  clear h
  replace H := Option.bind_eq_some_iff.mp H
  obtain ⟨⟨t284, t285, t286⟩, A10, H⟩ := H
  replace H : ((dec_Round.f k 25 1 0).bind fun bt288 => ((dec_Floor.f k (-5) 1).bind fun bt292 => ((dec_Trim.f k t284 t285).bind fun bt294 => ((dec_Text.f (-5) 1).bind fun t297 => (if t297.toList = ([45, 48, 46, 53] : List UInt8) then (if t284 = 12340 then (if t285 = 3 then (if t286 = 0 then (if bt294.1 = 1234 then (if bt294.2 = 2 then (if bt288.1 = 3 then (if bt288.2.1 = 0 then (if bt288.2.2 = 0 then (if bt292.1 = (-1) then (some (bt292.2 == 0)) else (some false)) else (some false)) else (some false)) else (some false)) else (some false)) else (some false)) else (some false)) else (some false)) else (some false)) else (some false)))))) = some r := H
  have A1 := Aside0.mk A10
  clear A10
  replace H := Option.bind_eq_some_iff.mp H
  obtain ⟨⟨t288, t289, t290⟩, A20, H⟩ := H
  replace H : ((dec_Floor.f k (-5) 1).bind fun bt292 => ((dec_Trim.f k t284 t285).bind fun bt294 => ((dec_Text.f (-5) 1).bind fun t297 => (if t297.toList = ([45, 48, 46, 53] : List UInt8) then (if t284 = 12340 then (if t285 = 3 then (if t286 = 0 then (if bt294.1 = 1234 then (if bt294.2 = 2 then (if t288 = 3 then (if t289 = 0 then (if t290 = 0 then (if bt292.1 = (-1) then (some (bt292.2 == 0)) else (some false)) else (some false)) else (some false)) else (some false)) else (some false)) else (some false)) else (some false)) else (some false)) else (some false)) else (some false))))) = some r := H
  have A2 := Aside0.mk A20
  clear A20
  replace H := Option.bind_eq_some_iff.mp H
  obtain ⟨⟨t292, t293⟩, A30, H⟩ := H
  replace H : ((dec_Trim.f k t284 t285).bind fun bt294 => ((dec_Text.f (-5) 1).bind fun t297 => (if t297.toList = ([45, 48, 46, 53] : List UInt8) then (if t284 = 12340 then (if t285 = 3 then (if t286 = 0 then (if bt294.1 = 1234 then (if bt294.2 = 2 then (if t288 = 3 then (if t289 = 0 then (if t290 = 0 then (if t292 = (-1) then (some (t293 == 0)) else (some false)) else (some false)) else (some false)) else (some false)) else (some false)) else (some false)) else (some false)) else (some false)) else (some false)) else (some false)))) = some r := H
  have A3 := Aside0.mk A30
  clear A30
  replace H := Option.bind_eq_some_iff.mp H
  obtain ⟨⟨t294, t295⟩, A40, H⟩ := H
  replace H : ((dec_Text.f (-5) 1).bind fun t297 => (if t297.toList = ([45, 48, 46, 53] : List UInt8) then (if t284 = 12340 then (if t285 = 3 then (if t286 = 0 then (if t294 = 1234 then (if t295 = 2 then (if t288 = 3 then (if t289 = 0 then (if t290 = 0 then (if t292 = (-1) then (some (t293 == 0)) else (some false)) else (some false)) else (some false)) else (some false)) else (some false)) else (some false)) else (some false)) else (some false)) else (some false)) else (some false))) = some r := H
  have A4 := Aside0.mk A40
  clear A40
  replace H := Option.bind_eq_some_iff.mp H
  obtain ⟨t297, A50, H⟩ := H
  replace H : (if t297.toList = ([45, 48, 46, 53] : List UInt8) then (if t284 = 12340 then (if t285 = 3 then (if t286 = 0 then (if t294 = 1234 then (if t295 = 2 then (if t288 = 3 then (if t289 = 0 then (if t290 = 0 then (if t292 = (-1) then (some (t293 == 0)) else (some false)) else (some false)) else (some false)) else (some false)) else (some false)) else (some false)) else (some false)) else (some false)) else (some false)) else (some false)) = some r := H
  have A5 := Aside0.mk A50
  clear A50
  by_cases c6 : t297.toList = ([45, 48, 46, 53] : List UInt8)
  · rw [if_pos c6] at H
    have c6b0 : (t297.toList == ([45, 48, 46, 53] : List UInt8)) = true := beq_iff_eq.mpr c6
    have c6b1 : (t297.toList != ([45, 48, 46, 53] : List UInt8)) = false := bne_eq_false_iff_eq.mpr c6
    clear c6
    by_cases c7 : t284 = 12340
    · rw [if_pos c7] at H
      have c7b0 : (t284 == 12340) = true := beq_iff_eq.mpr c7
      have c7b1 : (t284 != 12340) = false := bne_eq_false_iff_eq.mpr c7
      clear c7
      by_cases c8 : t285 = 3
      · rw [if_pos c8] at H
        have c8b0 : (t285 == 3) = true := beq_iff_eq.mpr c8
        have c8b1 : (t285 != 3) = false := bne_eq_false_iff_eq.mpr c8
        clear c8
        by_cases c9 : t286 = 0
        · rw [if_pos c9] at H
          have c9b0 : (t286 == 0) = true := beq_iff_eq.mpr c9
          have c9b1 : (t286 != 0) = false := bne_eq_false_iff_eq.mpr c9
          clear c9
          by_cases c10 : t294 = 1234
          · rw [if_pos c10] at H
            have c10b0 : (t294 == 1234) = true := beq_iff_eq.mpr c10
            have c10b1 : (t294 != 1234) = false := bne_eq_false_iff_eq.mpr c10
            clear c10
            by_cases c11 : t295 = 2
            · rw [if_pos c11] at H
              have c11b0 : (t295 == 2) = true := beq_iff_eq.mpr c11
              have c11b1 : (t295 != 2) = false := bne_eq_false_iff_eq.mpr c11
              clear c11
              by_cases c12 : t288 = 3
              · rw [if_pos c12] at H
                have c12b0 : (t288 == 3) = true := beq_iff_eq.mpr c12
                have c12b1 : (t288 != 3) = false := bne_eq_false_iff_eq.mpr c12
                clear c12
                by_cases c13 : t289 = 0
                · rw [if_pos c13] at H
                  have c13b0 : (t289 == 0) = true := beq_iff_eq.mpr c13
                  have c13b1 : (t289 != 0) = false := bne_eq_false_iff_eq.mpr c13
                  clear c13
                  by_cases c14 : t290 = 0
                  · rw [if_pos c14] at H
                    have c14b0 : (t290 == 0) = true := beq_iff_eq.mpr c14
                    have c14b1 : (t290 != 0) = false := bne_eq_false_iff_eq.mpr c14
                    clear c14
                    by_cases c15 : t292 = (-1)
                    · rw [if_pos c15] at H
                      have c15b0 : (t292 == (-1)) = true := beq_iff_eq.mpr c15
                      have c15b1 : (t292 != (-1)) = false := bne_eq_false_iff_eq.mpr c15
                      clear c15
                      obtain rfl := Option.some.inj H
                      go_enter Try.func16, Try.ntmps16
                      go_wp2_with (first | ((with_reducible refine gate_callee (f := 11) rfl ?_); refine goesL_ (some 9) rfl rfl Try.func11 (by kernel_rfl) rfl #[.string (⟨#[49, 50, 46, 51, 52, 48]⟩ : ByteArray)] rfl (by (try simp only [List.map_toArray, List.map_cons, List.map_nil]); first | done | rfl | (simp only [List.length_drop, List.length_take]; rfl)) ?_; (with_reducible refine (dec_Read.calls (⟨#[49, 50, 46, 51, 52, 48]⟩ : ByteArray) t284 t285 t286 _ A1.out).mono ?_); rintro e w16 ⟨rfl, hb⟩; refine ⟨_, rfl, ?_⟩; have n0_ := Aside0.mk (below_step (by repeat (first | (with_reducible first | exact HB.out | apply below_alloc | apply pw_below_drewN | apply below_drew1) | exact HB.out)) hb); clear HB; have HB := n0_; clear n0_; (try clear hb); (try clear hb2); (try clear hk); (try clear hi)) | ((with_reducible refine gate_dst (N := 1) rfl ?_); refine box_event ?hg (N := 1) ?hd (cs := #[.int .i64 0, .int .i64 0]) (t := 25) ?hr ?_; (case hd => rfl); (case hg => rfl); (case hr => first | (go_simp; done) | (go_simp; rfl)); intro gb287 hg w17 hbox hb; have n0_ := Aside0.mk (below_step (by repeat (first | (with_reducible first | exact HB.out | apply below_alloc | apply pw_below_drewN | apply below_drew1) | exact HB.out)) hb); have n1_ := Aside0.mk (hbox); have n2_ := Aside0.mk ((by rw [hg]; exact (below_size (by repeat (first | (with_reducible first | exact HB.out | apply below_alloc | apply pw_below_drewN | apply below_drew1) | exact HB.out))) : w.heap.size ≤ gb287)); have n3_ := Aside0.mk ((by rw [hg]; exact (below_size (by repeat (first | (with_reducible first | exact HB.out | apply below_alloc | apply pw_below_drewN | apply below_drew1) | exact HB.out))) : w.heap.size ≤ gb287)); clear HB; have HB := n0_; have BK287 := n1_; have GW287 := n2_; have GE287 := n3_; clear n0_ n1_ n2_ n3_; clear hb hbox hg; have hcz18_0 : w17.cell? ⟨gb287, 0, none⟩ = some (.int .i64 0) := (blk_cell BK287.out 0).trans rfl; have hcz18_1 : w17.cell? ⟨gb287, 1, none⟩ = some (.int .i64 0) := (blk_cell BK287.out 1).trans rfl; have hfz18_0 := blk_frozen BK287.out 0; have hfz18_1 := blk_frozen BK287.out 1) | ((with_reducible refine gate_callee (f := 19) rfl ?_); refine goesL_ (some 14) rfl rfl Try.func19 (by kernel_rfl) rfl #[.agg #[.int .i64 25, .int .i64 1], .int .i64 0] rfl (by (try simp only [List.map_toArray, List.map_cons, List.map_nil]); first | done | rfl | (simp only [List.length_drop, List.length_take]; rfl)) ?_; (with_reducible refine (dec_Round.calls k 25 1 0 t288 t289 t290 _ A2.out).mono ?_); rintro e w19 ⟨rfl, hb⟩; refine ⟨_, rfl, ?_⟩; have n0_ := Aside0.mk (blk_below (g := gb287) (o := .cells #[.int .i64 t284, .int .i64 t285] 25 (0, 0)) (by (with_reducible repeat (first | refine blk_drewN ?_ _ | refine blk_drew ?_ | refine blk_alloc ?_ _)); refine blk_put (cs := #[.int .i64 t284, .int .i64 0]) ?_ 1 _ rfl; (with_reducible repeat (first | refine blk_drewN ?_ _ | refine blk_drew ?_ | refine blk_alloc ?_ _)); refine blk_put (cs := #[.int .i64 0, .int .i64 0]) ?_ 0 _ rfl; (with_reducible repeat (first | refine blk_drewN ?_ _ | refine blk_drew ?_ | refine blk_alloc ?_ _)); exact BK287.out) hb); have n1_ := Aside0.mk (below_step (by repeat (first | (with_reducible first | exact HB.out | apply below_alloc | apply pw_below_drewN | apply below_drew1 | refine below_set ?_ GE287.out) | exact HB.out)) hb); clear BK287; clear HB; have BK287 := n0_; have HB := n1_; clear n0_ n1_; (try clear hb); (try clear hb2); (try clear hk); (try clear hi)) | ((with_reducible refine gate_dst (N := 3) rfl ?_); refine box_event ?hg (N := 3) ?hd (cs := #[.int .i64 0, .int .i64 0]) (t := 25) ?hr ?_; (case hd => rfl); (case hg => rfl); (case hr => first | (go_simp; done) | (go_simp; rfl)); intro gb291 hg w20 hbox hb; have n0_ := Aside0.mk (blk_below (g := gb287) (o := .cells #[.int .i64 t284, .int .i64 t285] 25 (0, 0)) (by (with_reducible repeat (first | refine blk_drewN ?_ _ | refine blk_drew ?_ | refine blk_alloc ?_ _)); exact BK287.out) hb); have n1_ := Aside0.mk (below_step (by repeat (first | (with_reducible first | exact HB.out | apply below_alloc | apply pw_below_drewN | apply below_drew1 | refine below_set ?_ GE287.out) | exact HB.out)) hb); have n2_ := Aside0.mk (hbox); have n3_ := Aside0.mk ((by rw [hg]; exact (below_size (by repeat (first | (with_reducible first | exact HB.out | apply below_alloc | apply pw_below_drewN | apply below_drew1 | refine below_set ?_ GE287.out) | exact HB.out))) : w.heap.size ≤ gb291)); have n4_ := Aside0.mk ((by rw [hg]; exact (below_size (by repeat (first | (with_reducible first | exact HB.out | apply below_alloc | apply pw_below_drewN | apply below_drew1 | refine below_set ?_ GE287.out) | exact HB.out))) : w.heap.size ≤ gb291)); have n5_ := Aside0.mk ((by rw [hg]; exact Nat.ne_of_lt (blk_lt (g := gb287) (o := .cells #[.int .i64 t284, .int .i64 t285] 25 (0, 0)) (by (with_reducible repeat (first | refine blk_drewN ?_ _ | refine blk_drew ?_ | refine blk_alloc ?_ _)); exact BK287.out)) : gb287 ≠ gb291)); have n6_ := Aside0.mk ((by rw [hg]; exact Nat.ne_of_gt (blk_lt (g := gb287) (o := .cells #[.int .i64 t284, .int .i64 t285] 25 (0, 0)) (by (with_reducible repeat (first | refine blk_drewN ?_ _ | refine blk_drew ?_ | refine blk_alloc ?_ _)); exact BK287.out)) : gb291 ≠ gb287)); clear BK287; clear HB; have BK287 := n0_; have HB := n1_; have BK291 := n2_; have GW291 := n3_; have GE291 := n4_; have NB287_291 := n5_; have NB291_287 := n6_; clear n0_ n1_ n2_ n3_ n4_ n5_ n6_; clear hb hbox hg; have hnb21 := NB291_287.out; have hnc21 := NB287_291.out; have hcz22_0 : w20.cell? ⟨gb291, 0, none⟩ = some (.int .i64 0) := (blk_cell BK291.out 0).trans rfl; have hcz22_1 : w20.cell? ⟨gb291, 1, none⟩ = some (.int .i64 0) := (blk_cell BK291.out 1).trans rfl; have hfz22_0 := blk_frozen BK291.out 0; have hfz22_1 := blk_frozen BK291.out 1) | ((with_reducible refine gate_callee (f := 21) rfl ?_); refine goesL_ (some 19) rfl rfl Try.func21 (by kernel_rfl) rfl #[.agg #[.int .i64 (-5), .int .i64 1]] rfl (by (try simp only [List.map_toArray, List.map_cons, List.map_nil]); first | done | rfl | (simp only [List.length_drop, List.length_take]; rfl)) ?_; (with_reducible refine (dec_Floor.calls k (-5) 1 t292 t293 _ A3.out).mono ?_); rintro e w23 ⟨rfl, hb⟩; refine ⟨_, rfl, ?_⟩; have n0_ := Aside0.mk (blk_below (g := gb287) (o := .cells #[.int .i64 t284, .int .i64 t285] 25 (0, 0)) (by (with_reducible repeat (first | refine blk_drewN ?_ _ | refine blk_drew ?_ | refine blk_alloc ?_ _)); refine blk_far ?_ NB287_291.out _; (with_reducible repeat (first | refine blk_drewN ?_ _ | refine blk_drew ?_ | refine blk_alloc ?_ _)); refine blk_far ?_ NB287_291.out _; (with_reducible repeat (first | refine blk_drewN ?_ _ | refine blk_drew ?_ | refine blk_alloc ?_ _)); exact BK287.out) hb); have n1_ := Aside0.mk (blk_below (g := gb291) (o := .cells #[.int .i64 t288, .int .i64 t289] 25 (0, 0)) (by (with_reducible repeat (first | refine blk_drewN ?_ _ | refine blk_drew ?_ | refine blk_alloc ?_ _)); refine blk_put (cs := #[.int .i64 t288, .int .i64 0]) ?_ 1 _ rfl; (with_reducible repeat (first | refine blk_drewN ?_ _ | refine blk_drew ?_ | refine blk_alloc ?_ _)); refine blk_put (cs := #[.int .i64 0, .int .i64 0]) ?_ 0 _ rfl; (with_reducible repeat (first | refine blk_drewN ?_ _ | refine blk_drew ?_ | refine blk_alloc ?_ _)); exact BK291.out) hb); have n2_ := Aside0.mk (below_step (by repeat (first | (with_reducible first | exact HB.out | apply below_alloc | apply pw_below_drewN | apply below_drew1 | refine below_set ?_ GE287.out | refine below_set ?_ GE291.out) | exact HB.out)) hb); clear BK287; clear BK291; clear HB; have BK287 := n0_; have BK291 := n1_; have HB := n2_; clear n0_ n1_ n2_; (try clear hb); (try clear hb2); (try clear hk); (try clear hi); have hcz24_0 : w23.cell? ⟨gb287, 0, none⟩ = some (.int .i64 t284) := (blk_cell BK287.out 0).trans rfl; have hcz24_1 : w23.cell? ⟨gb287, 1, none⟩ = some (.int .i64 t285) := (blk_cell BK287.out 1).trans rfl; have hfz24_0 := blk_frozen BK287.out 0; have hfz24_1 := blk_frozen BK287.out 1) | ((with_reducible refine gate_callee (f := 23) rfl ?_); refine goesL_ (some 23) rfl rfl Try.func23 (by kernel_rfl) rfl #[.agg #[.int .i64 t284, .int .i64 t285]] rfl (by (try simp only [List.map_toArray, List.map_cons, List.map_nil]); first | done | rfl | (simp only [List.length_drop, List.length_take]; rfl)) ?_; (with_reducible refine (dec_Trim.calls k t284 t285 t294 t295 _ A4.out).mono ?_); rintro e w25 ⟨rfl, hb⟩; refine ⟨_, rfl, ?_⟩; have n0_ := Aside0.mk (blk_below (g := gb287) (o := .cells #[.int .i64 t284, .int .i64 t285] 25 (0, 0)) (by (with_reducible repeat (first | refine blk_drewN ?_ _ | refine blk_drew ?_ | refine blk_alloc ?_ _)); exact BK287.out) hb); have n1_ := Aside0.mk (blk_below (g := gb291) (o := .cells #[.int .i64 t288, .int .i64 t289] 25 (0, 0)) (by (with_reducible repeat (first | refine blk_drewN ?_ _ | refine blk_drew ?_ | refine blk_alloc ?_ _)); exact BK291.out) hb); have n2_ := Aside0.mk (below_step (by repeat (first | (with_reducible first | exact HB.out | apply below_alloc | apply pw_below_drewN | apply below_drew1 | refine below_set ?_ GE287.out | refine below_set ?_ GE291.out) | exact HB.out)) hb); clear BK287; clear BK291; clear HB; have BK287 := n0_; have BK291 := n1_; have HB := n2_; clear n0_ n1_ n2_; (try clear hb); (try clear hb2); (try clear hk); (try clear hi)) | ((with_reducible refine gate_dst (N := 7) rfl ?_); refine box_event ?hg (N := 7) ?hd (cs := #[.int .i64 0, .int .i64 0]) (t := 25) ?hr ?_; (case hd => rfl); (case hg => rfl); (case hr => first | (go_simp; done) | (go_simp; rfl)); intro gb296 hg w26 hbox hb; have n0_ := Aside0.mk (blk_below (g := gb287) (o := .cells #[.int .i64 t284, .int .i64 t285] 25 (0, 0)) (by (with_reducible repeat (first | refine blk_drewN ?_ _ | refine blk_drew ?_ | refine blk_alloc ?_ _)); exact BK287.out) hb); have n1_ := Aside0.mk (blk_below (g := gb291) (o := .cells #[.int .i64 t288, .int .i64 t289] 25 (0, 0)) (by (with_reducible repeat (first | refine blk_drewN ?_ _ | refine blk_drew ?_ | refine blk_alloc ?_ _)); exact BK291.out) hb); have n2_ := Aside0.mk (below_step (by repeat (first | (with_reducible first | exact HB.out | apply below_alloc | apply pw_below_drewN | apply below_drew1 | refine below_set ?_ GE287.out | refine below_set ?_ GE291.out) | exact HB.out)) hb); have n3_ := Aside0.mk (hbox); have n4_ := Aside0.mk ((by rw [hg]; exact (below_size (by repeat (first | (with_reducible first | exact HB.out | apply below_alloc | apply pw_below_drewN | apply below_drew1 | refine below_set ?_ GE287.out | refine below_set ?_ GE291.out) | exact HB.out))) : w.heap.size ≤ gb296)); have n5_ := Aside0.mk ((by rw [hg]; exact (below_size (by repeat (first | (with_reducible first | exact HB.out | apply below_alloc | apply pw_below_drewN | apply below_drew1 | refine below_set ?_ GE287.out | refine below_set ?_ GE291.out) | exact HB.out))) : w.heap.size ≤ gb296)); have n6_ := Aside0.mk ((by rw [hg]; exact Nat.ne_of_lt (blk_lt (g := gb287) (o := .cells #[.int .i64 t284, .int .i64 t285] 25 (0, 0)) (by (with_reducible repeat (first | refine blk_drewN ?_ _ | refine blk_drew ?_ | refine blk_alloc ?_ _)); exact BK287.out)) : gb287 ≠ gb296)); have n7_ := Aside0.mk ((by rw [hg]; exact Nat.ne_of_gt (blk_lt (g := gb287) (o := .cells #[.int .i64 t284, .int .i64 t285] 25 (0, 0)) (by (with_reducible repeat (first | refine blk_drewN ?_ _ | refine blk_drew ?_ | refine blk_alloc ?_ _)); exact BK287.out)) : gb296 ≠ gb287)); have n8_ := Aside0.mk ((by rw [hg]; exact Nat.ne_of_lt (blk_lt (g := gb291) (o := .cells #[.int .i64 t288, .int .i64 t289] 25 (0, 0)) (by (with_reducible repeat (first | refine blk_drewN ?_ _ | refine blk_drew ?_ | refine blk_alloc ?_ _)); exact BK291.out)) : gb291 ≠ gb296)); have n9_ := Aside0.mk ((by rw [hg]; exact Nat.ne_of_gt (blk_lt (g := gb291) (o := .cells #[.int .i64 t288, .int .i64 t289] 25 (0, 0)) (by (with_reducible repeat (first | refine blk_drewN ?_ _ | refine blk_drew ?_ | refine blk_alloc ?_ _)); exact BK291.out)) : gb296 ≠ gb291)); clear BK287; clear BK291; clear HB; have BK287 := n0_; have BK291 := n1_; have HB := n2_; have BK296 := n3_; have GW296 := n4_; have GE296 := n5_; have NB287_296 := n6_; have NB296_287 := n7_; have NB291_296 := n8_; have NB296_291 := n9_; clear n0_ n1_ n2_ n3_ n4_ n5_ n6_ n7_ n8_ n9_; clear hb hbox hg; have hnb27 := NB296_287.out; have hnc27 := NB287_296.out; have hnb28 := NB296_291.out; have hnc28 := NB291_296.out; have hcz29_0 : w26.cell? ⟨gb296, 0, none⟩ = some (.int .i64 0) := (blk_cell BK296.out 0).trans rfl; have hcz29_1 : w26.cell? ⟨gb296, 1, none⟩ = some (.int .i64 0) := (blk_cell BK296.out 1).trans rfl; have hfz29_0 := blk_frozen BK296.out 0; have hfz29_1 := blk_frozen BK296.out 1) | ((with_reducible refine gate_callee (f := 9) rfl ?_); refine goesL_ (some 25) rfl rfl Try.func9 (by kernel_rfl) rfl #[.agg #[.int .i64 (-5), .int .i64 1]] rfl (by (try simp only [List.map_toArray, List.map_cons, List.map_nil]); first | done | rfl | (simp only [List.length_drop, List.length_take]; rfl)) ?_; (with_reducible refine (dec_Text.calls (-5) 1 t297 _ A5.out).mono ?_); rintro e w30 ⟨rfl, hb⟩; refine ⟨_, rfl, ?_⟩; have n0_ := Aside0.mk (blk_below (g := gb287) (o := .cells #[.int .i64 t284, .int .i64 t285] 25 (0, 0)) (by (with_reducible repeat (first | refine blk_drewN ?_ _ | refine blk_drew ?_ | refine blk_alloc ?_ _)); refine blk_far ?_ NB287_296.out _; (with_reducible repeat (first | refine blk_drewN ?_ _ | refine blk_drew ?_ | refine blk_alloc ?_ _)); refine blk_far ?_ NB287_296.out _; (with_reducible repeat (first | refine blk_drewN ?_ _ | refine blk_drew ?_ | refine blk_alloc ?_ _)); exact BK287.out) hb); have n1_ := Aside0.mk (blk_below (g := gb291) (o := .cells #[.int .i64 t288, .int .i64 t289] 25 (0, 0)) (by (with_reducible repeat (first | refine blk_drewN ?_ _ | refine blk_drew ?_ | refine blk_alloc ?_ _)); refine blk_far ?_ NB291_296.out _; (with_reducible repeat (first | refine blk_drewN ?_ _ | refine blk_drew ?_ | refine blk_alloc ?_ _)); refine blk_far ?_ NB291_296.out _; (with_reducible repeat (first | refine blk_drewN ?_ _ | refine blk_drew ?_ | refine blk_alloc ?_ _)); exact BK291.out) hb); have n2_ := Aside0.mk (blk_below (g := gb296) (o := .cells #[.int .i64 t294, .int .i64 t295] 25 (0, 0)) (by (with_reducible repeat (first | refine blk_drewN ?_ _ | refine blk_drew ?_ | refine blk_alloc ?_ _)); refine blk_put (cs := #[.int .i64 t294, .int .i64 0]) ?_ 1 _ rfl; (with_reducible repeat (first | refine blk_drewN ?_ _ | refine blk_drew ?_ | refine blk_alloc ?_ _)); refine blk_put (cs := #[.int .i64 0, .int .i64 0]) ?_ 0 _ rfl; (with_reducible repeat (first | refine blk_drewN ?_ _ | refine blk_drew ?_ | refine blk_alloc ?_ _)); exact BK296.out) hb); have n3_ := Aside0.mk (below_step (by repeat (first | (with_reducible first | exact HB.out | apply below_alloc | apply pw_below_drewN | apply below_drew1 | refine below_set ?_ GE287.out | refine below_set ?_ GE291.out | refine below_set ?_ GE296.out) | exact HB.out)) hb); clear BK287; clear BK291; clear BK296; clear HB; have BK287 := n0_; have BK291 := n1_; have BK296 := n2_; have HB := n3_; clear n0_ n1_ n2_ n3_; (try clear hb); (try clear hb2); (try clear hk); (try clear hi); have hcz31_0 : w30.cell? ⟨gb287, 0, none⟩ = some (.int .i64 t284) := (blk_cell BK287.out 0).trans rfl; have hcz31_1 : w30.cell? ⟨gb287, 1, none⟩ = some (.int .i64 t285) := (blk_cell BK287.out 1).trans rfl; have hfz31_0 := blk_frozen BK287.out 0; have hfz31_1 := blk_frozen BK287.out 1; have hcz32_0 : w30.cell? ⟨gb296, 0, none⟩ = some (.int .i64 t294) := (blk_cell BK296.out 0).trans rfl; have hcz32_1 : w30.cell? ⟨gb296, 1, none⟩ = some (.int .i64 t295) := (blk_cell BK296.out 1).trans rfl; have hfz32_0 := blk_frozen BK296.out 0; have hfz32_1 := blk_frozen BK296.out 1; have hcz33_0 : w30.cell? ⟨gb291, 0, none⟩ = some (.int .i64 t288) := (blk_cell BK291.out 0).trans rfl; have hcz33_1 : w30.cell? ⟨gb291, 1, none⟩ = some (.int .i64 t289) := (blk_cell BK291.out 1).trans rfl; have hfz33_0 := blk_frozen BK291.out 0; have hfz33_1 := blk_frozen BK291.out 1))
                      go_ret
                      exact ⟨by first | rfl | (simp [errW_none, errW_some] <;> rfl) | (simp [*, errW_none, errW_some] <;> rfl), by repeat (first | (with_reducible first | exact HB.out | apply below_alloc | apply pw_below_drewN | apply below_drew1 | refine below_set ?_ GE287.out | refine below_set ?_ GE291.out | refine below_set ?_ GE296.out) | exact HB.out)⟩
                    · rw [if_neg c15] at H
                      have c15b0 : (t292 == (-1)) = false := beq_eq_false_iff_ne.mpr c15
                      have c15b1 : (t292 != (-1)) = true := bne_iff_ne.mpr c15
                      exact absurd (Option.some.inj H) (by rw [HRT.out]; decide)
                  · rw [if_neg c14] at H
                    have c14b0 : (t290 == 0) = false := beq_eq_false_iff_ne.mpr c14
                    have c14b1 : (t290 != 0) = true := bne_iff_ne.mpr c14
                    exact absurd (Option.some.inj H) (by rw [HRT.out]; decide)
                · rw [if_neg c13] at H
                  have c13b0 : (t289 == 0) = false := beq_eq_false_iff_ne.mpr c13
                  have c13b1 : (t289 != 0) = true := bne_iff_ne.mpr c13
                  exact absurd (Option.some.inj H) (by rw [HRT.out]; decide)
              · rw [if_neg c12] at H
                have c12b0 : (t288 == 3) = false := beq_eq_false_iff_ne.mpr c12
                have c12b1 : (t288 != 3) = true := bne_iff_ne.mpr c12
                exact absurd (Option.some.inj H) (by rw [HRT.out]; decide)
            · rw [if_neg c11] at H
              have c11b0 : (t295 == 2) = false := beq_eq_false_iff_ne.mpr c11
              have c11b1 : (t295 != 2) = true := bne_iff_ne.mpr c11
              exact absurd (Option.some.inj H) (by rw [HRT.out]; decide)
          · rw [if_neg c10] at H
            have c10b0 : (t294 == 1234) = false := beq_eq_false_iff_ne.mpr c10
            have c10b1 : (t294 != 1234) = true := bne_iff_ne.mpr c10
            exact absurd (Option.some.inj H) (by rw [HRT.out]; decide)
        · rw [if_neg c9] at H
          have c9b0 : (t286 == 0) = false := beq_eq_false_iff_ne.mpr c9
          have c9b1 : (t286 != 0) = true := bne_iff_ne.mpr c9
          exact absurd (Option.some.inj H) (by rw [HRT.out]; decide)
      · rw [if_neg c8] at H
        have c8b0 : (t285 == 3) = false := beq_eq_false_iff_ne.mpr c8
        have c8b1 : (t285 != 3) = true := bne_iff_ne.mpr c8
        exact absurd (Option.some.inj H) (by rw [HRT.out]; decide)
    · rw [if_neg c7] at H
      have c7b0 : (t284 == 12340) = false := beq_eq_false_iff_ne.mpr c7
      have c7b1 : (t284 != 12340) = true := bne_iff_ne.mpr c7
      exact absurd (Option.some.inj H) (by rw [HRT.out]; decide)
  · rw [if_neg c6] at H
    have c6b0 : (t297.toList == ([45, 48, 46, 53] : List UInt8)) = false := beq_eq_false_iff_ne.mpr c6
    have c6b1 : (t297.toList != ([45, 48, 46, 53] : List UInt8)) = true := bne_iff_ne.mpr c6
    exact absurd (Option.some.inj H) (by rw [HRT.out]; decide)
end Go.Proofs.Ytkongoedgngfhaa.P
