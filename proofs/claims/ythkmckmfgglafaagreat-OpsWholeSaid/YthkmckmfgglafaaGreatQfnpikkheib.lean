-- Written by a program of the session (a print of the seat's translation, functions given by hand among it). Lean checks it.
import Derived.Test.YthkmckmfgglafaaGreatQeiellgheod
import Derived.Test.YthkmckmfgglafaaGreatQmkjlcblnfm
namespace Go.Proofs.YthkmckmfgglafaaGreat.P
open Go.RowKit Go.Proofs.YthkmckmfgglafaaGreatW.PrintWords Go.Proofs.YthkmckmfgglafaaGreatW.PrintLast Go.Proofs.YthkmckmfgglafaaGreatW.PrintMore
attribute [local go_sem] max2_int min2_int max_two min_two max_three min_three max_four min_four   -- for this text's walks alone
set_option linter.unusedVariables false
set_option linter.unusedSimpArgs false
def num_Scale.f (k : Nat) (a0 : Int) (a1 : Int) (a2 : Int) : Option (Int × Int) := if a2 = 0 then (some (0, 11)) else ((num_product.f a0 a1).bind fun bt109 => ((num_size.f a2).bind fun t111 => (if bt109.1 ≥ t111 then (some (0, 10)) else ((bits_Div64.f k bt109.1 bt109.2 t111).bind fun bt113 => (if ((((decide (a0 < 0)) != (decide (a1 < 0))) != (decide (a2 < 0))) = true) then (if bt113.2 = 0 then ((num_signed.f k (((decide (a0 < 0)) != (decide (a1 < 0))) != (decide (a2 < 0))) 0 bt113.1).bind fun bt115 => (some (bt115.1, bt115.2))) else ((bits_Add64.f bt113.1 1 0).bind fun bt117 => ((num_signed.f k true bt117.2 bt117.1).bind fun bt119 => (some (bt119.1, bt119.2))))) else ((num_signed.f k (((decide (a0 < 0)) != (decide (a1 < 0))) != (decide (a2 < 0))) 0 bt113.1).bind fun bt121 => (some (bt121.1, bt121.2))))))))
set_option maxHeartbeats 8000000 in
set_option maxRecDepth 100000 in
theorem num_Scale.calls (k : Nat) (a0 : Int) (a1 : Int) (a2 : Int) (r1 : Int) (r2 : Int) (w : World) (h : num_Scale.f k a0 a1 a2 = some (r1, r2)) :
    Calls Tryz.prog 128 #[.int .i64 a0, .int .i64 a1, .int .i64 a2] w fun e w' => e = .returned (.tuple #[.int .i64 r1, .int .i64 r2]) ∧ Below w.heap.size w w' := by
  have hu170 := Tryz.underlying170
  have HB := Aside0.mk (Below.refl w.heap.size w)
  have H : (if a2 = 0 then (some (0, 11)) else ((num_product.f a0 a1).bind fun bt109 => ((num_size.f a2).bind fun t111 => (if bt109.1 ≥ t111 then (some (0, 10)) else ((bits_Div64.f k bt109.1 bt109.2 t111).bind fun bt113 => (if ((((decide (a0 < 0)) != (decide (a1 < 0))) != (decide (a2 < 0))) = true) then (if bt113.2 = 0 then ((num_signed.f k (((decide (a0 < 0)) != (decide (a1 < 0))) != (decide (a2 < 0))) 0 bt113.1).bind fun bt115 => (some (bt115.1, bt115.2))) else ((bits_Add64.f bt113.1 1 0).bind fun bt117 => ((num_signed.f k true bt117.2 bt117.1).bind fun bt119 => (some (bt119.1, bt119.2))))) else ((num_signed.f k (((decide (a0 < 0)) != (decide (a1 < 0))) != (decide (a2 < 0))) 0 bt113.1).bind fun bt121 => (some (bt121.1, bt121.2))))))))) = some (r1, r2) := h
  clear h
  by_cases s0 : a0 < 0
  · have s0b : decide (a0 < 0) = true := decide_eq_true s0
    clear s0
    by_cases s1 : a1 < 0
    · have s1b : decide (a1 < 0) = true := decide_eq_true s1
      clear s1
      by_cases s2 : a2 < 0
      · have s2b : decide (a2 < 0) = true := decide_eq_true s2
        clear s2
        rw [s0b, s1b, s2b, show (((true != true) != true)) = true from rfl] at H
        by_cases c4 : a2 = 0
        · rw [if_pos c4] at H
          have c4b0 : (a2 == 0) = true := beq_iff_eq.mpr c4
          have c4b1 : (a2 != 0) = false := bne_eq_false_iff_eq.mpr c4
          clear c4
          simp only [Option.some.injEq, Prod.mk.injEq] at H
          obtain ⟨rfl, rfl⟩ := H
          go_enter Tryz.func128, Tryz.ntmps128
          go_wp2
          go_ret2
          exact ⟨by first | rfl | (simp [errW_none, errW_some] <;> rfl) | (simp [*, errW_none, errW_some] <;> rfl), by repeat (first | (with_reducible first | exact HB.out | apply kB | apply kA | apply kC) | exact HB.out)⟩
        · rw [if_neg c4] at H
          have c4b0 : (a2 == 0) = false := beq_eq_false_iff_ne.mpr c4
          have c4b1 : (a2 != 0) = true := bne_iff_ne.mpr c4
          replace H := Option.bind_eq_some_iff.mp H
          obtain ⟨⟨t109, t110⟩, A50, H⟩ := H
          replace H : ((num_size.f a2).bind fun t111 => (if t109 ≥ t111 then (some (0, 10)) else ((bits_Div64.f k t109 t110 t111).bind fun bt113 => (if (true = true) then (if bt113.2 = 0 then ((num_signed.f k true 0 bt113.1).bind fun bt115 => (some (bt115.1, bt115.2))) else ((bits_Add64.f bt113.1 1 0).bind fun bt117 => ((num_signed.f k true bt117.2 bt117.1).bind fun bt119 => (some (bt119.1, bt119.2))))) else ((num_signed.f k true 0 bt113.1).bind fun bt121 => (some (bt121.1, bt121.2))))))) = some (r1, r2) := H
          have A5 := Aside0.mk A50
          clear A50
          replace H := Option.bind_eq_some_iff.mp H
          obtain ⟨t111, A60, H⟩ := H
          replace H : (if t109 ≥ t111 then (some (0, 10)) else ((bits_Div64.f k t109 t110 t111).bind fun bt113 => (if (true = true) then (if bt113.2 = 0 then ((num_signed.f k true 0 bt113.1).bind fun bt115 => (some (bt115.1, bt115.2))) else ((bits_Add64.f bt113.1 1 0).bind fun bt117 => ((num_signed.f k true bt117.2 bt117.1).bind fun bt119 => (some (bt119.1, bt119.2))))) else ((num_signed.f k true 0 bt113.1).bind fun bt121 => (some (bt121.1, bt121.2)))))) = some (r1, r2) := H
          have A6 := Aside0.mk A60
          clear A60
          by_cases c7 : t109 ≥ t111
          · rw [if_pos c7] at H
            have c7b0 : decide (t111 ≤ t109) = true := decide_eq_true c7
            clear c7
            simp only [Option.some.injEq, Prod.mk.injEq] at H
            obtain ⟨rfl, rfl⟩ := H
            go_enter Tryz.func128, Tryz.ntmps128
            go_wp2_with (first | ((with_reducible refine kK (f := 134) rfl ?_); refine kN (some 19) rfl rfl Tryz.func134 (by kernel_rfl) rfl #[.int .i64 a0, .int .i64 a1] rfl (by (try simp only [List.map_toArray, List.map_cons, List.map_nil]); first | done | rfl | (simp only [List.length_drop, List.length_take]; rfl)) ?_; (with_reducible refine (num_product.calls a0 a1 t109 t110 _ A5.out).mono ?_); rintro e w8 ⟨rfl, hb⟩; refine ⟨_, rfl, ?_⟩; have n0_ := Aside0.mk (kJ (by repeat (first | (with_reducible first | exact HB.out | apply kB | apply kA | apply kC) | exact HB.out)) hb); clear HB; have HB := n0_; clear n0_; (try clear hb); (try clear hb2); (try clear hk); (try clear hi)) | ((with_reducible refine kK (f := 175) rfl ?_); refine kN (some 21) rfl rfl Tryz.func175 (by kernel_rfl) rfl #[.int .i64 a2] rfl (by (try simp only [List.map_toArray, List.map_cons, List.map_nil]); first | done | rfl | (simp only [List.length_drop, List.length_take]; rfl)) ?_; (with_reducible refine (num_size.calls a2 t111 _ A6.out).mono ?_); rintro e w' ⟨rfl, ⟨nd, rfl⟩⟩; refine ⟨_, rfl, ?_⟩; (try (rw [drewN_self w8]; generalize hq_ : World.drewN w8 _ = w8; have n0_ : Aside0 (Below w.heap.size w w8) := ⟨by rw [← hq_]; exact (by repeat (first | (with_reducible first | exact HB.out | apply kB | apply kA | apply kC) | exact HB.out))⟩; clear HB hq_; have HB := n0_; clear n0_))) | ((with_reducible refine gate_dst (N := 8) rfl ?_); refine kO ?hg (N := 8) ?hd (cs := #[.int .u64 0, .int .u64 0]) (t := 170) ?hr ?_; (case hd => rfl); (case hg => rfl); (case hr => first | (go_simp; done) | (go_simp; rfl)); intro gb112 hg w9 hbox hb; have n0_ := Aside0.mk (kJ (by repeat (first | (with_reducible first | exact HB.out | apply kB | apply kA | apply kC) | exact HB.out)) hb); have n1_ := Aside0.mk (hbox); have n2_ := Aside0.mk ((by rw [hg]; exact (kL (by repeat (first | (with_reducible first | exact HB.out | apply kB | apply kA | apply kC) | exact HB.out))) : w.heap.size ≤ gb112)); have n3_ := Aside0.mk ((by rw [hg]; exact (kL (by repeat (first | (with_reducible first | exact HB.out | apply kB | apply kA | apply kC) | exact HB.out))) : w.heap.size ≤ gb112)); clear HB; have HB := n0_; have BK112 := n1_; have GW112 := n2_; have GE112 := n3_; clear n0_ n1_ n2_ n3_; clear hb hbox hg; have hcz10_0 : w9.cell? ⟨gb112, 0, none⟩ = some (.int .u64 0) := (kI BK112.out 0).trans rfl; have hcz10_1 : w9.cell? ⟨gb112, 1, none⟩ = some (.int .u64 0) := (kI BK112.out 1).trans rfl; have hfz10_0 := kG BK112.out 0; have hfz10_1 := kG BK112.out 1))
            go_ret2
            exact ⟨by first | rfl | (simp [errW_none, errW_some] <;> rfl) | (simp [*, errW_none, errW_some] <;> rfl), by repeat (first | (with_reducible first | exact HB.out | apply kB | apply kA | apply kC | refine kD ?_ GE112.out) | exact HB.out)⟩
          · rw [if_neg c7] at H
            have c7b0 : decide (t111 ≤ t109) = false := decide_eq_false c7
            clear c7
            replace H := Option.bind_eq_some_iff.mp H
            obtain ⟨⟨t113, t114⟩, A110, H⟩ := H
            replace H : (if (true = true) then (if t114 = 0 then ((num_signed.f k true 0 t113).bind fun bt115 => (some (bt115.1, bt115.2))) else ((bits_Add64.f t113 1 0).bind fun bt117 => ((num_signed.f k true bt117.2 bt117.1).bind fun bt119 => (some (bt119.1, bt119.2))))) else ((num_signed.f k true 0 t113).bind fun bt121 => (some (bt121.1, bt121.2)))) = some (r1, r2) := H
            have A11 := Aside0.mk A110
            clear A110
            rw [if_pos (by decide)] at H
            by_cases c13 : t114 = 0
            · rw [if_pos c13] at H
              have c13b0 : (t114 == 0) = true := beq_iff_eq.mpr c13
              have c13b1 : (t114 != 0) = false := bne_eq_false_iff_eq.mpr c13
              clear c13
              replace H := Option.bind_eq_some_iff.mp H
              obtain ⟨⟨t115, t116⟩, A140, H⟩ := H
              replace H : (some (t115, t116)) = some (r1, r2) := H
              have A14 := Aside0.mk A140
              clear A140
              simp only [Option.some.injEq, Prod.mk.injEq] at H
              obtain ⟨rfl, rfl⟩ := H
              go_enter Tryz.func128, Tryz.ntmps128
              go_wp2_with (first | ((with_reducible refine kK (f := 134) rfl ?_); refine kN (some 19) rfl rfl Tryz.func134 (by kernel_rfl) rfl #[.int .i64 a0, .int .i64 a1] rfl (by (try simp only [List.map_toArray, List.map_cons, List.map_nil]); first | done | rfl | (simp only [List.length_drop, List.length_take]; rfl)) ?_; (with_reducible refine (num_product.calls a0 a1 t109 t110 _ A5.out).mono ?_); rintro e w15 ⟨rfl, hb⟩; refine ⟨_, rfl, ?_⟩; have n0_ := Aside0.mk (kJ (by repeat (first | (with_reducible first | exact HB.out | apply kB | apply kA | apply kC) | exact HB.out)) hb); clear HB; have HB := n0_; clear n0_; (try clear hb); (try clear hb2); (try clear hk); (try clear hi)) | ((with_reducible refine kK (f := 175) rfl ?_); refine kN (some 21) rfl rfl Tryz.func175 (by kernel_rfl) rfl #[.int .i64 a2] rfl (by (try simp only [List.map_toArray, List.map_cons, List.map_nil]); first | done | rfl | (simp only [List.length_drop, List.length_take]; rfl)) ?_; (with_reducible refine (num_size.calls a2 t111 _ A6.out).mono ?_); rintro e w' ⟨rfl, ⟨nd, rfl⟩⟩; refine ⟨_, rfl, ?_⟩; (try (rw [drewN_self w15]; generalize hq_ : World.drewN w15 _ = w15; have n0_ : Aside0 (Below w.heap.size w w15) := ⟨by rw [← hq_]; exact (by repeat (first | (with_reducible first | exact HB.out | apply kB | apply kA | apply kC) | exact HB.out))⟩; clear HB hq_; have HB := n0_; clear n0_))) | ((with_reducible refine gate_dst (N := 8) rfl ?_); refine kO ?hg (N := 8) ?hd (cs := #[.int .u64 0, .int .u64 0]) (t := 170) ?hr ?_; (case hd => rfl); (case hg => rfl); (case hr => first | (go_simp; done) | (go_simp; rfl)); intro gb112 hg w16 hbox hb; have n0_ := Aside0.mk (kJ (by repeat (first | (with_reducible first | exact HB.out | apply kB | apply kA | apply kC) | exact HB.out)) hb); have n1_ := Aside0.mk (hbox); have n2_ := Aside0.mk ((by rw [hg]; exact (kL (by repeat (first | (with_reducible first | exact HB.out | apply kB | apply kA | apply kC) | exact HB.out))) : w.heap.size ≤ gb112)); have n3_ := Aside0.mk ((by rw [hg]; exact (kL (by repeat (first | (with_reducible first | exact HB.out | apply kB | apply kA | apply kC) | exact HB.out))) : w.heap.size ≤ gb112)); clear HB; have HB := n0_; have BK112 := n1_; have GW112 := n2_; have GE112 := n3_; clear n0_ n1_ n2_ n3_; clear hb hbox hg; have hcz17_0 : w16.cell? ⟨gb112, 0, none⟩ = some (.int .u64 0) := (kI BK112.out 0).trans rfl; have hcz17_1 : w16.cell? ⟨gb112, 1, none⟩ = some (.int .u64 0) := (kI BK112.out 1).trans rfl; have hfz17_0 := kG BK112.out 0; have hfz17_1 := kG BK112.out 1) | ((with_reducible refine kK (f := 176) rfl ?_); refine kN (some 40) rfl rfl Tryz.func176 (by kernel_rfl) rfl #[.int .u64 t109, .int .u64 t110, .int .u64 t111] rfl (by (try simp only [List.map_toArray, List.map_cons, List.map_nil]); first | done | rfl | (simp only [List.length_drop, List.length_take]; rfl)) ?_; (with_reducible refine (bits_Div64.calls k t109 t110 t111 t113 t114 _ A11.out).mono ?_); rintro e w' ⟨rfl, ⟨nd, rfl⟩⟩; refine ⟨_, rfl, ?_⟩) | ((with_reducible refine kK (f := 133) rfl ?_); refine kN (some 52) rfl rfl Tryz.func133 (by kernel_rfl) rfl #[.bool true, .agg #[.int .u64 0, .int .u64 t113]] rfl (by (try simp only [List.map_toArray, List.map_cons, List.map_nil]); first | done | rfl | (simp only [List.length_drop, List.length_take]; rfl)) ?_; (with_reducible refine (num_signed.calls k true 0 t113 t115 t116 _ A14.out).mono ?_); rintro e w18 ⟨rfl, hb⟩; refine ⟨_, rfl, ?_⟩; have n0_ := Aside0.mk (kM (g := gb112) (o := .cells #[.int .u64 t109, .int .u64 t110] 170 (0, 0)) (by (with_reducible repeat (first | refine kE ?_ _ | refine kH ?_ | refine kF ?_ _)); refine blk_put (cs := #[.int .u64 t109, .int .u64 0]) ?_ 1 _ rfl; (with_reducible repeat (first | refine kE ?_ _ | refine kH ?_ | refine kF ?_ _)); refine blk_put (cs := #[.int .u64 0, .int .u64 0]) ?_ 0 _ rfl; (with_reducible repeat (first | refine kE ?_ _ | refine kH ?_ | refine kF ?_ _)); exact BK112.out) hb); have n1_ := Aside0.mk (kJ (by repeat (first | (with_reducible first | exact HB.out | apply kB | apply kA | apply kC | refine kD ?_ GE112.out) | exact HB.out)) hb); clear BK112; clear HB; have BK112 := n0_; have HB := n1_; clear n0_ n1_; (try clear hb); (try clear hb2); (try clear hk); (try clear hi)))
              go_ret2
              exact ⟨by first | rfl | (simp [errW_none, errW_some] <;> rfl) | (simp [*, errW_none, errW_some] <;> rfl), by repeat (first | (with_reducible first | exact HB.out | apply kB | apply kA | apply kC | refine kD ?_ GE112.out) | exact HB.out)⟩
            · rw [if_neg c13] at H
              have c13b0 : (t114 == 0) = false := beq_eq_false_iff_ne.mpr c13
              have c13b1 : (t114 != 0) = true := bne_iff_ne.mpr c13
              replace H := Option.bind_eq_some_iff.mp H
              obtain ⟨⟨t117, t118⟩, A190, H⟩ := H
              replace H : ((num_signed.f k true t118 t117).bind fun bt119 => (some (bt119.1, bt119.2))) = some (r1, r2) := H
              have A19 := Aside0.mk A190
              clear A190
              replace H := Option.bind_eq_some_iff.mp H
              obtain ⟨⟨t119, t120⟩, A200, H⟩ := H
              replace H : (some (t119, t120)) = some (r1, r2) := H
              have A20 := Aside0.mk A200
              clear A200
              simp only [Option.some.injEq, Prod.mk.injEq] at H
              obtain ⟨rfl, rfl⟩ := H
              go_enter Tryz.func128, Tryz.ntmps128
              have RA19 := fun (W_ : World) => bits_Add64.run t113 1 0 t117 t118 W_ A19.out
              go_wp2_with (first | ((with_reducible refine kK (f := 134) rfl ?_); refine kN (some 19) rfl rfl Tryz.func134 (by kernel_rfl) rfl #[.int .i64 a0, .int .i64 a1] rfl (by (try simp only [List.map_toArray, List.map_cons, List.map_nil]); first | done | rfl | (simp only [List.length_drop, List.length_take]; rfl)) ?_; (with_reducible refine (num_product.calls a0 a1 t109 t110 _ A5.out).mono ?_); rintro e w21 ⟨rfl, hb⟩; refine ⟨_, rfl, ?_⟩; have n0_ := Aside0.mk (kJ (by repeat (first | (with_reducible first | exact HB.out | apply kB | apply kA | apply kC) | exact HB.out)) hb); clear HB; have HB := n0_; clear n0_; (try clear hb); (try clear hb2); (try clear hk); (try clear hi)) | ((with_reducible refine kK (f := 175) rfl ?_); refine kN (some 21) rfl rfl Tryz.func175 (by kernel_rfl) rfl #[.int .i64 a2] rfl (by (try simp only [List.map_toArray, List.map_cons, List.map_nil]); first | done | rfl | (simp only [List.length_drop, List.length_take]; rfl)) ?_; (with_reducible refine (num_size.calls a2 t111 _ A6.out).mono ?_); rintro e w' ⟨rfl, ⟨nd, rfl⟩⟩; refine ⟨_, rfl, ?_⟩; (try (rw [drewN_self w21]; generalize hq_ : World.drewN w21 _ = w21; have n0_ : Aside0 (Below w.heap.size w w21) := ⟨by rw [← hq_]; exact (by repeat (first | (with_reducible first | exact HB.out | apply kB | apply kA | apply kC) | exact HB.out))⟩; clear HB hq_; have HB := n0_; clear n0_))) | ((with_reducible refine gate_dst (N := 8) rfl ?_); refine kO ?hg (N := 8) ?hd (cs := #[.int .u64 0, .int .u64 0]) (t := 170) ?hr ?_; (case hd => rfl); (case hg => rfl); (case hr => first | (go_simp; done) | (go_simp; rfl)); intro gb112 hg w22 hbox hb; have n0_ := Aside0.mk (kJ (by repeat (first | (with_reducible first | exact HB.out | apply kB | apply kA | apply kC) | exact HB.out)) hb); have n1_ := Aside0.mk (hbox); have n2_ := Aside0.mk ((by rw [hg]; exact (kL (by repeat (first | (with_reducible first | exact HB.out | apply kB | apply kA | apply kC) | exact HB.out))) : w.heap.size ≤ gb112)); have n3_ := Aside0.mk ((by rw [hg]; exact (kL (by repeat (first | (with_reducible first | exact HB.out | apply kB | apply kA | apply kC) | exact HB.out))) : w.heap.size ≤ gb112)); clear HB; have HB := n0_; have BK112 := n1_; have GW112 := n2_; have GE112 := n3_; clear n0_ n1_ n2_ n3_; clear hb hbox hg; have hcz23_0 : w22.cell? ⟨gb112, 0, none⟩ = some (.int .u64 0) := (kI BK112.out 0).trans rfl; have hcz23_1 : w22.cell? ⟨gb112, 1, none⟩ = some (.int .u64 0) := (kI BK112.out 1).trans rfl; have hfz23_0 := kG BK112.out 0; have hfz23_1 := kG BK112.out 1) | ((with_reducible refine kK (f := 176) rfl ?_); refine kN (some 40) rfl rfl Tryz.func176 (by kernel_rfl) rfl #[.int .u64 t109, .int .u64 t110, .int .u64 t111] rfl (by (try simp only [List.map_toArray, List.map_cons, List.map_nil]); first | done | rfl | (simp only [List.length_drop, List.length_take]; rfl)) ?_; (with_reducible refine (bits_Div64.calls k t109 t110 t111 t113 t114 _ A11.out).mono ?_); rintro e w' ⟨rfl, ⟨nd, rfl⟩⟩; refine ⟨_, rfl, ?_⟩) | (simp only [bits_Add64.run t113 1 0 t117 t118 _ A19.out]) | ((with_reducible refine kK (f := 133) rfl ?_); refine kN (some 63) rfl rfl Tryz.func133 (by kernel_rfl) rfl #[.bool true, .agg #[.int .u64 t118, .int .u64 t117]] rfl (by (try simp only [List.map_toArray, List.map_cons, List.map_nil]); first | done | rfl | (simp only [List.length_drop, List.length_take]; rfl)) ?_; (with_reducible refine (num_signed.calls k true t118 t117 t119 t120 _ A20.out).mono ?_); rintro e w24 ⟨rfl, hb⟩; refine ⟨_, rfl, ?_⟩; have n0_ := Aside0.mk (kM (g := gb112) (o := .cells #[.int .u64 t109, .int .u64 t110] 170 (0, 0)) (by (with_reducible repeat (first | refine kE ?_ _ | refine kH ?_ | refine kF ?_ _)); refine blk_put (cs := #[.int .u64 t109, .int .u64 0]) ?_ 1 _ rfl; (with_reducible repeat (first | refine kE ?_ _ | refine kH ?_ | refine kF ?_ _)); refine blk_put (cs := #[.int .u64 0, .int .u64 0]) ?_ 0 _ rfl; (with_reducible repeat (first | refine kE ?_ _ | refine kH ?_ | refine kF ?_ _)); exact BK112.out) hb); have n1_ := Aside0.mk (kJ (by repeat (first | (with_reducible first | exact HB.out | apply kB | apply kA | apply kC | refine kD ?_ GE112.out) | exact HB.out)) hb); clear BK112; clear HB; have BK112 := n0_; have HB := n1_; clear n0_ n1_; (try clear hb); (try clear hb2); (try clear hk); (try clear hi)))
              go_ret2
              exact ⟨by first | rfl | (simp [errW_none, errW_some] <;> rfl) | (simp [*, errW_none, errW_some] <;> rfl), by repeat (first | (with_reducible first | exact HB.out | apply kB | apply kA | apply kC | refine kD ?_ GE112.out) | exact HB.out)⟩
      · have s2b : decide (a2 < 0) = false := decide_eq_false s2
        clear s2
        rw [s0b, s1b, s2b, show (((true != true) != false)) = false from rfl] at H
        by_cases c4 : a2 = 0
        · rw [if_pos c4] at H
          have c4b0 : (a2 == 0) = true := beq_iff_eq.mpr c4
          have c4b1 : (a2 != 0) = false := bne_eq_false_iff_eq.mpr c4
          clear c4
          simp only [Option.some.injEq, Prod.mk.injEq] at H
          obtain ⟨rfl, rfl⟩ := H
          go_enter Tryz.func128, Tryz.ntmps128
          go_wp2
          go_ret2
          exact ⟨by first | rfl | (simp [errW_none, errW_some] <;> rfl) | (simp [*, errW_none, errW_some] <;> rfl), by repeat (first | (with_reducible first | exact HB.out | apply kB | apply kA | apply kC) | exact HB.out)⟩
        · rw [if_neg c4] at H
          have c4b0 : (a2 == 0) = false := beq_eq_false_iff_ne.mpr c4
          have c4b1 : (a2 != 0) = true := bne_iff_ne.mpr c4
          replace H := Option.bind_eq_some_iff.mp H
          obtain ⟨⟨t109, t110⟩, A50, H⟩ := H
          replace H : ((num_size.f a2).bind fun t111 => (if t109 ≥ t111 then (some (0, 10)) else ((bits_Div64.f k t109 t110 t111).bind fun bt113 => (if (false = true) then (if bt113.2 = 0 then ((num_signed.f k false 0 bt113.1).bind fun bt115 => (some (bt115.1, bt115.2))) else ((bits_Add64.f bt113.1 1 0).bind fun bt117 => ((num_signed.f k true bt117.2 bt117.1).bind fun bt119 => (some (bt119.1, bt119.2))))) else ((num_signed.f k false 0 bt113.1).bind fun bt121 => (some (bt121.1, bt121.2))))))) = some (r1, r2) := H
          have A5 := Aside0.mk A50
          clear A50
          replace H := Option.bind_eq_some_iff.mp H
          obtain ⟨t111, A60, H⟩ := H
          replace H : (if t109 ≥ t111 then (some (0, 10)) else ((bits_Div64.f k t109 t110 t111).bind fun bt113 => (if (false = true) then (if bt113.2 = 0 then ((num_signed.f k false 0 bt113.1).bind fun bt115 => (some (bt115.1, bt115.2))) else ((bits_Add64.f bt113.1 1 0).bind fun bt117 => ((num_signed.f k true bt117.2 bt117.1).bind fun bt119 => (some (bt119.1, bt119.2))))) else ((num_signed.f k false 0 bt113.1).bind fun bt121 => (some (bt121.1, bt121.2)))))) = some (r1, r2) := H
          have A6 := Aside0.mk A60
          clear A60
          by_cases c7 : t109 ≥ t111
          · rw [if_pos c7] at H
            have c7b0 : decide (t111 ≤ t109) = true := decide_eq_true c7
            clear c7
            simp only [Option.some.injEq, Prod.mk.injEq] at H
            obtain ⟨rfl, rfl⟩ := H
            go_enter Tryz.func128, Tryz.ntmps128
            go_wp2_with (first | ((with_reducible refine kK (f := 134) rfl ?_); refine kN (some 19) rfl rfl Tryz.func134 (by kernel_rfl) rfl #[.int .i64 a0, .int .i64 a1] rfl (by (try simp only [List.map_toArray, List.map_cons, List.map_nil]); first | done | rfl | (simp only [List.length_drop, List.length_take]; rfl)) ?_; (with_reducible refine (num_product.calls a0 a1 t109 t110 _ A5.out).mono ?_); rintro e w8 ⟨rfl, hb⟩; refine ⟨_, rfl, ?_⟩; have n0_ := Aside0.mk (kJ (by repeat (first | (with_reducible first | exact HB.out | apply kB | apply kA | apply kC) | exact HB.out)) hb); clear HB; have HB := n0_; clear n0_; (try clear hb); (try clear hb2); (try clear hk); (try clear hi)) | ((with_reducible refine kK (f := 175) rfl ?_); refine kN (some 21) rfl rfl Tryz.func175 (by kernel_rfl) rfl #[.int .i64 a2] rfl (by (try simp only [List.map_toArray, List.map_cons, List.map_nil]); first | done | rfl | (simp only [List.length_drop, List.length_take]; rfl)) ?_; (with_reducible refine (num_size.calls a2 t111 _ A6.out).mono ?_); rintro e w' ⟨rfl, ⟨nd, rfl⟩⟩; refine ⟨_, rfl, ?_⟩; (try (rw [drewN_self w8]; generalize hq_ : World.drewN w8 _ = w8; have n0_ : Aside0 (Below w.heap.size w w8) := ⟨by rw [← hq_]; exact (by repeat (first | (with_reducible first | exact HB.out | apply kB | apply kA | apply kC) | exact HB.out))⟩; clear HB hq_; have HB := n0_; clear n0_))) | ((with_reducible refine gate_dst (N := 8) rfl ?_); refine kO ?hg (N := 8) ?hd (cs := #[.int .u64 0, .int .u64 0]) (t := 170) ?hr ?_; (case hd => rfl); (case hg => rfl); (case hr => first | (go_simp; done) | (go_simp; rfl)); intro gb112 hg w9 hbox hb; have n0_ := Aside0.mk (kJ (by repeat (first | (with_reducible first | exact HB.out | apply kB | apply kA | apply kC) | exact HB.out)) hb); have n1_ := Aside0.mk (hbox); have n2_ := Aside0.mk ((by rw [hg]; exact (kL (by repeat (first | (with_reducible first | exact HB.out | apply kB | apply kA | apply kC) | exact HB.out))) : w.heap.size ≤ gb112)); have n3_ := Aside0.mk ((by rw [hg]; exact (kL (by repeat (first | (with_reducible first | exact HB.out | apply kB | apply kA | apply kC) | exact HB.out))) : w.heap.size ≤ gb112)); clear HB; have HB := n0_; have BK112 := n1_; have GW112 := n2_; have GE112 := n3_; clear n0_ n1_ n2_ n3_; clear hb hbox hg; have hcz10_0 : w9.cell? ⟨gb112, 0, none⟩ = some (.int .u64 0) := (kI BK112.out 0).trans rfl; have hcz10_1 : w9.cell? ⟨gb112, 1, none⟩ = some (.int .u64 0) := (kI BK112.out 1).trans rfl; have hfz10_0 := kG BK112.out 0; have hfz10_1 := kG BK112.out 1))
            go_ret2
            exact ⟨by first | rfl | (simp [errW_none, errW_some] <;> rfl) | (simp [*, errW_none, errW_some] <;> rfl), by repeat (first | (with_reducible first | exact HB.out | apply kB | apply kA | apply kC | refine kD ?_ GE112.out) | exact HB.out)⟩
          · rw [if_neg c7] at H
            have c7b0 : decide (t111 ≤ t109) = false := decide_eq_false c7
            clear c7
            replace H := Option.bind_eq_some_iff.mp H
            obtain ⟨⟨t113, t114⟩, A110, H⟩ := H
            replace H : (if (false = true) then (if t114 = 0 then ((num_signed.f k false 0 t113).bind fun bt115 => (some (bt115.1, bt115.2))) else ((bits_Add64.f t113 1 0).bind fun bt117 => ((num_signed.f k true bt117.2 bt117.1).bind fun bt119 => (some (bt119.1, bt119.2))))) else ((num_signed.f k false 0 t113).bind fun bt121 => (some (bt121.1, bt121.2)))) = some (r1, r2) := H
            have A11 := Aside0.mk A110
            clear A110
            rw [if_neg (by decide)] at H
            replace H := Option.bind_eq_some_iff.mp H
            obtain ⟨⟨t121, t122⟩, A250, H⟩ := H
            replace H : (some (t121, t122)) = some (r1, r2) := H
            have A25 := Aside0.mk A250
            clear A250
            simp only [Option.some.injEq, Prod.mk.injEq] at H
            obtain ⟨rfl, rfl⟩ := H
            go_enter Tryz.func128, Tryz.ntmps128
            go_wp2_with (first | ((with_reducible refine kK (f := 134) rfl ?_); refine kN (some 19) rfl rfl Tryz.func134 (by kernel_rfl) rfl #[.int .i64 a0, .int .i64 a1] rfl (by (try simp only [List.map_toArray, List.map_cons, List.map_nil]); first | done | rfl | (simp only [List.length_drop, List.length_take]; rfl)) ?_; (with_reducible refine (num_product.calls a0 a1 t109 t110 _ A5.out).mono ?_); rintro e w26 ⟨rfl, hb⟩; refine ⟨_, rfl, ?_⟩; have n0_ := Aside0.mk (kJ (by repeat (first | (with_reducible first | exact HB.out | apply kB | apply kA | apply kC) | exact HB.out)) hb); clear HB; have HB := n0_; clear n0_; (try clear hb); (try clear hb2); (try clear hk); (try clear hi)) | ((with_reducible refine kK (f := 175) rfl ?_); refine kN (some 21) rfl rfl Tryz.func175 (by kernel_rfl) rfl #[.int .i64 a2] rfl (by (try simp only [List.map_toArray, List.map_cons, List.map_nil]); first | done | rfl | (simp only [List.length_drop, List.length_take]; rfl)) ?_; (with_reducible refine (num_size.calls a2 t111 _ A6.out).mono ?_); rintro e w' ⟨rfl, ⟨nd, rfl⟩⟩; refine ⟨_, rfl, ?_⟩; (try (rw [drewN_self w26]; generalize hq_ : World.drewN w26 _ = w26; have n0_ : Aside0 (Below w.heap.size w w26) := ⟨by rw [← hq_]; exact (by repeat (first | (with_reducible first | exact HB.out | apply kB | apply kA | apply kC) | exact HB.out))⟩; clear HB hq_; have HB := n0_; clear n0_))) | ((with_reducible refine gate_dst (N := 8) rfl ?_); refine kO ?hg (N := 8) ?hd (cs := #[.int .u64 0, .int .u64 0]) (t := 170) ?hr ?_; (case hd => rfl); (case hg => rfl); (case hr => first | (go_simp; done) | (go_simp; rfl)); intro gb112 hg w27 hbox hb; have n0_ := Aside0.mk (kJ (by repeat (first | (with_reducible first | exact HB.out | apply kB | apply kA | apply kC) | exact HB.out)) hb); have n1_ := Aside0.mk (hbox); have n2_ := Aside0.mk ((by rw [hg]; exact (kL (by repeat (first | (with_reducible first | exact HB.out | apply kB | apply kA | apply kC) | exact HB.out))) : w.heap.size ≤ gb112)); have n3_ := Aside0.mk ((by rw [hg]; exact (kL (by repeat (first | (with_reducible first | exact HB.out | apply kB | apply kA | apply kC) | exact HB.out))) : w.heap.size ≤ gb112)); clear HB; have HB := n0_; have BK112 := n1_; have GW112 := n2_; have GE112 := n3_; clear n0_ n1_ n2_ n3_; clear hb hbox hg; have hcz28_0 : w27.cell? ⟨gb112, 0, none⟩ = some (.int .u64 0) := (kI BK112.out 0).trans rfl; have hcz28_1 : w27.cell? ⟨gb112, 1, none⟩ = some (.int .u64 0) := (kI BK112.out 1).trans rfl; have hfz28_0 := kG BK112.out 0; have hfz28_1 := kG BK112.out 1) | ((with_reducible refine kK (f := 176) rfl ?_); refine kN (some 40) rfl rfl Tryz.func176 (by kernel_rfl) rfl #[.int .u64 t109, .int .u64 t110, .int .u64 t111] rfl (by (try simp only [List.map_toArray, List.map_cons, List.map_nil]); first | done | rfl | (simp only [List.length_drop, List.length_take]; rfl)) ?_; (with_reducible refine (bits_Div64.calls k t109 t110 t111 t113 t114 _ A11.out).mono ?_); rintro e w' ⟨rfl, ⟨nd, rfl⟩⟩; refine ⟨_, rfl, ?_⟩) | ((with_reducible refine kK (f := 133) rfl ?_); refine kN (some 52) rfl rfl Tryz.func133 (by kernel_rfl) rfl #[.bool false, .agg #[.int .u64 0, .int .u64 t113]] rfl (by (try simp only [List.map_toArray, List.map_cons, List.map_nil]); first | done | rfl | (simp only [List.length_drop, List.length_take]; rfl)) ?_; (with_reducible refine (num_signed.calls k false 0 t113 t121 t122 _ A25.out).mono ?_); rintro e w29 ⟨rfl, hb⟩; refine ⟨_, rfl, ?_⟩; have n0_ := Aside0.mk (kM (g := gb112) (o := .cells #[.int .u64 t109, .int .u64 t110] 170 (0, 0)) (by (with_reducible repeat (first | refine kE ?_ _ | refine kH ?_ | refine kF ?_ _)); refine blk_put (cs := #[.int .u64 t109, .int .u64 0]) ?_ 1 _ rfl; (with_reducible repeat (first | refine kE ?_ _ | refine kH ?_ | refine kF ?_ _)); refine blk_put (cs := #[.int .u64 0, .int .u64 0]) ?_ 0 _ rfl; (with_reducible repeat (first | refine kE ?_ _ | refine kH ?_ | refine kF ?_ _)); exact BK112.out) hb); have n1_ := Aside0.mk (kJ (by repeat (first | (with_reducible first | exact HB.out | apply kB | apply kA | apply kC | refine kD ?_ GE112.out) | exact HB.out)) hb); clear BK112; clear HB; have BK112 := n0_; have HB := n1_; clear n0_ n1_; (try clear hb); (try clear hb2); (try clear hk); (try clear hi)))
            go_ret2
            exact ⟨by first | rfl | (simp [errW_none, errW_some] <;> rfl) | (simp [*, errW_none, errW_some] <;> rfl), by repeat (first | (with_reducible first | exact HB.out | apply kB | apply kA | apply kC | refine kD ?_ GE112.out) | exact HB.out)⟩
    · have s1b : decide (a1 < 0) = false := decide_eq_false s1
      clear s1
      by_cases s2 : a2 < 0
      · have s2b : decide (a2 < 0) = true := decide_eq_true s2
        clear s2
        rw [s0b, s1b, s2b, show (((true != false) != true)) = false from rfl] at H
        by_cases c4 : a2 = 0
        · rw [if_pos c4] at H
          have c4b0 : (a2 == 0) = true := beq_iff_eq.mpr c4
          have c4b1 : (a2 != 0) = false := bne_eq_false_iff_eq.mpr c4
          clear c4
          simp only [Option.some.injEq, Prod.mk.injEq] at H
          obtain ⟨rfl, rfl⟩ := H
          go_enter Tryz.func128, Tryz.ntmps128
          go_wp2
          go_ret2
          exact ⟨by first | rfl | (simp [errW_none, errW_some] <;> rfl) | (simp [*, errW_none, errW_some] <;> rfl), by repeat (first | (with_reducible first | exact HB.out | apply kB | apply kA | apply kC) | exact HB.out)⟩
        · rw [if_neg c4] at H
          have c4b0 : (a2 == 0) = false := beq_eq_false_iff_ne.mpr c4
          have c4b1 : (a2 != 0) = true := bne_iff_ne.mpr c4
          replace H := Option.bind_eq_some_iff.mp H
          obtain ⟨⟨t109, t110⟩, A50, H⟩ := H
          replace H : ((num_size.f a2).bind fun t111 => (if t109 ≥ t111 then (some (0, 10)) else ((bits_Div64.f k t109 t110 t111).bind fun bt113 => (if (false = true) then (if bt113.2 = 0 then ((num_signed.f k false 0 bt113.1).bind fun bt115 => (some (bt115.1, bt115.2))) else ((bits_Add64.f bt113.1 1 0).bind fun bt117 => ((num_signed.f k true bt117.2 bt117.1).bind fun bt119 => (some (bt119.1, bt119.2))))) else ((num_signed.f k false 0 bt113.1).bind fun bt121 => (some (bt121.1, bt121.2))))))) = some (r1, r2) := H
          have A5 := Aside0.mk A50
          clear A50
          replace H := Option.bind_eq_some_iff.mp H
          obtain ⟨t111, A60, H⟩ := H
          replace H : (if t109 ≥ t111 then (some (0, 10)) else ((bits_Div64.f k t109 t110 t111).bind fun bt113 => (if (false = true) then (if bt113.2 = 0 then ((num_signed.f k false 0 bt113.1).bind fun bt115 => (some (bt115.1, bt115.2))) else ((bits_Add64.f bt113.1 1 0).bind fun bt117 => ((num_signed.f k true bt117.2 bt117.1).bind fun bt119 => (some (bt119.1, bt119.2))))) else ((num_signed.f k false 0 bt113.1).bind fun bt121 => (some (bt121.1, bt121.2)))))) = some (r1, r2) := H
          have A6 := Aside0.mk A60
          clear A60
          by_cases c7 : t109 ≥ t111
          · rw [if_pos c7] at H
            have c7b0 : decide (t111 ≤ t109) = true := decide_eq_true c7
            clear c7
            simp only [Option.some.injEq, Prod.mk.injEq] at H
            obtain ⟨rfl, rfl⟩ := H
            go_enter Tryz.func128, Tryz.ntmps128
            go_wp2_with (first | ((with_reducible refine kK (f := 134) rfl ?_); refine kN (some 19) rfl rfl Tryz.func134 (by kernel_rfl) rfl #[.int .i64 a0, .int .i64 a1] rfl (by (try simp only [List.map_toArray, List.map_cons, List.map_nil]); first | done | rfl | (simp only [List.length_drop, List.length_take]; rfl)) ?_; (with_reducible refine (num_product.calls a0 a1 t109 t110 _ A5.out).mono ?_); rintro e w8 ⟨rfl, hb⟩; refine ⟨_, rfl, ?_⟩; have n0_ := Aside0.mk (kJ (by repeat (first | (with_reducible first | exact HB.out | apply kB | apply kA | apply kC) | exact HB.out)) hb); clear HB; have HB := n0_; clear n0_; (try clear hb); (try clear hb2); (try clear hk); (try clear hi)) | ((with_reducible refine kK (f := 175) rfl ?_); refine kN (some 21) rfl rfl Tryz.func175 (by kernel_rfl) rfl #[.int .i64 a2] rfl (by (try simp only [List.map_toArray, List.map_cons, List.map_nil]); first | done | rfl | (simp only [List.length_drop, List.length_take]; rfl)) ?_; (with_reducible refine (num_size.calls a2 t111 _ A6.out).mono ?_); rintro e w' ⟨rfl, ⟨nd, rfl⟩⟩; refine ⟨_, rfl, ?_⟩; (try (rw [drewN_self w8]; generalize hq_ : World.drewN w8 _ = w8; have n0_ : Aside0 (Below w.heap.size w w8) := ⟨by rw [← hq_]; exact (by repeat (first | (with_reducible first | exact HB.out | apply kB | apply kA | apply kC) | exact HB.out))⟩; clear HB hq_; have HB := n0_; clear n0_))) | ((with_reducible refine gate_dst (N := 8) rfl ?_); refine kO ?hg (N := 8) ?hd (cs := #[.int .u64 0, .int .u64 0]) (t := 170) ?hr ?_; (case hd => rfl); (case hg => rfl); (case hr => first | (go_simp; done) | (go_simp; rfl)); intro gb112 hg w9 hbox hb; have n0_ := Aside0.mk (kJ (by repeat (first | (with_reducible first | exact HB.out | apply kB | apply kA | apply kC) | exact HB.out)) hb); have n1_ := Aside0.mk (hbox); have n2_ := Aside0.mk ((by rw [hg]; exact (kL (by repeat (first | (with_reducible first | exact HB.out | apply kB | apply kA | apply kC) | exact HB.out))) : w.heap.size ≤ gb112)); have n3_ := Aside0.mk ((by rw [hg]; exact (kL (by repeat (first | (with_reducible first | exact HB.out | apply kB | apply kA | apply kC) | exact HB.out))) : w.heap.size ≤ gb112)); clear HB; have HB := n0_; have BK112 := n1_; have GW112 := n2_; have GE112 := n3_; clear n0_ n1_ n2_ n3_; clear hb hbox hg; have hcz10_0 : w9.cell? ⟨gb112, 0, none⟩ = some (.int .u64 0) := (kI BK112.out 0).trans rfl; have hcz10_1 : w9.cell? ⟨gb112, 1, none⟩ = some (.int .u64 0) := (kI BK112.out 1).trans rfl; have hfz10_0 := kG BK112.out 0; have hfz10_1 := kG BK112.out 1))
            go_ret2
            exact ⟨by first | rfl | (simp [errW_none, errW_some] <;> rfl) | (simp [*, errW_none, errW_some] <;> rfl), by repeat (first | (with_reducible first | exact HB.out | apply kB | apply kA | apply kC | refine kD ?_ GE112.out) | exact HB.out)⟩
          · rw [if_neg c7] at H
            have c7b0 : decide (t111 ≤ t109) = false := decide_eq_false c7
            clear c7
            replace H := Option.bind_eq_some_iff.mp H
            obtain ⟨⟨t113, t114⟩, A110, H⟩ := H
            replace H : (if (false = true) then (if t114 = 0 then ((num_signed.f k false 0 t113).bind fun bt115 => (some (bt115.1, bt115.2))) else ((bits_Add64.f t113 1 0).bind fun bt117 => ((num_signed.f k true bt117.2 bt117.1).bind fun bt119 => (some (bt119.1, bt119.2))))) else ((num_signed.f k false 0 t113).bind fun bt121 => (some (bt121.1, bt121.2)))) = some (r1, r2) := H
            have A11 := Aside0.mk A110
            clear A110
            rw [if_neg (by decide)] at H
            replace H := Option.bind_eq_some_iff.mp H
            obtain ⟨⟨t121, t122⟩, A250, H⟩ := H
            replace H : (some (t121, t122)) = some (r1, r2) := H
            have A25 := Aside0.mk A250
            clear A250
            simp only [Option.some.injEq, Prod.mk.injEq] at H
            obtain ⟨rfl, rfl⟩ := H
            go_enter Tryz.func128, Tryz.ntmps128
            go_wp2_with (first | ((with_reducible refine kK (f := 134) rfl ?_); refine kN (some 19) rfl rfl Tryz.func134 (by kernel_rfl) rfl #[.int .i64 a0, .int .i64 a1] rfl (by (try simp only [List.map_toArray, List.map_cons, List.map_nil]); first | done | rfl | (simp only [List.length_drop, List.length_take]; rfl)) ?_; (with_reducible refine (num_product.calls a0 a1 t109 t110 _ A5.out).mono ?_); rintro e w26 ⟨rfl, hb⟩; refine ⟨_, rfl, ?_⟩; have n0_ := Aside0.mk (kJ (by repeat (first | (with_reducible first | exact HB.out | apply kB | apply kA | apply kC) | exact HB.out)) hb); clear HB; have HB := n0_; clear n0_; (try clear hb); (try clear hb2); (try clear hk); (try clear hi)) | ((with_reducible refine kK (f := 175) rfl ?_); refine kN (some 21) rfl rfl Tryz.func175 (by kernel_rfl) rfl #[.int .i64 a2] rfl (by (try simp only [List.map_toArray, List.map_cons, List.map_nil]); first | done | rfl | (simp only [List.length_drop, List.length_take]; rfl)) ?_; (with_reducible refine (num_size.calls a2 t111 _ A6.out).mono ?_); rintro e w' ⟨rfl, ⟨nd, rfl⟩⟩; refine ⟨_, rfl, ?_⟩; (try (rw [drewN_self w26]; generalize hq_ : World.drewN w26 _ = w26; have n0_ : Aside0 (Below w.heap.size w w26) := ⟨by rw [← hq_]; exact (by repeat (first | (with_reducible first | exact HB.out | apply kB | apply kA | apply kC) | exact HB.out))⟩; clear HB hq_; have HB := n0_; clear n0_))) | ((with_reducible refine gate_dst (N := 8) rfl ?_); refine kO ?hg (N := 8) ?hd (cs := #[.int .u64 0, .int .u64 0]) (t := 170) ?hr ?_; (case hd => rfl); (case hg => rfl); (case hr => first | (go_simp; done) | (go_simp; rfl)); intro gb112 hg w27 hbox hb; have n0_ := Aside0.mk (kJ (by repeat (first | (with_reducible first | exact HB.out | apply kB | apply kA | apply kC) | exact HB.out)) hb); have n1_ := Aside0.mk (hbox); have n2_ := Aside0.mk ((by rw [hg]; exact (kL (by repeat (first | (with_reducible first | exact HB.out | apply kB | apply kA | apply kC) | exact HB.out))) : w.heap.size ≤ gb112)); have n3_ := Aside0.mk ((by rw [hg]; exact (kL (by repeat (first | (with_reducible first | exact HB.out | apply kB | apply kA | apply kC) | exact HB.out))) : w.heap.size ≤ gb112)); clear HB; have HB := n0_; have BK112 := n1_; have GW112 := n2_; have GE112 := n3_; clear n0_ n1_ n2_ n3_; clear hb hbox hg; have hcz28_0 : w27.cell? ⟨gb112, 0, none⟩ = some (.int .u64 0) := (kI BK112.out 0).trans rfl; have hcz28_1 : w27.cell? ⟨gb112, 1, none⟩ = some (.int .u64 0) := (kI BK112.out 1).trans rfl; have hfz28_0 := kG BK112.out 0; have hfz28_1 := kG BK112.out 1) | ((with_reducible refine kK (f := 176) rfl ?_); refine kN (some 40) rfl rfl Tryz.func176 (by kernel_rfl) rfl #[.int .u64 t109, .int .u64 t110, .int .u64 t111] rfl (by (try simp only [List.map_toArray, List.map_cons, List.map_nil]); first | done | rfl | (simp only [List.length_drop, List.length_take]; rfl)) ?_; (with_reducible refine (bits_Div64.calls k t109 t110 t111 t113 t114 _ A11.out).mono ?_); rintro e w' ⟨rfl, ⟨nd, rfl⟩⟩; refine ⟨_, rfl, ?_⟩) | ((with_reducible refine kK (f := 133) rfl ?_); refine kN (some 52) rfl rfl Tryz.func133 (by kernel_rfl) rfl #[.bool false, .agg #[.int .u64 0, .int .u64 t113]] rfl (by (try simp only [List.map_toArray, List.map_cons, List.map_nil]); first | done | rfl | (simp only [List.length_drop, List.length_take]; rfl)) ?_; (with_reducible refine (num_signed.calls k false 0 t113 t121 t122 _ A25.out).mono ?_); rintro e w29 ⟨rfl, hb⟩; refine ⟨_, rfl, ?_⟩; have n0_ := Aside0.mk (kM (g := gb112) (o := .cells #[.int .u64 t109, .int .u64 t110] 170 (0, 0)) (by (with_reducible repeat (first | refine kE ?_ _ | refine kH ?_ | refine kF ?_ _)); refine blk_put (cs := #[.int .u64 t109, .int .u64 0]) ?_ 1 _ rfl; (with_reducible repeat (first | refine kE ?_ _ | refine kH ?_ | refine kF ?_ _)); refine blk_put (cs := #[.int .u64 0, .int .u64 0]) ?_ 0 _ rfl; (with_reducible repeat (first | refine kE ?_ _ | refine kH ?_ | refine kF ?_ _)); exact BK112.out) hb); have n1_ := Aside0.mk (kJ (by repeat (first | (with_reducible first | exact HB.out | apply kB | apply kA | apply kC | refine kD ?_ GE112.out) | exact HB.out)) hb); clear BK112; clear HB; have BK112 := n0_; have HB := n1_; clear n0_ n1_; (try clear hb); (try clear hb2); (try clear hk); (try clear hi)))
            go_ret2
            exact ⟨by first | rfl | (simp [errW_none, errW_some] <;> rfl) | (simp [*, errW_none, errW_some] <;> rfl), by repeat (first | (with_reducible first | exact HB.out | apply kB | apply kA | apply kC | refine kD ?_ GE112.out) | exact HB.out)⟩
      · have s2b : decide (a2 < 0) = false := decide_eq_false s2
        clear s2
        rw [s0b, s1b, s2b, show (((true != false) != false)) = true from rfl] at H
        by_cases c4 : a2 = 0
        · rw [if_pos c4] at H
          have c4b0 : (a2 == 0) = true := beq_iff_eq.mpr c4
          have c4b1 : (a2 != 0) = false := bne_eq_false_iff_eq.mpr c4
          clear c4
          simp only [Option.some.injEq, Prod.mk.injEq] at H
          obtain ⟨rfl, rfl⟩ := H
          go_enter Tryz.func128, Tryz.ntmps128
          go_wp2
          go_ret2
          exact ⟨by first | rfl | (simp [errW_none, errW_some] <;> rfl) | (simp [*, errW_none, errW_some] <;> rfl), by repeat (first | (with_reducible first | exact HB.out | apply kB | apply kA | apply kC) | exact HB.out)⟩
        · rw [if_neg c4] at H
          have c4b0 : (a2 == 0) = false := beq_eq_false_iff_ne.mpr c4
          have c4b1 : (a2 != 0) = true := bne_iff_ne.mpr c4
          replace H := Option.bind_eq_some_iff.mp H
          obtain ⟨⟨t109, t110⟩, A50, H⟩ := H
          replace H : ((num_size.f a2).bind fun t111 => (if t109 ≥ t111 then (some (0, 10)) else ((bits_Div64.f k t109 t110 t111).bind fun bt113 => (if (true = true) then (if bt113.2 = 0 then ((num_signed.f k true 0 bt113.1).bind fun bt115 => (some (bt115.1, bt115.2))) else ((bits_Add64.f bt113.1 1 0).bind fun bt117 => ((num_signed.f k true bt117.2 bt117.1).bind fun bt119 => (some (bt119.1, bt119.2))))) else ((num_signed.f k true 0 bt113.1).bind fun bt121 => (some (bt121.1, bt121.2))))))) = some (r1, r2) := H
          have A5 := Aside0.mk A50
          clear A50
          replace H := Option.bind_eq_some_iff.mp H
          obtain ⟨t111, A60, H⟩ := H
          replace H : (if t109 ≥ t111 then (some (0, 10)) else ((bits_Div64.f k t109 t110 t111).bind fun bt113 => (if (true = true) then (if bt113.2 = 0 then ((num_signed.f k true 0 bt113.1).bind fun bt115 => (some (bt115.1, bt115.2))) else ((bits_Add64.f bt113.1 1 0).bind fun bt117 => ((num_signed.f k true bt117.2 bt117.1).bind fun bt119 => (some (bt119.1, bt119.2))))) else ((num_signed.f k true 0 bt113.1).bind fun bt121 => (some (bt121.1, bt121.2)))))) = some (r1, r2) := H
          have A6 := Aside0.mk A60
          clear A60
          by_cases c7 : t109 ≥ t111
          · rw [if_pos c7] at H
            have c7b0 : decide (t111 ≤ t109) = true := decide_eq_true c7
            clear c7
            simp only [Option.some.injEq, Prod.mk.injEq] at H
            obtain ⟨rfl, rfl⟩ := H
            go_enter Tryz.func128, Tryz.ntmps128
            go_wp2_with (first | ((with_reducible refine kK (f := 134) rfl ?_); refine kN (some 19) rfl rfl Tryz.func134 (by kernel_rfl) rfl #[.int .i64 a0, .int .i64 a1] rfl (by (try simp only [List.map_toArray, List.map_cons, List.map_nil]); first | done | rfl | (simp only [List.length_drop, List.length_take]; rfl)) ?_; (with_reducible refine (num_product.calls a0 a1 t109 t110 _ A5.out).mono ?_); rintro e w8 ⟨rfl, hb⟩; refine ⟨_, rfl, ?_⟩; have n0_ := Aside0.mk (kJ (by repeat (first | (with_reducible first | exact HB.out | apply kB | apply kA | apply kC) | exact HB.out)) hb); clear HB; have HB := n0_; clear n0_; (try clear hb); (try clear hb2); (try clear hk); (try clear hi)) | ((with_reducible refine kK (f := 175) rfl ?_); refine kN (some 21) rfl rfl Tryz.func175 (by kernel_rfl) rfl #[.int .i64 a2] rfl (by (try simp only [List.map_toArray, List.map_cons, List.map_nil]); first | done | rfl | (simp only [List.length_drop, List.length_take]; rfl)) ?_; (with_reducible refine (num_size.calls a2 t111 _ A6.out).mono ?_); rintro e w' ⟨rfl, ⟨nd, rfl⟩⟩; refine ⟨_, rfl, ?_⟩; (try (rw [drewN_self w8]; generalize hq_ : World.drewN w8 _ = w8; have n0_ : Aside0 (Below w.heap.size w w8) := ⟨by rw [← hq_]; exact (by repeat (first | (with_reducible first | exact HB.out | apply kB | apply kA | apply kC) | exact HB.out))⟩; clear HB hq_; have HB := n0_; clear n0_))) | ((with_reducible refine gate_dst (N := 8) rfl ?_); refine kO ?hg (N := 8) ?hd (cs := #[.int .u64 0, .int .u64 0]) (t := 170) ?hr ?_; (case hd => rfl); (case hg => rfl); (case hr => first | (go_simp; done) | (go_simp; rfl)); intro gb112 hg w9 hbox hb; have n0_ := Aside0.mk (kJ (by repeat (first | (with_reducible first | exact HB.out | apply kB | apply kA | apply kC) | exact HB.out)) hb); have n1_ := Aside0.mk (hbox); have n2_ := Aside0.mk ((by rw [hg]; exact (kL (by repeat (first | (with_reducible first | exact HB.out | apply kB | apply kA | apply kC) | exact HB.out))) : w.heap.size ≤ gb112)); have n3_ := Aside0.mk ((by rw [hg]; exact (kL (by repeat (first | (with_reducible first | exact HB.out | apply kB | apply kA | apply kC) | exact HB.out))) : w.heap.size ≤ gb112)); clear HB; have HB := n0_; have BK112 := n1_; have GW112 := n2_; have GE112 := n3_; clear n0_ n1_ n2_ n3_; clear hb hbox hg; have hcz10_0 : w9.cell? ⟨gb112, 0, none⟩ = some (.int .u64 0) := (kI BK112.out 0).trans rfl; have hcz10_1 : w9.cell? ⟨gb112, 1, none⟩ = some (.int .u64 0) := (kI BK112.out 1).trans rfl; have hfz10_0 := kG BK112.out 0; have hfz10_1 := kG BK112.out 1))
            go_ret2
            exact ⟨by first | rfl | (simp [errW_none, errW_some] <;> rfl) | (simp [*, errW_none, errW_some] <;> rfl), by repeat (first | (with_reducible first | exact HB.out | apply kB | apply kA | apply kC | refine kD ?_ GE112.out) | exact HB.out)⟩
          · rw [if_neg c7] at H
            have c7b0 : decide (t111 ≤ t109) = false := decide_eq_false c7
            clear c7
            replace H := Option.bind_eq_some_iff.mp H
            obtain ⟨⟨t113, t114⟩, A110, H⟩ := H
            replace H : (if (true = true) then (if t114 = 0 then ((num_signed.f k true 0 t113).bind fun bt115 => (some (bt115.1, bt115.2))) else ((bits_Add64.f t113 1 0).bind fun bt117 => ((num_signed.f k true bt117.2 bt117.1).bind fun bt119 => (some (bt119.1, bt119.2))))) else ((num_signed.f k true 0 t113).bind fun bt121 => (some (bt121.1, bt121.2)))) = some (r1, r2) := H
            have A11 := Aside0.mk A110
            clear A110
            rw [if_pos (by decide)] at H
            by_cases c13 : t114 = 0
            · rw [if_pos c13] at H
              have c13b0 : (t114 == 0) = true := beq_iff_eq.mpr c13
              have c13b1 : (t114 != 0) = false := bne_eq_false_iff_eq.mpr c13
              clear c13
              replace H := Option.bind_eq_some_iff.mp H
              obtain ⟨⟨t115, t116⟩, A140, H⟩ := H
              replace H : (some (t115, t116)) = some (r1, r2) := H
              have A14 := Aside0.mk A140
              clear A140
              simp only [Option.some.injEq, Prod.mk.injEq] at H
              obtain ⟨rfl, rfl⟩ := H
              go_enter Tryz.func128, Tryz.ntmps128
              go_wp2_with (first | ((with_reducible refine kK (f := 134) rfl ?_); refine kN (some 19) rfl rfl Tryz.func134 (by kernel_rfl) rfl #[.int .i64 a0, .int .i64 a1] rfl (by (try simp only [List.map_toArray, List.map_cons, List.map_nil]); first | done | rfl | (simp only [List.length_drop, List.length_take]; rfl)) ?_; (with_reducible refine (num_product.calls a0 a1 t109 t110 _ A5.out).mono ?_); rintro e w15 ⟨rfl, hb⟩; refine ⟨_, rfl, ?_⟩; have n0_ := Aside0.mk (kJ (by repeat (first | (with_reducible first | exact HB.out | apply kB | apply kA | apply kC) | exact HB.out)) hb); clear HB; have HB := n0_; clear n0_; (try clear hb); (try clear hb2); (try clear hk); (try clear hi)) | ((with_reducible refine kK (f := 175) rfl ?_); refine kN (some 21) rfl rfl Tryz.func175 (by kernel_rfl) rfl #[.int .i64 a2] rfl (by (try simp only [List.map_toArray, List.map_cons, List.map_nil]); first | done | rfl | (simp only [List.length_drop, List.length_take]; rfl)) ?_; (with_reducible refine (num_size.calls a2 t111 _ A6.out).mono ?_); rintro e w' ⟨rfl, ⟨nd, rfl⟩⟩; refine ⟨_, rfl, ?_⟩; (try (rw [drewN_self w15]; generalize hq_ : World.drewN w15 _ = w15; have n0_ : Aside0 (Below w.heap.size w w15) := ⟨by rw [← hq_]; exact (by repeat (first | (with_reducible first | exact HB.out | apply kB | apply kA | apply kC) | exact HB.out))⟩; clear HB hq_; have HB := n0_; clear n0_))) | ((with_reducible refine gate_dst (N := 8) rfl ?_); refine kO ?hg (N := 8) ?hd (cs := #[.int .u64 0, .int .u64 0]) (t := 170) ?hr ?_; (case hd => rfl); (case hg => rfl); (case hr => first | (go_simp; done) | (go_simp; rfl)); intro gb112 hg w16 hbox hb; have n0_ := Aside0.mk (kJ (by repeat (first | (with_reducible first | exact HB.out | apply kB | apply kA | apply kC) | exact HB.out)) hb); have n1_ := Aside0.mk (hbox); have n2_ := Aside0.mk ((by rw [hg]; exact (kL (by repeat (first | (with_reducible first | exact HB.out | apply kB | apply kA | apply kC) | exact HB.out))) : w.heap.size ≤ gb112)); have n3_ := Aside0.mk ((by rw [hg]; exact (kL (by repeat (first | (with_reducible first | exact HB.out | apply kB | apply kA | apply kC) | exact HB.out))) : w.heap.size ≤ gb112)); clear HB; have HB := n0_; have BK112 := n1_; have GW112 := n2_; have GE112 := n3_; clear n0_ n1_ n2_ n3_; clear hb hbox hg; have hcz17_0 : w16.cell? ⟨gb112, 0, none⟩ = some (.int .u64 0) := (kI BK112.out 0).trans rfl; have hcz17_1 : w16.cell? ⟨gb112, 1, none⟩ = some (.int .u64 0) := (kI BK112.out 1).trans rfl; have hfz17_0 := kG BK112.out 0; have hfz17_1 := kG BK112.out 1) | ((with_reducible refine kK (f := 176) rfl ?_); refine kN (some 40) rfl rfl Tryz.func176 (by kernel_rfl) rfl #[.int .u64 t109, .int .u64 t110, .int .u64 t111] rfl (by (try simp only [List.map_toArray, List.map_cons, List.map_nil]); first | done | rfl | (simp only [List.length_drop, List.length_take]; rfl)) ?_; (with_reducible refine (bits_Div64.calls k t109 t110 t111 t113 t114 _ A11.out).mono ?_); rintro e w' ⟨rfl, ⟨nd, rfl⟩⟩; refine ⟨_, rfl, ?_⟩) | ((with_reducible refine kK (f := 133) rfl ?_); refine kN (some 52) rfl rfl Tryz.func133 (by kernel_rfl) rfl #[.bool true, .agg #[.int .u64 0, .int .u64 t113]] rfl (by (try simp only [List.map_toArray, List.map_cons, List.map_nil]); first | done | rfl | (simp only [List.length_drop, List.length_take]; rfl)) ?_; (with_reducible refine (num_signed.calls k true 0 t113 t115 t116 _ A14.out).mono ?_); rintro e w18 ⟨rfl, hb⟩; refine ⟨_, rfl, ?_⟩; have n0_ := Aside0.mk (kM (g := gb112) (o := .cells #[.int .u64 t109, .int .u64 t110] 170 (0, 0)) (by (with_reducible repeat (first | refine kE ?_ _ | refine kH ?_ | refine kF ?_ _)); refine blk_put (cs := #[.int .u64 t109, .int .u64 0]) ?_ 1 _ rfl; (with_reducible repeat (first | refine kE ?_ _ | refine kH ?_ | refine kF ?_ _)); refine blk_put (cs := #[.int .u64 0, .int .u64 0]) ?_ 0 _ rfl; (with_reducible repeat (first | refine kE ?_ _ | refine kH ?_ | refine kF ?_ _)); exact BK112.out) hb); have n1_ := Aside0.mk (kJ (by repeat (first | (with_reducible first | exact HB.out | apply kB | apply kA | apply kC | refine kD ?_ GE112.out) | exact HB.out)) hb); clear BK112; clear HB; have BK112 := n0_; have HB := n1_; clear n0_ n1_; (try clear hb); (try clear hb2); (try clear hk); (try clear hi)))
              go_ret2
              exact ⟨by first | rfl | (simp [errW_none, errW_some] <;> rfl) | (simp [*, errW_none, errW_some] <;> rfl), by repeat (first | (with_reducible first | exact HB.out | apply kB | apply kA | apply kC | refine kD ?_ GE112.out) | exact HB.out)⟩
            · rw [if_neg c13] at H
              have c13b0 : (t114 == 0) = false := beq_eq_false_iff_ne.mpr c13
              have c13b1 : (t114 != 0) = true := bne_iff_ne.mpr c13
              replace H := Option.bind_eq_some_iff.mp H
              obtain ⟨⟨t117, t118⟩, A190, H⟩ := H
              replace H : ((num_signed.f k true t118 t117).bind fun bt119 => (some (bt119.1, bt119.2))) = some (r1, r2) := H
              have A19 := Aside0.mk A190
              clear A190
              replace H := Option.bind_eq_some_iff.mp H
              obtain ⟨⟨t119, t120⟩, A200, H⟩ := H
              replace H : (some (t119, t120)) = some (r1, r2) := H
              have A20 := Aside0.mk A200
              clear A200
              simp only [Option.some.injEq, Prod.mk.injEq] at H
              obtain ⟨rfl, rfl⟩ := H
              go_enter Tryz.func128, Tryz.ntmps128
              have RA19 := fun (W_ : World) => bits_Add64.run t113 1 0 t117 t118 W_ A19.out
              go_wp2_with (first | ((with_reducible refine kK (f := 134) rfl ?_); refine kN (some 19) rfl rfl Tryz.func134 (by kernel_rfl) rfl #[.int .i64 a0, .int .i64 a1] rfl (by (try simp only [List.map_toArray, List.map_cons, List.map_nil]); first | done | rfl | (simp only [List.length_drop, List.length_take]; rfl)) ?_; (with_reducible refine (num_product.calls a0 a1 t109 t110 _ A5.out).mono ?_); rintro e w21 ⟨rfl, hb⟩; refine ⟨_, rfl, ?_⟩; have n0_ := Aside0.mk (kJ (by repeat (first | (with_reducible first | exact HB.out | apply kB | apply kA | apply kC) | exact HB.out)) hb); clear HB; have HB := n0_; clear n0_; (try clear hb); (try clear hb2); (try clear hk); (try clear hi)) | ((with_reducible refine kK (f := 175) rfl ?_); refine kN (some 21) rfl rfl Tryz.func175 (by kernel_rfl) rfl #[.int .i64 a2] rfl (by (try simp only [List.map_toArray, List.map_cons, List.map_nil]); first | done | rfl | (simp only [List.length_drop, List.length_take]; rfl)) ?_; (with_reducible refine (num_size.calls a2 t111 _ A6.out).mono ?_); rintro e w' ⟨rfl, ⟨nd, rfl⟩⟩; refine ⟨_, rfl, ?_⟩; (try (rw [drewN_self w21]; generalize hq_ : World.drewN w21 _ = w21; have n0_ : Aside0 (Below w.heap.size w w21) := ⟨by rw [← hq_]; exact (by repeat (first | (with_reducible first | exact HB.out | apply kB | apply kA | apply kC) | exact HB.out))⟩; clear HB hq_; have HB := n0_; clear n0_))) | ((with_reducible refine gate_dst (N := 8) rfl ?_); refine kO ?hg (N := 8) ?hd (cs := #[.int .u64 0, .int .u64 0]) (t := 170) ?hr ?_; (case hd => rfl); (case hg => rfl); (case hr => first | (go_simp; done) | (go_simp; rfl)); intro gb112 hg w22 hbox hb; have n0_ := Aside0.mk (kJ (by repeat (first | (with_reducible first | exact HB.out | apply kB | apply kA | apply kC) | exact HB.out)) hb); have n1_ := Aside0.mk (hbox); have n2_ := Aside0.mk ((by rw [hg]; exact (kL (by repeat (first | (with_reducible first | exact HB.out | apply kB | apply kA | apply kC) | exact HB.out))) : w.heap.size ≤ gb112)); have n3_ := Aside0.mk ((by rw [hg]; exact (kL (by repeat (first | (with_reducible first | exact HB.out | apply kB | apply kA | apply kC) | exact HB.out))) : w.heap.size ≤ gb112)); clear HB; have HB := n0_; have BK112 := n1_; have GW112 := n2_; have GE112 := n3_; clear n0_ n1_ n2_ n3_; clear hb hbox hg; have hcz23_0 : w22.cell? ⟨gb112, 0, none⟩ = some (.int .u64 0) := (kI BK112.out 0).trans rfl; have hcz23_1 : w22.cell? ⟨gb112, 1, none⟩ = some (.int .u64 0) := (kI BK112.out 1).trans rfl; have hfz23_0 := kG BK112.out 0; have hfz23_1 := kG BK112.out 1) | ((with_reducible refine kK (f := 176) rfl ?_); refine kN (some 40) rfl rfl Tryz.func176 (by kernel_rfl) rfl #[.int .u64 t109, .int .u64 t110, .int .u64 t111] rfl (by (try simp only [List.map_toArray, List.map_cons, List.map_nil]); first | done | rfl | (simp only [List.length_drop, List.length_take]; rfl)) ?_; (with_reducible refine (bits_Div64.calls k t109 t110 t111 t113 t114 _ A11.out).mono ?_); rintro e w' ⟨rfl, ⟨nd, rfl⟩⟩; refine ⟨_, rfl, ?_⟩) | (simp only [bits_Add64.run t113 1 0 t117 t118 _ A19.out]) | ((with_reducible refine kK (f := 133) rfl ?_); refine kN (some 63) rfl rfl Tryz.func133 (by kernel_rfl) rfl #[.bool true, .agg #[.int .u64 t118, .int .u64 t117]] rfl (by (try simp only [List.map_toArray, List.map_cons, List.map_nil]); first | done | rfl | (simp only [List.length_drop, List.length_take]; rfl)) ?_; (with_reducible refine (num_signed.calls k true t118 t117 t119 t120 _ A20.out).mono ?_); rintro e w24 ⟨rfl, hb⟩; refine ⟨_, rfl, ?_⟩; have n0_ := Aside0.mk (kM (g := gb112) (o := .cells #[.int .u64 t109, .int .u64 t110] 170 (0, 0)) (by (with_reducible repeat (first | refine kE ?_ _ | refine kH ?_ | refine kF ?_ _)); refine blk_put (cs := #[.int .u64 t109, .int .u64 0]) ?_ 1 _ rfl; (with_reducible repeat (first | refine kE ?_ _ | refine kH ?_ | refine kF ?_ _)); refine blk_put (cs := #[.int .u64 0, .int .u64 0]) ?_ 0 _ rfl; (with_reducible repeat (first | refine kE ?_ _ | refine kH ?_ | refine kF ?_ _)); exact BK112.out) hb); have n1_ := Aside0.mk (kJ (by repeat (first | (with_reducible first | exact HB.out | apply kB | apply kA | apply kC | refine kD ?_ GE112.out) | exact HB.out)) hb); clear BK112; clear HB; have BK112 := n0_; have HB := n1_; clear n0_ n1_; (try clear hb); (try clear hb2); (try clear hk); (try clear hi)))
              go_ret2
              exact ⟨by first | rfl | (simp [errW_none, errW_some] <;> rfl) | (simp [*, errW_none, errW_some] <;> rfl), by repeat (first | (with_reducible first | exact HB.out | apply kB | apply kA | apply kC | refine kD ?_ GE112.out) | exact HB.out)⟩
  · have s0b : decide (a0 < 0) = false := decide_eq_false s0
    clear s0
    by_cases s1 : a1 < 0
    · have s1b : decide (a1 < 0) = true := decide_eq_true s1
      clear s1
      by_cases s2 : a2 < 0
      · have s2b : decide (a2 < 0) = true := decide_eq_true s2
        clear s2
        rw [s0b, s1b, s2b, show (((false != true) != true)) = false from rfl] at H
        by_cases c4 : a2 = 0
        · rw [if_pos c4] at H
          have c4b0 : (a2 == 0) = true := beq_iff_eq.mpr c4
          have c4b1 : (a2 != 0) = false := bne_eq_false_iff_eq.mpr c4
          clear c4
          simp only [Option.some.injEq, Prod.mk.injEq] at H
          obtain ⟨rfl, rfl⟩ := H
          go_enter Tryz.func128, Tryz.ntmps128
          go_wp2
          go_ret2
          exact ⟨by first | rfl | (simp [errW_none, errW_some] <;> rfl) | (simp [*, errW_none, errW_some] <;> rfl), by repeat (first | (with_reducible first | exact HB.out | apply kB | apply kA | apply kC) | exact HB.out)⟩
        · rw [if_neg c4] at H
          have c4b0 : (a2 == 0) = false := beq_eq_false_iff_ne.mpr c4
          have c4b1 : (a2 != 0) = true := bne_iff_ne.mpr c4
          replace H := Option.bind_eq_some_iff.mp H
          obtain ⟨⟨t109, t110⟩, A50, H⟩ := H
          replace H : ((num_size.f a2).bind fun t111 => (if t109 ≥ t111 then (some (0, 10)) else ((bits_Div64.f k t109 t110 t111).bind fun bt113 => (if (false = true) then (if bt113.2 = 0 then ((num_signed.f k false 0 bt113.1).bind fun bt115 => (some (bt115.1, bt115.2))) else ((bits_Add64.f bt113.1 1 0).bind fun bt117 => ((num_signed.f k true bt117.2 bt117.1).bind fun bt119 => (some (bt119.1, bt119.2))))) else ((num_signed.f k false 0 bt113.1).bind fun bt121 => (some (bt121.1, bt121.2))))))) = some (r1, r2) := H
          have A5 := Aside0.mk A50
          clear A50
          replace H := Option.bind_eq_some_iff.mp H
          obtain ⟨t111, A60, H⟩ := H
          replace H : (if t109 ≥ t111 then (some (0, 10)) else ((bits_Div64.f k t109 t110 t111).bind fun bt113 => (if (false = true) then (if bt113.2 = 0 then ((num_signed.f k false 0 bt113.1).bind fun bt115 => (some (bt115.1, bt115.2))) else ((bits_Add64.f bt113.1 1 0).bind fun bt117 => ((num_signed.f k true bt117.2 bt117.1).bind fun bt119 => (some (bt119.1, bt119.2))))) else ((num_signed.f k false 0 bt113.1).bind fun bt121 => (some (bt121.1, bt121.2)))))) = some (r1, r2) := H
          have A6 := Aside0.mk A60
          clear A60
          by_cases c7 : t109 ≥ t111
          · rw [if_pos c7] at H
            have c7b0 : decide (t111 ≤ t109) = true := decide_eq_true c7
            clear c7
            simp only [Option.some.injEq, Prod.mk.injEq] at H
            obtain ⟨rfl, rfl⟩ := H
            go_enter Tryz.func128, Tryz.ntmps128
            go_wp2_with (first | ((with_reducible refine kK (f := 134) rfl ?_); refine kN (some 19) rfl rfl Tryz.func134 (by kernel_rfl) rfl #[.int .i64 a0, .int .i64 a1] rfl (by (try simp only [List.map_toArray, List.map_cons, List.map_nil]); first | done | rfl | (simp only [List.length_drop, List.length_take]; rfl)) ?_; (with_reducible refine (num_product.calls a0 a1 t109 t110 _ A5.out).mono ?_); rintro e w8 ⟨rfl, hb⟩; refine ⟨_, rfl, ?_⟩; have n0_ := Aside0.mk (kJ (by repeat (first | (with_reducible first | exact HB.out | apply kB | apply kA | apply kC) | exact HB.out)) hb); clear HB; have HB := n0_; clear n0_; (try clear hb); (try clear hb2); (try clear hk); (try clear hi)) | ((with_reducible refine kK (f := 175) rfl ?_); refine kN (some 21) rfl rfl Tryz.func175 (by kernel_rfl) rfl #[.int .i64 a2] rfl (by (try simp only [List.map_toArray, List.map_cons, List.map_nil]); first | done | rfl | (simp only [List.length_drop, List.length_take]; rfl)) ?_; (with_reducible refine (num_size.calls a2 t111 _ A6.out).mono ?_); rintro e w' ⟨rfl, ⟨nd, rfl⟩⟩; refine ⟨_, rfl, ?_⟩; (try (rw [drewN_self w8]; generalize hq_ : World.drewN w8 _ = w8; have n0_ : Aside0 (Below w.heap.size w w8) := ⟨by rw [← hq_]; exact (by repeat (first | (with_reducible first | exact HB.out | apply kB | apply kA | apply kC) | exact HB.out))⟩; clear HB hq_; have HB := n0_; clear n0_))) | ((with_reducible refine gate_dst (N := 8) rfl ?_); refine kO ?hg (N := 8) ?hd (cs := #[.int .u64 0, .int .u64 0]) (t := 170) ?hr ?_; (case hd => rfl); (case hg => rfl); (case hr => first | (go_simp; done) | (go_simp; rfl)); intro gb112 hg w9 hbox hb; have n0_ := Aside0.mk (kJ (by repeat (first | (with_reducible first | exact HB.out | apply kB | apply kA | apply kC) | exact HB.out)) hb); have n1_ := Aside0.mk (hbox); have n2_ := Aside0.mk ((by rw [hg]; exact (kL (by repeat (first | (with_reducible first | exact HB.out | apply kB | apply kA | apply kC) | exact HB.out))) : w.heap.size ≤ gb112)); have n3_ := Aside0.mk ((by rw [hg]; exact (kL (by repeat (first | (with_reducible first | exact HB.out | apply kB | apply kA | apply kC) | exact HB.out))) : w.heap.size ≤ gb112)); clear HB; have HB := n0_; have BK112 := n1_; have GW112 := n2_; have GE112 := n3_; clear n0_ n1_ n2_ n3_; clear hb hbox hg; have hcz10_0 : w9.cell? ⟨gb112, 0, none⟩ = some (.int .u64 0) := (kI BK112.out 0).trans rfl; have hcz10_1 : w9.cell? ⟨gb112, 1, none⟩ = some (.int .u64 0) := (kI BK112.out 1).trans rfl; have hfz10_0 := kG BK112.out 0; have hfz10_1 := kG BK112.out 1))
            go_ret2
            exact ⟨by first | rfl | (simp [errW_none, errW_some] <;> rfl) | (simp [*, errW_none, errW_some] <;> rfl), by repeat (first | (with_reducible first | exact HB.out | apply kB | apply kA | apply kC | refine kD ?_ GE112.out) | exact HB.out)⟩
          · rw [if_neg c7] at H
            have c7b0 : decide (t111 ≤ t109) = false := decide_eq_false c7
            clear c7
            replace H := Option.bind_eq_some_iff.mp H
            obtain ⟨⟨t113, t114⟩, A110, H⟩ := H
            replace H : (if (false = true) then (if t114 = 0 then ((num_signed.f k false 0 t113).bind fun bt115 => (some (bt115.1, bt115.2))) else ((bits_Add64.f t113 1 0).bind fun bt117 => ((num_signed.f k true bt117.2 bt117.1).bind fun bt119 => (some (bt119.1, bt119.2))))) else ((num_signed.f k false 0 t113).bind fun bt121 => (some (bt121.1, bt121.2)))) = some (r1, r2) := H
            have A11 := Aside0.mk A110
            clear A110
            rw [if_neg (by decide)] at H
            replace H := Option.bind_eq_some_iff.mp H
            obtain ⟨⟨t121, t122⟩, A250, H⟩ := H
            replace H : (some (t121, t122)) = some (r1, r2) := H
            have A25 := Aside0.mk A250
            clear A250
            simp only [Option.some.injEq, Prod.mk.injEq] at H
            obtain ⟨rfl, rfl⟩ := H
            go_enter Tryz.func128, Tryz.ntmps128
            go_wp2_with (first | ((with_reducible refine kK (f := 134) rfl ?_); refine kN (some 19) rfl rfl Tryz.func134 (by kernel_rfl) rfl #[.int .i64 a0, .int .i64 a1] rfl (by (try simp only [List.map_toArray, List.map_cons, List.map_nil]); first | done | rfl | (simp only [List.length_drop, List.length_take]; rfl)) ?_; (with_reducible refine (num_product.calls a0 a1 t109 t110 _ A5.out).mono ?_); rintro e w26 ⟨rfl, hb⟩; refine ⟨_, rfl, ?_⟩; have n0_ := Aside0.mk (kJ (by repeat (first | (with_reducible first | exact HB.out | apply kB | apply kA | apply kC) | exact HB.out)) hb); clear HB; have HB := n0_; clear n0_; (try clear hb); (try clear hb2); (try clear hk); (try clear hi)) | ((with_reducible refine kK (f := 175) rfl ?_); refine kN (some 21) rfl rfl Tryz.func175 (by kernel_rfl) rfl #[.int .i64 a2] rfl (by (try simp only [List.map_toArray, List.map_cons, List.map_nil]); first | done | rfl | (simp only [List.length_drop, List.length_take]; rfl)) ?_; (with_reducible refine (num_size.calls a2 t111 _ A6.out).mono ?_); rintro e w' ⟨rfl, ⟨nd, rfl⟩⟩; refine ⟨_, rfl, ?_⟩; (try (rw [drewN_self w26]; generalize hq_ : World.drewN w26 _ = w26; have n0_ : Aside0 (Below w.heap.size w w26) := ⟨by rw [← hq_]; exact (by repeat (first | (with_reducible first | exact HB.out | apply kB | apply kA | apply kC) | exact HB.out))⟩; clear HB hq_; have HB := n0_; clear n0_))) | ((with_reducible refine gate_dst (N := 8) rfl ?_); refine kO ?hg (N := 8) ?hd (cs := #[.int .u64 0, .int .u64 0]) (t := 170) ?hr ?_; (case hd => rfl); (case hg => rfl); (case hr => first | (go_simp; done) | (go_simp; rfl)); intro gb112 hg w27 hbox hb; have n0_ := Aside0.mk (kJ (by repeat (first | (with_reducible first | exact HB.out | apply kB | apply kA | apply kC) | exact HB.out)) hb); have n1_ := Aside0.mk (hbox); have n2_ := Aside0.mk ((by rw [hg]; exact (kL (by repeat (first | (with_reducible first | exact HB.out | apply kB | apply kA | apply kC) | exact HB.out))) : w.heap.size ≤ gb112)); have n3_ := Aside0.mk ((by rw [hg]; exact (kL (by repeat (first | (with_reducible first | exact HB.out | apply kB | apply kA | apply kC) | exact HB.out))) : w.heap.size ≤ gb112)); clear HB; have HB := n0_; have BK112 := n1_; have GW112 := n2_; have GE112 := n3_; clear n0_ n1_ n2_ n3_; clear hb hbox hg; have hcz28_0 : w27.cell? ⟨gb112, 0, none⟩ = some (.int .u64 0) := (kI BK112.out 0).trans rfl; have hcz28_1 : w27.cell? ⟨gb112, 1, none⟩ = some (.int .u64 0) := (kI BK112.out 1).trans rfl; have hfz28_0 := kG BK112.out 0; have hfz28_1 := kG BK112.out 1) | ((with_reducible refine kK (f := 176) rfl ?_); refine kN (some 40) rfl rfl Tryz.func176 (by kernel_rfl) rfl #[.int .u64 t109, .int .u64 t110, .int .u64 t111] rfl (by (try simp only [List.map_toArray, List.map_cons, List.map_nil]); first | done | rfl | (simp only [List.length_drop, List.length_take]; rfl)) ?_; (with_reducible refine (bits_Div64.calls k t109 t110 t111 t113 t114 _ A11.out).mono ?_); rintro e w' ⟨rfl, ⟨nd, rfl⟩⟩; refine ⟨_, rfl, ?_⟩) | ((with_reducible refine kK (f := 133) rfl ?_); refine kN (some 52) rfl rfl Tryz.func133 (by kernel_rfl) rfl #[.bool false, .agg #[.int .u64 0, .int .u64 t113]] rfl (by (try simp only [List.map_toArray, List.map_cons, List.map_nil]); first | done | rfl | (simp only [List.length_drop, List.length_take]; rfl)) ?_; (with_reducible refine (num_signed.calls k false 0 t113 t121 t122 _ A25.out).mono ?_); rintro e w29 ⟨rfl, hb⟩; refine ⟨_, rfl, ?_⟩; have n0_ := Aside0.mk (kM (g := gb112) (o := .cells #[.int .u64 t109, .int .u64 t110] 170 (0, 0)) (by (with_reducible repeat (first | refine kE ?_ _ | refine kH ?_ | refine kF ?_ _)); refine blk_put (cs := #[.int .u64 t109, .int .u64 0]) ?_ 1 _ rfl; (with_reducible repeat (first | refine kE ?_ _ | refine kH ?_ | refine kF ?_ _)); refine blk_put (cs := #[.int .u64 0, .int .u64 0]) ?_ 0 _ rfl; (with_reducible repeat (first | refine kE ?_ _ | refine kH ?_ | refine kF ?_ _)); exact BK112.out) hb); have n1_ := Aside0.mk (kJ (by repeat (first | (with_reducible first | exact HB.out | apply kB | apply kA | apply kC | refine kD ?_ GE112.out) | exact HB.out)) hb); clear BK112; clear HB; have BK112 := n0_; have HB := n1_; clear n0_ n1_; (try clear hb); (try clear hb2); (try clear hk); (try clear hi)))
            go_ret2
            exact ⟨by first | rfl | (simp [errW_none, errW_some] <;> rfl) | (simp [*, errW_none, errW_some] <;> rfl), by repeat (first | (with_reducible first | exact HB.out | apply kB | apply kA | apply kC | refine kD ?_ GE112.out) | exact HB.out)⟩
      · have s2b : decide (a2 < 0) = false := decide_eq_false s2
        clear s2
        rw [s0b, s1b, s2b, show (((false != true) != false)) = true from rfl] at H
        by_cases c4 : a2 = 0
        · rw [if_pos c4] at H
          have c4b0 : (a2 == 0) = true := beq_iff_eq.mpr c4
          have c4b1 : (a2 != 0) = false := bne_eq_false_iff_eq.mpr c4
          clear c4
          simp only [Option.some.injEq, Prod.mk.injEq] at H
          obtain ⟨rfl, rfl⟩ := H
          go_enter Tryz.func128, Tryz.ntmps128
          go_wp2
          go_ret2
          exact ⟨by first | rfl | (simp [errW_none, errW_some] <;> rfl) | (simp [*, errW_none, errW_some] <;> rfl), by repeat (first | (with_reducible first | exact HB.out | apply kB | apply kA | apply kC) | exact HB.out)⟩
        · rw [if_neg c4] at H
          have c4b0 : (a2 == 0) = false := beq_eq_false_iff_ne.mpr c4
          have c4b1 : (a2 != 0) = true := bne_iff_ne.mpr c4
          replace H := Option.bind_eq_some_iff.mp H
          obtain ⟨⟨t109, t110⟩, A50, H⟩ := H
          replace H : ((num_size.f a2).bind fun t111 => (if t109 ≥ t111 then (some (0, 10)) else ((bits_Div64.f k t109 t110 t111).bind fun bt113 => (if (true = true) then (if bt113.2 = 0 then ((num_signed.f k true 0 bt113.1).bind fun bt115 => (some (bt115.1, bt115.2))) else ((bits_Add64.f bt113.1 1 0).bind fun bt117 => ((num_signed.f k true bt117.2 bt117.1).bind fun bt119 => (some (bt119.1, bt119.2))))) else ((num_signed.f k true 0 bt113.1).bind fun bt121 => (some (bt121.1, bt121.2))))))) = some (r1, r2) := H
          have A5 := Aside0.mk A50
          clear A50
          replace H := Option.bind_eq_some_iff.mp H
          obtain ⟨t111, A60, H⟩ := H
          replace H : (if t109 ≥ t111 then (some (0, 10)) else ((bits_Div64.f k t109 t110 t111).bind fun bt113 => (if (true = true) then (if bt113.2 = 0 then ((num_signed.f k true 0 bt113.1).bind fun bt115 => (some (bt115.1, bt115.2))) else ((bits_Add64.f bt113.1 1 0).bind fun bt117 => ((num_signed.f k true bt117.2 bt117.1).bind fun bt119 => (some (bt119.1, bt119.2))))) else ((num_signed.f k true 0 bt113.1).bind fun bt121 => (some (bt121.1, bt121.2)))))) = some (r1, r2) := H
          have A6 := Aside0.mk A60
          clear A60
          by_cases c7 : t109 ≥ t111
          · rw [if_pos c7] at H
            have c7b0 : decide (t111 ≤ t109) = true := decide_eq_true c7
            clear c7
            simp only [Option.some.injEq, Prod.mk.injEq] at H
            obtain ⟨rfl, rfl⟩ := H
            go_enter Tryz.func128, Tryz.ntmps128
            go_wp2_with (first | ((with_reducible refine kK (f := 134) rfl ?_); refine kN (some 19) rfl rfl Tryz.func134 (by kernel_rfl) rfl #[.int .i64 a0, .int .i64 a1] rfl (by (try simp only [List.map_toArray, List.map_cons, List.map_nil]); first | done | rfl | (simp only [List.length_drop, List.length_take]; rfl)) ?_; (with_reducible refine (num_product.calls a0 a1 t109 t110 _ A5.out).mono ?_); rintro e w8 ⟨rfl, hb⟩; refine ⟨_, rfl, ?_⟩; have n0_ := Aside0.mk (kJ (by repeat (first | (with_reducible first | exact HB.out | apply kB | apply kA | apply kC) | exact HB.out)) hb); clear HB; have HB := n0_; clear n0_; (try clear hb); (try clear hb2); (try clear hk); (try clear hi)) | ((with_reducible refine kK (f := 175) rfl ?_); refine kN (some 21) rfl rfl Tryz.func175 (by kernel_rfl) rfl #[.int .i64 a2] rfl (by (try simp only [List.map_toArray, List.map_cons, List.map_nil]); first | done | rfl | (simp only [List.length_drop, List.length_take]; rfl)) ?_; (with_reducible refine (num_size.calls a2 t111 _ A6.out).mono ?_); rintro e w' ⟨rfl, ⟨nd, rfl⟩⟩; refine ⟨_, rfl, ?_⟩; (try (rw [drewN_self w8]; generalize hq_ : World.drewN w8 _ = w8; have n0_ : Aside0 (Below w.heap.size w w8) := ⟨by rw [← hq_]; exact (by repeat (first | (with_reducible first | exact HB.out | apply kB | apply kA | apply kC) | exact HB.out))⟩; clear HB hq_; have HB := n0_; clear n0_))) | ((with_reducible refine gate_dst (N := 8) rfl ?_); refine kO ?hg (N := 8) ?hd (cs := #[.int .u64 0, .int .u64 0]) (t := 170) ?hr ?_; (case hd => rfl); (case hg => rfl); (case hr => first | (go_simp; done) | (go_simp; rfl)); intro gb112 hg w9 hbox hb; have n0_ := Aside0.mk (kJ (by repeat (first | (with_reducible first | exact HB.out | apply kB | apply kA | apply kC) | exact HB.out)) hb); have n1_ := Aside0.mk (hbox); have n2_ := Aside0.mk ((by rw [hg]; exact (kL (by repeat (first | (with_reducible first | exact HB.out | apply kB | apply kA | apply kC) | exact HB.out))) : w.heap.size ≤ gb112)); have n3_ := Aside0.mk ((by rw [hg]; exact (kL (by repeat (first | (with_reducible first | exact HB.out | apply kB | apply kA | apply kC) | exact HB.out))) : w.heap.size ≤ gb112)); clear HB; have HB := n0_; have BK112 := n1_; have GW112 := n2_; have GE112 := n3_; clear n0_ n1_ n2_ n3_; clear hb hbox hg; have hcz10_0 : w9.cell? ⟨gb112, 0, none⟩ = some (.int .u64 0) := (kI BK112.out 0).trans rfl; have hcz10_1 : w9.cell? ⟨gb112, 1, none⟩ = some (.int .u64 0) := (kI BK112.out 1).trans rfl; have hfz10_0 := kG BK112.out 0; have hfz10_1 := kG BK112.out 1))
            go_ret2
            exact ⟨by first | rfl | (simp [errW_none, errW_some] <;> rfl) | (simp [*, errW_none, errW_some] <;> rfl), by repeat (first | (with_reducible first | exact HB.out | apply kB | apply kA | apply kC | refine kD ?_ GE112.out) | exact HB.out)⟩
          · rw [if_neg c7] at H
            have c7b0 : decide (t111 ≤ t109) = false := decide_eq_false c7
            clear c7
            replace H := Option.bind_eq_some_iff.mp H
            obtain ⟨⟨t113, t114⟩, A110, H⟩ := H
            replace H : (if (true = true) then (if t114 = 0 then ((num_signed.f k true 0 t113).bind fun bt115 => (some (bt115.1, bt115.2))) else ((bits_Add64.f t113 1 0).bind fun bt117 => ((num_signed.f k true bt117.2 bt117.1).bind fun bt119 => (some (bt119.1, bt119.2))))) else ((num_signed.f k true 0 t113).bind fun bt121 => (some (bt121.1, bt121.2)))) = some (r1, r2) := H
            have A11 := Aside0.mk A110
            clear A110
            rw [if_pos (by decide)] at H
            by_cases c13 : t114 = 0
            · rw [if_pos c13] at H
              have c13b0 : (t114 == 0) = true := beq_iff_eq.mpr c13
              have c13b1 : (t114 != 0) = false := bne_eq_false_iff_eq.mpr c13
              clear c13
              replace H := Option.bind_eq_some_iff.mp H
              obtain ⟨⟨t115, t116⟩, A140, H⟩ := H
              replace H : (some (t115, t116)) = some (r1, r2) := H
              have A14 := Aside0.mk A140
              clear A140
              simp only [Option.some.injEq, Prod.mk.injEq] at H
              obtain ⟨rfl, rfl⟩ := H
              go_enter Tryz.func128, Tryz.ntmps128
              go_wp2_with (first | ((with_reducible refine kK (f := 134) rfl ?_); refine kN (some 19) rfl rfl Tryz.func134 (by kernel_rfl) rfl #[.int .i64 a0, .int .i64 a1] rfl (by (try simp only [List.map_toArray, List.map_cons, List.map_nil]); first | done | rfl | (simp only [List.length_drop, List.length_take]; rfl)) ?_; (with_reducible refine (num_product.calls a0 a1 t109 t110 _ A5.out).mono ?_); rintro e w15 ⟨rfl, hb⟩; refine ⟨_, rfl, ?_⟩; have n0_ := Aside0.mk (kJ (by repeat (first | (with_reducible first | exact HB.out | apply kB | apply kA | apply kC) | exact HB.out)) hb); clear HB; have HB := n0_; clear n0_; (try clear hb); (try clear hb2); (try clear hk); (try clear hi)) | ((with_reducible refine kK (f := 175) rfl ?_); refine kN (some 21) rfl rfl Tryz.func175 (by kernel_rfl) rfl #[.int .i64 a2] rfl (by (try simp only [List.map_toArray, List.map_cons, List.map_nil]); first | done | rfl | (simp only [List.length_drop, List.length_take]; rfl)) ?_; (with_reducible refine (num_size.calls a2 t111 _ A6.out).mono ?_); rintro e w' ⟨rfl, ⟨nd, rfl⟩⟩; refine ⟨_, rfl, ?_⟩; (try (rw [drewN_self w15]; generalize hq_ : World.drewN w15 _ = w15; have n0_ : Aside0 (Below w.heap.size w w15) := ⟨by rw [← hq_]; exact (by repeat (first | (with_reducible first | exact HB.out | apply kB | apply kA | apply kC) | exact HB.out))⟩; clear HB hq_; have HB := n0_; clear n0_))) | ((with_reducible refine gate_dst (N := 8) rfl ?_); refine kO ?hg (N := 8) ?hd (cs := #[.int .u64 0, .int .u64 0]) (t := 170) ?hr ?_; (case hd => rfl); (case hg => rfl); (case hr => first | (go_simp; done) | (go_simp; rfl)); intro gb112 hg w16 hbox hb; have n0_ := Aside0.mk (kJ (by repeat (first | (with_reducible first | exact HB.out | apply kB | apply kA | apply kC) | exact HB.out)) hb); have n1_ := Aside0.mk (hbox); have n2_ := Aside0.mk ((by rw [hg]; exact (kL (by repeat (first | (with_reducible first | exact HB.out | apply kB | apply kA | apply kC) | exact HB.out))) : w.heap.size ≤ gb112)); have n3_ := Aside0.mk ((by rw [hg]; exact (kL (by repeat (first | (with_reducible first | exact HB.out | apply kB | apply kA | apply kC) | exact HB.out))) : w.heap.size ≤ gb112)); clear HB; have HB := n0_; have BK112 := n1_; have GW112 := n2_; have GE112 := n3_; clear n0_ n1_ n2_ n3_; clear hb hbox hg; have hcz17_0 : w16.cell? ⟨gb112, 0, none⟩ = some (.int .u64 0) := (kI BK112.out 0).trans rfl; have hcz17_1 : w16.cell? ⟨gb112, 1, none⟩ = some (.int .u64 0) := (kI BK112.out 1).trans rfl; have hfz17_0 := kG BK112.out 0; have hfz17_1 := kG BK112.out 1) | ((with_reducible refine kK (f := 176) rfl ?_); refine kN (some 40) rfl rfl Tryz.func176 (by kernel_rfl) rfl #[.int .u64 t109, .int .u64 t110, .int .u64 t111] rfl (by (try simp only [List.map_toArray, List.map_cons, List.map_nil]); first | done | rfl | (simp only [List.length_drop, List.length_take]; rfl)) ?_; (with_reducible refine (bits_Div64.calls k t109 t110 t111 t113 t114 _ A11.out).mono ?_); rintro e w' ⟨rfl, ⟨nd, rfl⟩⟩; refine ⟨_, rfl, ?_⟩) | ((with_reducible refine kK (f := 133) rfl ?_); refine kN (some 52) rfl rfl Tryz.func133 (by kernel_rfl) rfl #[.bool true, .agg #[.int .u64 0, .int .u64 t113]] rfl (by (try simp only [List.map_toArray, List.map_cons, List.map_nil]); first | done | rfl | (simp only [List.length_drop, List.length_take]; rfl)) ?_; (with_reducible refine (num_signed.calls k true 0 t113 t115 t116 _ A14.out).mono ?_); rintro e w18 ⟨rfl, hb⟩; refine ⟨_, rfl, ?_⟩; have n0_ := Aside0.mk (kM (g := gb112) (o := .cells #[.int .u64 t109, .int .u64 t110] 170 (0, 0)) (by (with_reducible repeat (first | refine kE ?_ _ | refine kH ?_ | refine kF ?_ _)); refine blk_put (cs := #[.int .u64 t109, .int .u64 0]) ?_ 1 _ rfl; (with_reducible repeat (first | refine kE ?_ _ | refine kH ?_ | refine kF ?_ _)); refine blk_put (cs := #[.int .u64 0, .int .u64 0]) ?_ 0 _ rfl; (with_reducible repeat (first | refine kE ?_ _ | refine kH ?_ | refine kF ?_ _)); exact BK112.out) hb); have n1_ := Aside0.mk (kJ (by repeat (first | (with_reducible first | exact HB.out | apply kB | apply kA | apply kC | refine kD ?_ GE112.out) | exact HB.out)) hb); clear BK112; clear HB; have BK112 := n0_; have HB := n1_; clear n0_ n1_; (try clear hb); (try clear hb2); (try clear hk); (try clear hi)))
              go_ret2
              exact ⟨by first | rfl | (simp [errW_none, errW_some] <;> rfl) | (simp [*, errW_none, errW_some] <;> rfl), by repeat (first | (with_reducible first | exact HB.out | apply kB | apply kA | apply kC | refine kD ?_ GE112.out) | exact HB.out)⟩
            · rw [if_neg c13] at H
              have c13b0 : (t114 == 0) = false := beq_eq_false_iff_ne.mpr c13
              have c13b1 : (t114 != 0) = true := bne_iff_ne.mpr c13
              replace H := Option.bind_eq_some_iff.mp H
              obtain ⟨⟨t117, t118⟩, A190, H⟩ := H
              replace H : ((num_signed.f k true t118 t117).bind fun bt119 => (some (bt119.1, bt119.2))) = some (r1, r2) := H
              have A19 := Aside0.mk A190
              clear A190
              replace H := Option.bind_eq_some_iff.mp H
              obtain ⟨⟨t119, t120⟩, A200, H⟩ := H
              replace H : (some (t119, t120)) = some (r1, r2) := H
              have A20 := Aside0.mk A200
              clear A200
              simp only [Option.some.injEq, Prod.mk.injEq] at H
              obtain ⟨rfl, rfl⟩ := H
              go_enter Tryz.func128, Tryz.ntmps128
              have RA19 := fun (W_ : World) => bits_Add64.run t113 1 0 t117 t118 W_ A19.out
              go_wp2_with (first | ((with_reducible refine kK (f := 134) rfl ?_); refine kN (some 19) rfl rfl Tryz.func134 (by kernel_rfl) rfl #[.int .i64 a0, .int .i64 a1] rfl (by (try simp only [List.map_toArray, List.map_cons, List.map_nil]); first | done | rfl | (simp only [List.length_drop, List.length_take]; rfl)) ?_; (with_reducible refine (num_product.calls a0 a1 t109 t110 _ A5.out).mono ?_); rintro e w21 ⟨rfl, hb⟩; refine ⟨_, rfl, ?_⟩; have n0_ := Aside0.mk (kJ (by repeat (first | (with_reducible first | exact HB.out | apply kB | apply kA | apply kC) | exact HB.out)) hb); clear HB; have HB := n0_; clear n0_; (try clear hb); (try clear hb2); (try clear hk); (try clear hi)) | ((with_reducible refine kK (f := 175) rfl ?_); refine kN (some 21) rfl rfl Tryz.func175 (by kernel_rfl) rfl #[.int .i64 a2] rfl (by (try simp only [List.map_toArray, List.map_cons, List.map_nil]); first | done | rfl | (simp only [List.length_drop, List.length_take]; rfl)) ?_; (with_reducible refine (num_size.calls a2 t111 _ A6.out).mono ?_); rintro e w' ⟨rfl, ⟨nd, rfl⟩⟩; refine ⟨_, rfl, ?_⟩; (try (rw [drewN_self w21]; generalize hq_ : World.drewN w21 _ = w21; have n0_ : Aside0 (Below w.heap.size w w21) := ⟨by rw [← hq_]; exact (by repeat (first | (with_reducible first | exact HB.out | apply kB | apply kA | apply kC) | exact HB.out))⟩; clear HB hq_; have HB := n0_; clear n0_))) | ((with_reducible refine gate_dst (N := 8) rfl ?_); refine kO ?hg (N := 8) ?hd (cs := #[.int .u64 0, .int .u64 0]) (t := 170) ?hr ?_; (case hd => rfl); (case hg => rfl); (case hr => first | (go_simp; done) | (go_simp; rfl)); intro gb112 hg w22 hbox hb; have n0_ := Aside0.mk (kJ (by repeat (first | (with_reducible first | exact HB.out | apply kB | apply kA | apply kC) | exact HB.out)) hb); have n1_ := Aside0.mk (hbox); have n2_ := Aside0.mk ((by rw [hg]; exact (kL (by repeat (first | (with_reducible first | exact HB.out | apply kB | apply kA | apply kC) | exact HB.out))) : w.heap.size ≤ gb112)); have n3_ := Aside0.mk ((by rw [hg]; exact (kL (by repeat (first | (with_reducible first | exact HB.out | apply kB | apply kA | apply kC) | exact HB.out))) : w.heap.size ≤ gb112)); clear HB; have HB := n0_; have BK112 := n1_; have GW112 := n2_; have GE112 := n3_; clear n0_ n1_ n2_ n3_; clear hb hbox hg; have hcz23_0 : w22.cell? ⟨gb112, 0, none⟩ = some (.int .u64 0) := (kI BK112.out 0).trans rfl; have hcz23_1 : w22.cell? ⟨gb112, 1, none⟩ = some (.int .u64 0) := (kI BK112.out 1).trans rfl; have hfz23_0 := kG BK112.out 0; have hfz23_1 := kG BK112.out 1) | ((with_reducible refine kK (f := 176) rfl ?_); refine kN (some 40) rfl rfl Tryz.func176 (by kernel_rfl) rfl #[.int .u64 t109, .int .u64 t110, .int .u64 t111] rfl (by (try simp only [List.map_toArray, List.map_cons, List.map_nil]); first | done | rfl | (simp only [List.length_drop, List.length_take]; rfl)) ?_; (with_reducible refine (bits_Div64.calls k t109 t110 t111 t113 t114 _ A11.out).mono ?_); rintro e w' ⟨rfl, ⟨nd, rfl⟩⟩; refine ⟨_, rfl, ?_⟩) | (simp only [bits_Add64.run t113 1 0 t117 t118 _ A19.out]) | ((with_reducible refine kK (f := 133) rfl ?_); refine kN (some 63) rfl rfl Tryz.func133 (by kernel_rfl) rfl #[.bool true, .agg #[.int .u64 t118, .int .u64 t117]] rfl (by (try simp only [List.map_toArray, List.map_cons, List.map_nil]); first | done | rfl | (simp only [List.length_drop, List.length_take]; rfl)) ?_; (with_reducible refine (num_signed.calls k true t118 t117 t119 t120 _ A20.out).mono ?_); rintro e w24 ⟨rfl, hb⟩; refine ⟨_, rfl, ?_⟩; have n0_ := Aside0.mk (kM (g := gb112) (o := .cells #[.int .u64 t109, .int .u64 t110] 170 (0, 0)) (by (with_reducible repeat (first | refine kE ?_ _ | refine kH ?_ | refine kF ?_ _)); refine blk_put (cs := #[.int .u64 t109, .int .u64 0]) ?_ 1 _ rfl; (with_reducible repeat (first | refine kE ?_ _ | refine kH ?_ | refine kF ?_ _)); refine blk_put (cs := #[.int .u64 0, .int .u64 0]) ?_ 0 _ rfl; (with_reducible repeat (first | refine kE ?_ _ | refine kH ?_ | refine kF ?_ _)); exact BK112.out) hb); have n1_ := Aside0.mk (kJ (by repeat (first | (with_reducible first | exact HB.out | apply kB | apply kA | apply kC | refine kD ?_ GE112.out) | exact HB.out)) hb); clear BK112; clear HB; have BK112 := n0_; have HB := n1_; clear n0_ n1_; (try clear hb); (try clear hb2); (try clear hk); (try clear hi)))
              go_ret2
              exact ⟨by first | rfl | (simp [errW_none, errW_some] <;> rfl) | (simp [*, errW_none, errW_some] <;> rfl), by repeat (first | (with_reducible first | exact HB.out | apply kB | apply kA | apply kC | refine kD ?_ GE112.out) | exact HB.out)⟩
    · have s1b : decide (a1 < 0) = false := decide_eq_false s1
      clear s1
      by_cases s2 : a2 < 0
      · have s2b : decide (a2 < 0) = true := decide_eq_true s2
        clear s2
        rw [s0b, s1b, s2b, show (((false != false) != true)) = true from rfl] at H
        by_cases c4 : a2 = 0
        · rw [if_pos c4] at H
          have c4b0 : (a2 == 0) = true := beq_iff_eq.mpr c4
          have c4b1 : (a2 != 0) = false := bne_eq_false_iff_eq.mpr c4
          clear c4
          simp only [Option.some.injEq, Prod.mk.injEq] at H
          obtain ⟨rfl, rfl⟩ := H
          go_enter Tryz.func128, Tryz.ntmps128
          go_wp2
          go_ret2
          exact ⟨by first | rfl | (simp [errW_none, errW_some] <;> rfl) | (simp [*, errW_none, errW_some] <;> rfl), by repeat (first | (with_reducible first | exact HB.out | apply kB | apply kA | apply kC) | exact HB.out)⟩
        · rw [if_neg c4] at H
          have c4b0 : (a2 == 0) = false := beq_eq_false_iff_ne.mpr c4
          have c4b1 : (a2 != 0) = true := bne_iff_ne.mpr c4
          replace H := Option.bind_eq_some_iff.mp H
          obtain ⟨⟨t109, t110⟩, A50, H⟩ := H
          replace H : ((num_size.f a2).bind fun t111 => (if t109 ≥ t111 then (some (0, 10)) else ((bits_Div64.f k t109 t110 t111).bind fun bt113 => (if (true = true) then (if bt113.2 = 0 then ((num_signed.f k true 0 bt113.1).bind fun bt115 => (some (bt115.1, bt115.2))) else ((bits_Add64.f bt113.1 1 0).bind fun bt117 => ((num_signed.f k true bt117.2 bt117.1).bind fun bt119 => (some (bt119.1, bt119.2))))) else ((num_signed.f k true 0 bt113.1).bind fun bt121 => (some (bt121.1, bt121.2))))))) = some (r1, r2) := H
          have A5 := Aside0.mk A50
          clear A50
          replace H := Option.bind_eq_some_iff.mp H
          obtain ⟨t111, A60, H⟩ := H
          replace H : (if t109 ≥ t111 then (some (0, 10)) else ((bits_Div64.f k t109 t110 t111).bind fun bt113 => (if (true = true) then (if bt113.2 = 0 then ((num_signed.f k true 0 bt113.1).bind fun bt115 => (some (bt115.1, bt115.2))) else ((bits_Add64.f bt113.1 1 0).bind fun bt117 => ((num_signed.f k true bt117.2 bt117.1).bind fun bt119 => (some (bt119.1, bt119.2))))) else ((num_signed.f k true 0 bt113.1).bind fun bt121 => (some (bt121.1, bt121.2)))))) = some (r1, r2) := H
          have A6 := Aside0.mk A60
          clear A60
          by_cases c7 : t109 ≥ t111
          · rw [if_pos c7] at H
            have c7b0 : decide (t111 ≤ t109) = true := decide_eq_true c7
            clear c7
            simp only [Option.some.injEq, Prod.mk.injEq] at H
            obtain ⟨rfl, rfl⟩ := H
            go_enter Tryz.func128, Tryz.ntmps128
            go_wp2_with (first | ((with_reducible refine kK (f := 134) rfl ?_); refine kN (some 19) rfl rfl Tryz.func134 (by kernel_rfl) rfl #[.int .i64 a0, .int .i64 a1] rfl (by (try simp only [List.map_toArray, List.map_cons, List.map_nil]); first | done | rfl | (simp only [List.length_drop, List.length_take]; rfl)) ?_; (with_reducible refine (num_product.calls a0 a1 t109 t110 _ A5.out).mono ?_); rintro e w8 ⟨rfl, hb⟩; refine ⟨_, rfl, ?_⟩; have n0_ := Aside0.mk (kJ (by repeat (first | (with_reducible first | exact HB.out | apply kB | apply kA | apply kC) | exact HB.out)) hb); clear HB; have HB := n0_; clear n0_; (try clear hb); (try clear hb2); (try clear hk); (try clear hi)) | ((with_reducible refine kK (f := 175) rfl ?_); refine kN (some 21) rfl rfl Tryz.func175 (by kernel_rfl) rfl #[.int .i64 a2] rfl (by (try simp only [List.map_toArray, List.map_cons, List.map_nil]); first | done | rfl | (simp only [List.length_drop, List.length_take]; rfl)) ?_; (with_reducible refine (num_size.calls a2 t111 _ A6.out).mono ?_); rintro e w' ⟨rfl, ⟨nd, rfl⟩⟩; refine ⟨_, rfl, ?_⟩; (try (rw [drewN_self w8]; generalize hq_ : World.drewN w8 _ = w8; have n0_ : Aside0 (Below w.heap.size w w8) := ⟨by rw [← hq_]; exact (by repeat (first | (with_reducible first | exact HB.out | apply kB | apply kA | apply kC) | exact HB.out))⟩; clear HB hq_; have HB := n0_; clear n0_))) | ((with_reducible refine gate_dst (N := 8) rfl ?_); refine kO ?hg (N := 8) ?hd (cs := #[.int .u64 0, .int .u64 0]) (t := 170) ?hr ?_; (case hd => rfl); (case hg => rfl); (case hr => first | (go_simp; done) | (go_simp; rfl)); intro gb112 hg w9 hbox hb; have n0_ := Aside0.mk (kJ (by repeat (first | (with_reducible first | exact HB.out | apply kB | apply kA | apply kC) | exact HB.out)) hb); have n1_ := Aside0.mk (hbox); have n2_ := Aside0.mk ((by rw [hg]; exact (kL (by repeat (first | (with_reducible first | exact HB.out | apply kB | apply kA | apply kC) | exact HB.out))) : w.heap.size ≤ gb112)); have n3_ := Aside0.mk ((by rw [hg]; exact (kL (by repeat (first | (with_reducible first | exact HB.out | apply kB | apply kA | apply kC) | exact HB.out))) : w.heap.size ≤ gb112)); clear HB; have HB := n0_; have BK112 := n1_; have GW112 := n2_; have GE112 := n3_; clear n0_ n1_ n2_ n3_; clear hb hbox hg; have hcz10_0 : w9.cell? ⟨gb112, 0, none⟩ = some (.int .u64 0) := (kI BK112.out 0).trans rfl; have hcz10_1 : w9.cell? ⟨gb112, 1, none⟩ = some (.int .u64 0) := (kI BK112.out 1).trans rfl; have hfz10_0 := kG BK112.out 0; have hfz10_1 := kG BK112.out 1))
            go_ret2
            exact ⟨by first | rfl | (simp [errW_none, errW_some] <;> rfl) | (simp [*, errW_none, errW_some] <;> rfl), by repeat (first | (with_reducible first | exact HB.out | apply kB | apply kA | apply kC | refine kD ?_ GE112.out) | exact HB.out)⟩
          · rw [if_neg c7] at H
            have c7b0 : decide (t111 ≤ t109) = false := decide_eq_false c7
            clear c7
            replace H := Option.bind_eq_some_iff.mp H
            obtain ⟨⟨t113, t114⟩, A110, H⟩ := H
            replace H : (if (true = true) then (if t114 = 0 then ((num_signed.f k true 0 t113).bind fun bt115 => (some (bt115.1, bt115.2))) else ((bits_Add64.f t113 1 0).bind fun bt117 => ((num_signed.f k true bt117.2 bt117.1).bind fun bt119 => (some (bt119.1, bt119.2))))) else ((num_signed.f k true 0 t113).bind fun bt121 => (some (bt121.1, bt121.2)))) = some (r1, r2) := H
            have A11 := Aside0.mk A110
            clear A110
            rw [if_pos (by decide)] at H
            by_cases c13 : t114 = 0
            · rw [if_pos c13] at H
              have c13b0 : (t114 == 0) = true := beq_iff_eq.mpr c13
              have c13b1 : (t114 != 0) = false := bne_eq_false_iff_eq.mpr c13
              clear c13
              replace H := Option.bind_eq_some_iff.mp H
              obtain ⟨⟨t115, t116⟩, A140, H⟩ := H
              replace H : (some (t115, t116)) = some (r1, r2) := H
              have A14 := Aside0.mk A140
              clear A140
              simp only [Option.some.injEq, Prod.mk.injEq] at H
              obtain ⟨rfl, rfl⟩ := H
              go_enter Tryz.func128, Tryz.ntmps128
              go_wp2_with (first | ((with_reducible refine kK (f := 134) rfl ?_); refine kN (some 19) rfl rfl Tryz.func134 (by kernel_rfl) rfl #[.int .i64 a0, .int .i64 a1] rfl (by (try simp only [List.map_toArray, List.map_cons, List.map_nil]); first | done | rfl | (simp only [List.length_drop, List.length_take]; rfl)) ?_; (with_reducible refine (num_product.calls a0 a1 t109 t110 _ A5.out).mono ?_); rintro e w15 ⟨rfl, hb⟩; refine ⟨_, rfl, ?_⟩; have n0_ := Aside0.mk (kJ (by repeat (first | (with_reducible first | exact HB.out | apply kB | apply kA | apply kC) | exact HB.out)) hb); clear HB; have HB := n0_; clear n0_; (try clear hb); (try clear hb2); (try clear hk); (try clear hi)) | ((with_reducible refine kK (f := 175) rfl ?_); refine kN (some 21) rfl rfl Tryz.func175 (by kernel_rfl) rfl #[.int .i64 a2] rfl (by (try simp only [List.map_toArray, List.map_cons, List.map_nil]); first | done | rfl | (simp only [List.length_drop, List.length_take]; rfl)) ?_; (with_reducible refine (num_size.calls a2 t111 _ A6.out).mono ?_); rintro e w' ⟨rfl, ⟨nd, rfl⟩⟩; refine ⟨_, rfl, ?_⟩; (try (rw [drewN_self w15]; generalize hq_ : World.drewN w15 _ = w15; have n0_ : Aside0 (Below w.heap.size w w15) := ⟨by rw [← hq_]; exact (by repeat (first | (with_reducible first | exact HB.out | apply kB | apply kA | apply kC) | exact HB.out))⟩; clear HB hq_; have HB := n0_; clear n0_))) | ((with_reducible refine gate_dst (N := 8) rfl ?_); refine kO ?hg (N := 8) ?hd (cs := #[.int .u64 0, .int .u64 0]) (t := 170) ?hr ?_; (case hd => rfl); (case hg => rfl); (case hr => first | (go_simp; done) | (go_simp; rfl)); intro gb112 hg w16 hbox hb; have n0_ := Aside0.mk (kJ (by repeat (first | (with_reducible first | exact HB.out | apply kB | apply kA | apply kC) | exact HB.out)) hb); have n1_ := Aside0.mk (hbox); have n2_ := Aside0.mk ((by rw [hg]; exact (kL (by repeat (first | (with_reducible first | exact HB.out | apply kB | apply kA | apply kC) | exact HB.out))) : w.heap.size ≤ gb112)); have n3_ := Aside0.mk ((by rw [hg]; exact (kL (by repeat (first | (with_reducible first | exact HB.out | apply kB | apply kA | apply kC) | exact HB.out))) : w.heap.size ≤ gb112)); clear HB; have HB := n0_; have BK112 := n1_; have GW112 := n2_; have GE112 := n3_; clear n0_ n1_ n2_ n3_; clear hb hbox hg; have hcz17_0 : w16.cell? ⟨gb112, 0, none⟩ = some (.int .u64 0) := (kI BK112.out 0).trans rfl; have hcz17_1 : w16.cell? ⟨gb112, 1, none⟩ = some (.int .u64 0) := (kI BK112.out 1).trans rfl; have hfz17_0 := kG BK112.out 0; have hfz17_1 := kG BK112.out 1) | ((with_reducible refine kK (f := 176) rfl ?_); refine kN (some 40) rfl rfl Tryz.func176 (by kernel_rfl) rfl #[.int .u64 t109, .int .u64 t110, .int .u64 t111] rfl (by (try simp only [List.map_toArray, List.map_cons, List.map_nil]); first | done | rfl | (simp only [List.length_drop, List.length_take]; rfl)) ?_; (with_reducible refine (bits_Div64.calls k t109 t110 t111 t113 t114 _ A11.out).mono ?_); rintro e w' ⟨rfl, ⟨nd, rfl⟩⟩; refine ⟨_, rfl, ?_⟩) | ((with_reducible refine kK (f := 133) rfl ?_); refine kN (some 52) rfl rfl Tryz.func133 (by kernel_rfl) rfl #[.bool true, .agg #[.int .u64 0, .int .u64 t113]] rfl (by (try simp only [List.map_toArray, List.map_cons, List.map_nil]); first | done | rfl | (simp only [List.length_drop, List.length_take]; rfl)) ?_; (with_reducible refine (num_signed.calls k true 0 t113 t115 t116 _ A14.out).mono ?_); rintro e w18 ⟨rfl, hb⟩; refine ⟨_, rfl, ?_⟩; have n0_ := Aside0.mk (kM (g := gb112) (o := .cells #[.int .u64 t109, .int .u64 t110] 170 (0, 0)) (by (with_reducible repeat (first | refine kE ?_ _ | refine kH ?_ | refine kF ?_ _)); refine blk_put (cs := #[.int .u64 t109, .int .u64 0]) ?_ 1 _ rfl; (with_reducible repeat (first | refine kE ?_ _ | refine kH ?_ | refine kF ?_ _)); refine blk_put (cs := #[.int .u64 0, .int .u64 0]) ?_ 0 _ rfl; (with_reducible repeat (first | refine kE ?_ _ | refine kH ?_ | refine kF ?_ _)); exact BK112.out) hb); have n1_ := Aside0.mk (kJ (by repeat (first | (with_reducible first | exact HB.out | apply kB | apply kA | apply kC | refine kD ?_ GE112.out) | exact HB.out)) hb); clear BK112; clear HB; have BK112 := n0_; have HB := n1_; clear n0_ n1_; (try clear hb); (try clear hb2); (try clear hk); (try clear hi)))
              go_ret2
              exact ⟨by first | rfl | (simp [errW_none, errW_some] <;> rfl) | (simp [*, errW_none, errW_some] <;> rfl), by repeat (first | (with_reducible first | exact HB.out | apply kB | apply kA | apply kC | refine kD ?_ GE112.out) | exact HB.out)⟩
            · rw [if_neg c13] at H
              have c13b0 : (t114 == 0) = false := beq_eq_false_iff_ne.mpr c13
              have c13b1 : (t114 != 0) = true := bne_iff_ne.mpr c13
              replace H := Option.bind_eq_some_iff.mp H
              obtain ⟨⟨t117, t118⟩, A190, H⟩ := H
              replace H : ((num_signed.f k true t118 t117).bind fun bt119 => (some (bt119.1, bt119.2))) = some (r1, r2) := H
              have A19 := Aside0.mk A190
              clear A190
              replace H := Option.bind_eq_some_iff.mp H
              obtain ⟨⟨t119, t120⟩, A200, H⟩ := H
              replace H : (some (t119, t120)) = some (r1, r2) := H
              have A20 := Aside0.mk A200
              clear A200
              simp only [Option.some.injEq, Prod.mk.injEq] at H
              obtain ⟨rfl, rfl⟩ := H
              go_enter Tryz.func128, Tryz.ntmps128
              have RA19 := fun (W_ : World) => bits_Add64.run t113 1 0 t117 t118 W_ A19.out
              go_wp2_with (first | ((with_reducible refine kK (f := 134) rfl ?_); refine kN (some 19) rfl rfl Tryz.func134 (by kernel_rfl) rfl #[.int .i64 a0, .int .i64 a1] rfl (by (try simp only [List.map_toArray, List.map_cons, List.map_nil]); first | done | rfl | (simp only [List.length_drop, List.length_take]; rfl)) ?_; (with_reducible refine (num_product.calls a0 a1 t109 t110 _ A5.out).mono ?_); rintro e w21 ⟨rfl, hb⟩; refine ⟨_, rfl, ?_⟩; have n0_ := Aside0.mk (kJ (by repeat (first | (with_reducible first | exact HB.out | apply kB | apply kA | apply kC) | exact HB.out)) hb); clear HB; have HB := n0_; clear n0_; (try clear hb); (try clear hb2); (try clear hk); (try clear hi)) | ((with_reducible refine kK (f := 175) rfl ?_); refine kN (some 21) rfl rfl Tryz.func175 (by kernel_rfl) rfl #[.int .i64 a2] rfl (by (try simp only [List.map_toArray, List.map_cons, List.map_nil]); first | done | rfl | (simp only [List.length_drop, List.length_take]; rfl)) ?_; (with_reducible refine (num_size.calls a2 t111 _ A6.out).mono ?_); rintro e w' ⟨rfl, ⟨nd, rfl⟩⟩; refine ⟨_, rfl, ?_⟩; (try (rw [drewN_self w21]; generalize hq_ : World.drewN w21 _ = w21; have n0_ : Aside0 (Below w.heap.size w w21) := ⟨by rw [← hq_]; exact (by repeat (first | (with_reducible first | exact HB.out | apply kB | apply kA | apply kC) | exact HB.out))⟩; clear HB hq_; have HB := n0_; clear n0_))) | ((with_reducible refine gate_dst (N := 8) rfl ?_); refine kO ?hg (N := 8) ?hd (cs := #[.int .u64 0, .int .u64 0]) (t := 170) ?hr ?_; (case hd => rfl); (case hg => rfl); (case hr => first | (go_simp; done) | (go_simp; rfl)); intro gb112 hg w22 hbox hb; have n0_ := Aside0.mk (kJ (by repeat (first | (with_reducible first | exact HB.out | apply kB | apply kA | apply kC) | exact HB.out)) hb); have n1_ := Aside0.mk (hbox); have n2_ := Aside0.mk ((by rw [hg]; exact (kL (by repeat (first | (with_reducible first | exact HB.out | apply kB | apply kA | apply kC) | exact HB.out))) : w.heap.size ≤ gb112)); have n3_ := Aside0.mk ((by rw [hg]; exact (kL (by repeat (first | (with_reducible first | exact HB.out | apply kB | apply kA | apply kC) | exact HB.out))) : w.heap.size ≤ gb112)); clear HB; have HB := n0_; have BK112 := n1_; have GW112 := n2_; have GE112 := n3_; clear n0_ n1_ n2_ n3_; clear hb hbox hg; have hcz23_0 : w22.cell? ⟨gb112, 0, none⟩ = some (.int .u64 0) := (kI BK112.out 0).trans rfl; have hcz23_1 : w22.cell? ⟨gb112, 1, none⟩ = some (.int .u64 0) := (kI BK112.out 1).trans rfl; have hfz23_0 := kG BK112.out 0; have hfz23_1 := kG BK112.out 1) | ((with_reducible refine kK (f := 176) rfl ?_); refine kN (some 40) rfl rfl Tryz.func176 (by kernel_rfl) rfl #[.int .u64 t109, .int .u64 t110, .int .u64 t111] rfl (by (try simp only [List.map_toArray, List.map_cons, List.map_nil]); first | done | rfl | (simp only [List.length_drop, List.length_take]; rfl)) ?_; (with_reducible refine (bits_Div64.calls k t109 t110 t111 t113 t114 _ A11.out).mono ?_); rintro e w' ⟨rfl, ⟨nd, rfl⟩⟩; refine ⟨_, rfl, ?_⟩) | (simp only [bits_Add64.run t113 1 0 t117 t118 _ A19.out]) | ((with_reducible refine kK (f := 133) rfl ?_); refine kN (some 63) rfl rfl Tryz.func133 (by kernel_rfl) rfl #[.bool true, .agg #[.int .u64 t118, .int .u64 t117]] rfl (by (try simp only [List.map_toArray, List.map_cons, List.map_nil]); first | done | rfl | (simp only [List.length_drop, List.length_take]; rfl)) ?_; (with_reducible refine (num_signed.calls k true t118 t117 t119 t120 _ A20.out).mono ?_); rintro e w24 ⟨rfl, hb⟩; refine ⟨_, rfl, ?_⟩; have n0_ := Aside0.mk (kM (g := gb112) (o := .cells #[.int .u64 t109, .int .u64 t110] 170 (0, 0)) (by (with_reducible repeat (first | refine kE ?_ _ | refine kH ?_ | refine kF ?_ _)); refine blk_put (cs := #[.int .u64 t109, .int .u64 0]) ?_ 1 _ rfl; (with_reducible repeat (first | refine kE ?_ _ | refine kH ?_ | refine kF ?_ _)); refine blk_put (cs := #[.int .u64 0, .int .u64 0]) ?_ 0 _ rfl; (with_reducible repeat (first | refine kE ?_ _ | refine kH ?_ | refine kF ?_ _)); exact BK112.out) hb); have n1_ := Aside0.mk (kJ (by repeat (first | (with_reducible first | exact HB.out | apply kB | apply kA | apply kC | refine kD ?_ GE112.out) | exact HB.out)) hb); clear BK112; clear HB; have BK112 := n0_; have HB := n1_; clear n0_ n1_; (try clear hb); (try clear hb2); (try clear hk); (try clear hi)))
              go_ret2
              exact ⟨by first | rfl | (simp [errW_none, errW_some] <;> rfl) | (simp [*, errW_none, errW_some] <;> rfl), by repeat (first | (with_reducible first | exact HB.out | apply kB | apply kA | apply kC | refine kD ?_ GE112.out) | exact HB.out)⟩
      · have s2b : decide (a2 < 0) = false := decide_eq_false s2
        clear s2
        rw [s0b, s1b, s2b, show (((false != false) != false)) = false from rfl] at H
        by_cases c4 : a2 = 0
        · rw [if_pos c4] at H
          have c4b0 : (a2 == 0) = true := beq_iff_eq.mpr c4
          have c4b1 : (a2 != 0) = false := bne_eq_false_iff_eq.mpr c4
          clear c4
          simp only [Option.some.injEq, Prod.mk.injEq] at H
          obtain ⟨rfl, rfl⟩ := H
          go_enter Tryz.func128, Tryz.ntmps128
          go_wp2
          go_ret2
          exact ⟨by first | rfl | (simp [errW_none, errW_some] <;> rfl) | (simp [*, errW_none, errW_some] <;> rfl), by repeat (first | (with_reducible first | exact HB.out | apply kB | apply kA | apply kC) | exact HB.out)⟩
        · rw [if_neg c4] at H
          have c4b0 : (a2 == 0) = false := beq_eq_false_iff_ne.mpr c4
          have c4b1 : (a2 != 0) = true := bne_iff_ne.mpr c4
          replace H := Option.bind_eq_some_iff.mp H
          obtain ⟨⟨t109, t110⟩, A50, H⟩ := H
          replace H : ((num_size.f a2).bind fun t111 => (if t109 ≥ t111 then (some (0, 10)) else ((bits_Div64.f k t109 t110 t111).bind fun bt113 => (if (false = true) then (if bt113.2 = 0 then ((num_signed.f k false 0 bt113.1).bind fun bt115 => (some (bt115.1, bt115.2))) else ((bits_Add64.f bt113.1 1 0).bind fun bt117 => ((num_signed.f k true bt117.2 bt117.1).bind fun bt119 => (some (bt119.1, bt119.2))))) else ((num_signed.f k false 0 bt113.1).bind fun bt121 => (some (bt121.1, bt121.2))))))) = some (r1, r2) := H
          have A5 := Aside0.mk A50
          clear A50
          replace H := Option.bind_eq_some_iff.mp H
          obtain ⟨t111, A60, H⟩ := H
          replace H : (if t109 ≥ t111 then (some (0, 10)) else ((bits_Div64.f k t109 t110 t111).bind fun bt113 => (if (false = true) then (if bt113.2 = 0 then ((num_signed.f k false 0 bt113.1).bind fun bt115 => (some (bt115.1, bt115.2))) else ((bits_Add64.f bt113.1 1 0).bind fun bt117 => ((num_signed.f k true bt117.2 bt117.1).bind fun bt119 => (some (bt119.1, bt119.2))))) else ((num_signed.f k false 0 bt113.1).bind fun bt121 => (some (bt121.1, bt121.2)))))) = some (r1, r2) := H
          have A6 := Aside0.mk A60
          clear A60
          by_cases c7 : t109 ≥ t111
          · rw [if_pos c7] at H
            have c7b0 : decide (t111 ≤ t109) = true := decide_eq_true c7
            clear c7
            simp only [Option.some.injEq, Prod.mk.injEq] at H
            obtain ⟨rfl, rfl⟩ := H
            go_enter Tryz.func128, Tryz.ntmps128
            go_wp2_with (first | ((with_reducible refine kK (f := 134) rfl ?_); refine kN (some 19) rfl rfl Tryz.func134 (by kernel_rfl) rfl #[.int .i64 a0, .int .i64 a1] rfl (by (try simp only [List.map_toArray, List.map_cons, List.map_nil]); first | done | rfl | (simp only [List.length_drop, List.length_take]; rfl)) ?_; (with_reducible refine (num_product.calls a0 a1 t109 t110 _ A5.out).mono ?_); rintro e w8 ⟨rfl, hb⟩; refine ⟨_, rfl, ?_⟩; have n0_ := Aside0.mk (kJ (by repeat (first | (with_reducible first | exact HB.out | apply kB | apply kA | apply kC) | exact HB.out)) hb); clear HB; have HB := n0_; clear n0_; (try clear hb); (try clear hb2); (try clear hk); (try clear hi)) | ((with_reducible refine kK (f := 175) rfl ?_); refine kN (some 21) rfl rfl Tryz.func175 (by kernel_rfl) rfl #[.int .i64 a2] rfl (by (try simp only [List.map_toArray, List.map_cons, List.map_nil]); first | done | rfl | (simp only [List.length_drop, List.length_take]; rfl)) ?_; (with_reducible refine (num_size.calls a2 t111 _ A6.out).mono ?_); rintro e w' ⟨rfl, ⟨nd, rfl⟩⟩; refine ⟨_, rfl, ?_⟩; (try (rw [drewN_self w8]; generalize hq_ : World.drewN w8 _ = w8; have n0_ : Aside0 (Below w.heap.size w w8) := ⟨by rw [← hq_]; exact (by repeat (first | (with_reducible first | exact HB.out | apply kB | apply kA | apply kC) | exact HB.out))⟩; clear HB hq_; have HB := n0_; clear n0_))) | ((with_reducible refine gate_dst (N := 8) rfl ?_); refine kO ?hg (N := 8) ?hd (cs := #[.int .u64 0, .int .u64 0]) (t := 170) ?hr ?_; (case hd => rfl); (case hg => rfl); (case hr => first | (go_simp; done) | (go_simp; rfl)); intro gb112 hg w9 hbox hb; have n0_ := Aside0.mk (kJ (by repeat (first | (with_reducible first | exact HB.out | apply kB | apply kA | apply kC) | exact HB.out)) hb); have n1_ := Aside0.mk (hbox); have n2_ := Aside0.mk ((by rw [hg]; exact (kL (by repeat (first | (with_reducible first | exact HB.out | apply kB | apply kA | apply kC) | exact HB.out))) : w.heap.size ≤ gb112)); have n3_ := Aside0.mk ((by rw [hg]; exact (kL (by repeat (first | (with_reducible first | exact HB.out | apply kB | apply kA | apply kC) | exact HB.out))) : w.heap.size ≤ gb112)); clear HB; have HB := n0_; have BK112 := n1_; have GW112 := n2_; have GE112 := n3_; clear n0_ n1_ n2_ n3_; clear hb hbox hg; have hcz10_0 : w9.cell? ⟨gb112, 0, none⟩ = some (.int .u64 0) := (kI BK112.out 0).trans rfl; have hcz10_1 : w9.cell? ⟨gb112, 1, none⟩ = some (.int .u64 0) := (kI BK112.out 1).trans rfl; have hfz10_0 := kG BK112.out 0; have hfz10_1 := kG BK112.out 1))
            go_ret2
            exact ⟨by first | rfl | (simp [errW_none, errW_some] <;> rfl) | (simp [*, errW_none, errW_some] <;> rfl), by repeat (first | (with_reducible first | exact HB.out | apply kB | apply kA | apply kC | refine kD ?_ GE112.out) | exact HB.out)⟩
          · rw [if_neg c7] at H
            have c7b0 : decide (t111 ≤ t109) = false := decide_eq_false c7
            clear c7
            replace H := Option.bind_eq_some_iff.mp H
            obtain ⟨⟨t113, t114⟩, A110, H⟩ := H
            replace H : (if (false = true) then (if t114 = 0 then ((num_signed.f k false 0 t113).bind fun bt115 => (some (bt115.1, bt115.2))) else ((bits_Add64.f t113 1 0).bind fun bt117 => ((num_signed.f k true bt117.2 bt117.1).bind fun bt119 => (some (bt119.1, bt119.2))))) else ((num_signed.f k false 0 t113).bind fun bt121 => (some (bt121.1, bt121.2)))) = some (r1, r2) := H
            have A11 := Aside0.mk A110
            clear A110
            rw [if_neg (by decide)] at H
            replace H := Option.bind_eq_some_iff.mp H
            obtain ⟨⟨t121, t122⟩, A250, H⟩ := H
            replace H : (some (t121, t122)) = some (r1, r2) := H
            have A25 := Aside0.mk A250
            clear A250
            simp only [Option.some.injEq, Prod.mk.injEq] at H
            obtain ⟨rfl, rfl⟩ := H
            go_enter Tryz.func128, Tryz.ntmps128
            go_wp2_with (first | ((with_reducible refine kK (f := 134) rfl ?_); refine kN (some 19) rfl rfl Tryz.func134 (by kernel_rfl) rfl #[.int .i64 a0, .int .i64 a1] rfl (by (try simp only [List.map_toArray, List.map_cons, List.map_nil]); first | done | rfl | (simp only [List.length_drop, List.length_take]; rfl)) ?_; (with_reducible refine (num_product.calls a0 a1 t109 t110 _ A5.out).mono ?_); rintro e w26 ⟨rfl, hb⟩; refine ⟨_, rfl, ?_⟩; have n0_ := Aside0.mk (kJ (by repeat (first | (with_reducible first | exact HB.out | apply kB | apply kA | apply kC) | exact HB.out)) hb); clear HB; have HB := n0_; clear n0_; (try clear hb); (try clear hb2); (try clear hk); (try clear hi)) | ((with_reducible refine kK (f := 175) rfl ?_); refine kN (some 21) rfl rfl Tryz.func175 (by kernel_rfl) rfl #[.int .i64 a2] rfl (by (try simp only [List.map_toArray, List.map_cons, List.map_nil]); first | done | rfl | (simp only [List.length_drop, List.length_take]; rfl)) ?_; (with_reducible refine (num_size.calls a2 t111 _ A6.out).mono ?_); rintro e w' ⟨rfl, ⟨nd, rfl⟩⟩; refine ⟨_, rfl, ?_⟩; (try (rw [drewN_self w26]; generalize hq_ : World.drewN w26 _ = w26; have n0_ : Aside0 (Below w.heap.size w w26) := ⟨by rw [← hq_]; exact (by repeat (first | (with_reducible first | exact HB.out | apply kB | apply kA | apply kC) | exact HB.out))⟩; clear HB hq_; have HB := n0_; clear n0_))) | ((with_reducible refine gate_dst (N := 8) rfl ?_); refine kO ?hg (N := 8) ?hd (cs := #[.int .u64 0, .int .u64 0]) (t := 170) ?hr ?_; (case hd => rfl); (case hg => rfl); (case hr => first | (go_simp; done) | (go_simp; rfl)); intro gb112 hg w27 hbox hb; have n0_ := Aside0.mk (kJ (by repeat (first | (with_reducible first | exact HB.out | apply kB | apply kA | apply kC) | exact HB.out)) hb); have n1_ := Aside0.mk (hbox); have n2_ := Aside0.mk ((by rw [hg]; exact (kL (by repeat (first | (with_reducible first | exact HB.out | apply kB | apply kA | apply kC) | exact HB.out))) : w.heap.size ≤ gb112)); have n3_ := Aside0.mk ((by rw [hg]; exact (kL (by repeat (first | (with_reducible first | exact HB.out | apply kB | apply kA | apply kC) | exact HB.out))) : w.heap.size ≤ gb112)); clear HB; have HB := n0_; have BK112 := n1_; have GW112 := n2_; have GE112 := n3_; clear n0_ n1_ n2_ n3_; clear hb hbox hg; have hcz28_0 : w27.cell? ⟨gb112, 0, none⟩ = some (.int .u64 0) := (kI BK112.out 0).trans rfl; have hcz28_1 : w27.cell? ⟨gb112, 1, none⟩ = some (.int .u64 0) := (kI BK112.out 1).trans rfl; have hfz28_0 := kG BK112.out 0; have hfz28_1 := kG BK112.out 1) | ((with_reducible refine kK (f := 176) rfl ?_); refine kN (some 40) rfl rfl Tryz.func176 (by kernel_rfl) rfl #[.int .u64 t109, .int .u64 t110, .int .u64 t111] rfl (by (try simp only [List.map_toArray, List.map_cons, List.map_nil]); first | done | rfl | (simp only [List.length_drop, List.length_take]; rfl)) ?_; (with_reducible refine (bits_Div64.calls k t109 t110 t111 t113 t114 _ A11.out).mono ?_); rintro e w' ⟨rfl, ⟨nd, rfl⟩⟩; refine ⟨_, rfl, ?_⟩) | ((with_reducible refine kK (f := 133) rfl ?_); refine kN (some 52) rfl rfl Tryz.func133 (by kernel_rfl) rfl #[.bool false, .agg #[.int .u64 0, .int .u64 t113]] rfl (by (try simp only [List.map_toArray, List.map_cons, List.map_nil]); first | done | rfl | (simp only [List.length_drop, List.length_take]; rfl)) ?_; (with_reducible refine (num_signed.calls k false 0 t113 t121 t122 _ A25.out).mono ?_); rintro e w29 ⟨rfl, hb⟩; refine ⟨_, rfl, ?_⟩; have n0_ := Aside0.mk (kM (g := gb112) (o := .cells #[.int .u64 t109, .int .u64 t110] 170 (0, 0)) (by (with_reducible repeat (first | refine kE ?_ _ | refine kH ?_ | refine kF ?_ _)); refine blk_put (cs := #[.int .u64 t109, .int .u64 0]) ?_ 1 _ rfl; (with_reducible repeat (first | refine kE ?_ _ | refine kH ?_ | refine kF ?_ _)); refine blk_put (cs := #[.int .u64 0, .int .u64 0]) ?_ 0 _ rfl; (with_reducible repeat (first | refine kE ?_ _ | refine kH ?_ | refine kF ?_ _)); exact BK112.out) hb); have n1_ := Aside0.mk (kJ (by repeat (first | (with_reducible first | exact HB.out | apply kB | apply kA | apply kC | refine kD ?_ GE112.out) | exact HB.out)) hb); clear BK112; clear HB; have BK112 := n0_; have HB := n1_; clear n0_ n1_; (try clear hb); (try clear hb2); (try clear hk); (try clear hi)))
            go_ret2
            exact ⟨by first | rfl | (simp [errW_none, errW_some] <;> rfl) | (simp [*, errW_none, errW_some] <;> rfl), by repeat (first | (with_reducible first | exact HB.out | apply kB | apply kA | apply kC | refine kD ?_ GE112.out) | exact HB.out)⟩
end Go.Proofs.YthkmckmfgglafaaGreat.P
