import Derived.Test.YtimgphlfaninnaaGreatQofbcfccnhe
import Derived.Test.YtimgphlfaninnaaGreatQmijinmgaeg
import Derived.Test.YtimgphlfaninnaaGreatQbmfdphchjn
import Derived.Test.YtimgphlfaninnaaGreatQpahojkofpm
import Derived.Test.YtimgphlfaninnaaGreatQidpdokpcpl
import Derived.Test.YtimgphlfaninnaaGreatQbkcbjjglff
import Derived.Lib.SmallJoins
import Derived.SizedLaws
import Derived.Test.YtimgphlfaninnaaGreatQmomgakiiln
namespace Go.Proofs.YtimgphlfaninnaaGreat.Civ
set_option linter.unusedVariables false
set_option linter.unusedSimpArgs false
open Go.RowKit Go.Proofs.YtimgphlfaninnaaGreatW.PrintWords Go.Proofs.YtimgphlfaninnaaGreatW.PrintLast Go.Proofs.YtimgphlfaninnaaGreatW.PrintMore Go.Proofs.YtimgphlfaninnaaGreat.P
def DIn (n : Int) : Prop := -2451507 ≤ n ∧ n ≤ 106751982
instance (n : Int) : Decidable (DIn n) := inferInstanceAs (Decidable (_ ∧ _))
theorem dby_lo : dby (-4712) = -2451507 := by decide
theorem dby_hi : dby 294277 = 106751983 := by decide
theorem din_year {n y m d : Int} (h : IsDate n y m d) : (-4712 ≤ y ∧ y ≤ 294276) ↔ DIn n := by
 have g := h.year
 have a := dby_lo
 have b := dby_hi
 unfold DIn
 constructor
 · intro f
   have p := dby_far (-4712) y (by omega)
   have q := dby_far (y + 1) 294277 (by omega)
   omega
 · intro f
   constructor
   · rcases Int.lt_or_le y (-4712) with z | z
     · have p := dby_far (y + 1) (-4712) (by omega)
       omega
     · exact z
   · rcases Int.lt_or_le 294276 y with z | z
     · have p := dby_far 294277 y (by omega)
       omega
     · exact z
theorem din_can {n : Int} (h : DIn n) : CanDay n := by unfold DIn at h; unfold CanDay; omega
theorem din_i64 {n : Int} (h : DIn n) : I64 n := by unfold DIn at h; unfold I64; omega
theorem inside_eq (n : Int) : bS.f n = some (decide (DIn n)) := by
 unfold bS.f
 by_cases hc : CanDay n
 · obtain ⟨y, m, d, h⟩ := date_of n
   rw [date_eq h hc]
   have e := din_year h
   simp only [Option.bind_some, if_true]
   by_cases g : y ≥ -4712
   · rw [if_pos g]; congr 1; apply decide_eq_decide.2; rw [← e]; omega
   · rw [if_neg g, decide_eq_false]; rw [← e]; omega
 · rw [date_no hc]
   simp only [Option.bind_some]
   rw [if_neg (by decide), decide_eq_false (fun f => hc (din_can f))]
theorem rinside_ev (n : Int) : Ev (fun k => computusref15_inside.f k n) (decide (DIn n)) := by
 unfold computusref15_inside.f
 by_cases hc : CanDay n
 · obtain ⟨y, m, d, h⟩ := date_of n
   have e := din_year h
   refine Ev.bind (rdate_ev h hc) ?_
   refine Ev.pos rfl ?_
   by_cases g : y ≥ -4712
   · refine Ev.pos g (Ev.cast (Ev.now _) ?_)
     apply decide_eq_decide.2; rw [← e]; show y ≤ 294276 ↔ _; omega
   · refine Ev.neg g (Ev.cast (Ev.now _) ?_)
     rw [decide_eq_false]; rw [← e]; omega
 · refine Ev.bind (rdate_no hc) ?_
   refine Ev.neg (by decide) (Ev.cast (Ev.now _) ?_)
   rw [decide_eq_false (fun f => hc (din_can f))]
def made (n : Int) : Int × Int × Int := if DIn n then (0, n, 0) else (0, 0, 10)
def madeE (n e : Int) : Int × Int × Int := if e = 0 then made n else (0, 0, 10)
theorem finite_eq (n e : Int) : bR.f n e = some (madeE n e) := by
 unfold bR.f madeE made
 by_cases h : e = 0
 · rw [if_pos h, if_pos h, inside_eq]
   simp only [Option.bind_some, decide_eq_true_eq]
   split <;> rfl
 · rw [if_neg h, if_neg h]
theorem rmade_ev (n e : Int) : Ev (fun k => computusref15_made.f k n e) (madeE n e) := by
 unfold computusref15_made.f madeE made
 by_cases h : e = 0
 · rw [if_pos h]
   refine Ev.pos h (Ev.bind (rinside_ev n) ?_)
   by_cases g : DIn n
   · rw [if_pos g]; exact Ev.pos (decide_eq_true g) (Ev.now _)
   · rw [if_neg g]; exact Ev.neg (by rw [decide_eq_false g]; simp) (Ev.now _)
 · refine Ev.neg h ?_; rw [if_neg h]; exact Ev.now _
theorem madeE_out (z : Int) : madeE (out z).1 (out z).2 = made z := by
 by_cases h : I64 z
 · rw [out_in h]; rfl
 · rw [out_no h]
   unfold madeE made
   rw [if_neg (by decide), if_neg (fun f => h (din_i64 f))]
def DR (i n : Int) : Prop := (i = 0 ∧ DIn n) ∨ ((i = -1 ∨ i = 1) ∧ n = 0)
instance (i n : Int) : Decidable (DR i n) := inferInstanceAs (Decidable (_ ∨ _))
theorem dr_fin {n : Int} : DR 0 n ↔ DIn n := by unfold DR DIn; omega
theorem dright_eq (i n : Int) : bX.f i n = some (decide (DR i n)) := by
 unfold bX.f
 simp only [Bool.and_eq_true, beq_iff_eq]
 by_cases h1 : i = -1 ∧ n = 0
 · rw [if_pos h1, decide_eq_true (show DR i n from .inr ⟨.inl h1.1, h1.2⟩)]
 · rw [if_neg h1]
   by_cases h2 : i = 1 ∧ n = 0
   · rw [if_pos h2, decide_eq_true (show DR i n from .inr ⟨.inr h2.1, h2.2⟩)]
   · rw [if_neg h2]
     by_cases h3 : i = 0
     · subst h3
       rw [if_pos rfl, inside_eq]
       simp only [Option.bind_some]
       congr 1; exact decide_eq_decide.2 dr_fin.symm
     · rw [if_neg h3, decide_eq_false (show ¬ DR i n by unfold DR; omega)]
theorem rdright_ev (i n : Int) : Ev (fun k => computusref15_Right.f k i n) (decide (DR i n)) := by
 unfold computusref15_Right.f
 have e : (n == 0) = decide (n = 0) := rfl
 by_cases h : i = 0
 · subst h
   refine Ev.pos rfl (Ev.bind (rinside_ev n) (Ev.cast (Ev.now _) ?_))
   exact decide_eq_decide.2 dr_fin.symm
 · refine Ev.neg h ?_
   by_cases h1 : i = -1
   · refine Ev.pos h1 (Ev.cast (Ev.now _) ?_)
     rw [e]; apply decide_eq_decide.2; unfold DR; omega
   · refine Ev.neg h1 ?_
     by_cases h2 : i = 1
     · refine Ev.pos h2 (Ev.cast (Ev.now _) ?_)
       rw [e]; apply decide_eq_decide.2; unfold DR; omega
     · refine Ev.neg h2 (Ev.cast (Ev.now _) ?_)
       rw [decide_eq_false (show ¬ DR i n by unfold DR; omega)]
def addD (i n q : Int) : Int × Int × Int := if DR i n then (if i = 0 then made (n + q) else (i, n, 0)) else (0, 0, 1)
theorem dr_i64 {i n : Int} (h : DR i n) : I64 n := by unfold DR DIn at h; unfold I64; omega
theorem addD_eq (i n q : Int) (hq : I64 q) : jO.f i n q = some (addD i n q) := by
 unfold jO.f bB.f addD
 rw [dright_eq]
 by_cases h : DR i n
 · rw [decide_eq_true h, if_pos h]
   simp only [Option.bind_some, if_true]
   by_cases g : i = 0
   · rw [if_pos g, if_pos g, add_eq n q (dr_i64 h) hq]
     simp only [Option.bind_some]
     rw [finite_eq, madeE_out]
     rfl
   · rw [if_neg g, if_neg g]; rfl
 · rw [decide_eq_false h, if_neg h]; rfl
def DRS (i u : Int) : Prop := (i = 0 ∧ DIn (u / 86400000000)) ∨ ((i = -1 ∨ i = 1) ∧ u = 0)
instance (i u : Int) : Decidable (DRS i u) := inferInstanceAs (Decidable (_ ∨ _))
theorem drs_fin {u : Int} : DRS 0 u ↔ DIn (u / 86400000000) := by unfold DRS DIn; omega
theorem drightS_ev (i u : Int) (hu : I64 u) : Ev (fun k => kI.f k i u) (decide (DRS i u)) := by
 unfold kI.f
 refine Ev.bind (Ev.at1 fun k => split_eq k u hu) ?_
 simp only [Bool.and_eq_true, beq_iff_eq]
 by_cases h1 : i = -1 ∧ u = 0
 · exact Ev.pos h1 (Ev.cast (Ev.now _) (decide_eq_true (show DRS i u from .inr ⟨.inl h1.1, h1.2⟩)).symm)
 · refine Ev.neg h1 ?_
   by_cases h2 : i = 1 ∧ u = 0
   · exact Ev.pos h2 (Ev.cast (Ev.now _) (decide_eq_true (show DRS i u from .inr ⟨.inr h2.1, h2.2⟩)).symm)
   · refine Ev.neg h2 ?_
     by_cases h3 : i = 0
     · subst h3
       refine Ev.pos rfl (Ev.bind0 (inside_eq _) (Ev.cast (Ev.now _) ?_))
       exact decide_eq_decide.2 drs_fin.symm
     · refine Ev.neg h3 (Ev.cast (Ev.now _) ?_)
       rw [decide_eq_false (show ¬ DRS i u by unfold DRS; omega)]
def ofD (i u : Int) : Int × Int × Int × Int := if DRS i u then (if i = 0 then (0, u / 86400000000, u % 86400000000, 0) else (i, 0, 0, 0)) else (0, 0, 0, 1)
theorem ofD_ev (i u : Int) (hu : I64 u) : Ev (fun k => jH.f k i u) (ofD i u) := by
 unfold jH.f ofD
 refine Ev.bind (drightS_ev i u hu) ?_
 by_cases h : DRS i u
 · rw [if_pos h]
   refine Ev.pos (decide_eq_true h) ?_
   by_cases g : i = 0
   · refine Ev.pos g ?_; rw [if_pos g]; exact Ev.bind (Ev.at1 fun k => split_eq k u hu) (Ev.now _)
   · refine Ev.neg g ?_; rw [if_neg g]; exact Ev.now _
 · rw [if_neg h]
   exact Ev.neg (by rw [decide_eq_false h]; simp) (Ev.now _)
def stampD (i n t : Int) : Int × Int × Int :=
 if DR i n ∧ 0 ≤ t ∧ t ≤ 86400000000 then (if i = 0 then (if DIn ((n * 86400000000 + t) / 86400000000) then (0, n * 86400000000 + t, 0) else (0, 0, 10)) else (i, 0, 0)) else (0, 0, 1)
theorem stampD_j0 (i n t : Int) (h : DR i n ∧ 0 ≤ t ∧ t ≤ 86400000000) : Ev (fun k => kM.j0 k t false i n) (stampD i n t) := by
 obtain ⟨h, h0, h1⟩ := h
 unfold stampD
 rw [if_pos ⟨h, h0, h1⟩]
 refine Ev.succ ?_
 simp only [kM.j0, Bool.false_eq_true, if_false]
 by_cases g : i = 0
 · rw [if_pos g]
   have hn : DIn n := by subst g; exact dr_fin.1 h
   have b : -211810204800000000 ≤ n * 86400000000 ∧ n * 86400000000 ≤ 9223371244800000000 := by unfold DIn at hn; omega
   refine Ev.pos g (Ev.bind (Ev.at1 fun k => mul_eq k n 86400000000 (din_i64 hn) (by unfold I64; omega)) ?_)
   rw [out_in (z := n * 86400000000) (by unfold I64; omega)]
   refine Ev.pos rfl (Ev.bind0 (add_eq _ t (by unfold I64; omega) (by unfold I64; omega)) ?_)
   rw [out_in (z := n * 86400000000 + t) (by unfold I64; omega)]
   refine Ev.pos rfl (Ev.bind (drightS_ev 0 _ (by unfold I64; omega)) ?_)
   by_cases z : DIn ((n * 86400000000 + t) / 86400000000)
   · rw [if_pos z]
     exact Ev.pos (decide_eq_true (.inl ⟨rfl, z⟩)) (Ev.now _)
   · rw [if_neg z]
     refine Ev.neg ?_ (Ev.now _)
     rw [decide_eq_false]
     · simp
     · intro f
       rcases f with f | f
       · exact z f.2
       · omega
 · refine Ev.neg g ?_
   rw [if_neg g]
   exact Ev.now _
theorem stampD_ev (i n t : Int) : Ev (fun k => kM.f k i n t) (stampD i n t) := by
 unfold kM.f
 refine Ev.bind0 (dright_eq i n) ?_
 have no : ¬ (DR i n ∧ 0 ≤ t ∧ t ≤ 86400000000) → Ev (fun k => kM.j0 k t true i n) (stampD i n t) := by
  intro f
  unfold stampD
  rw [if_neg f]
  refine Ev.succ ?_
  simp only [kM.j0, if_true]
  exact Ev.now _
 by_cases h : DR i n
 · refine Ev.pos (decide_eq_true h) ?_
   by_cases h0 : t < 0
   · exact Ev.pos h0 (no (by omega))
   · refine Ev.neg h0 ?_
     by_cases h1 : t > 86400000000
     · rw [decide_eq_true h1]; exact no (by omega)
     · rw [decide_eq_false h1]; exact stampD_j0 i n t ⟨h, by omega, by omega⟩
 · exact Ev.neg (by rw [decide_eq_false h]; simp) (no (fun f => h f.1))
end Go.Proofs.YtimgphlfaninnaaGreat.Civ
namespace Go.Proofs.YtimgphlfaninnaaGreat.P
open Go.RowKit Go.Proofs.YtimgphlfaninnaaGreatW.PrintWords Go.Proofs.YtimgphlfaninnaaGreatW.PrintLast Go.Proofs.YtimgphlfaninnaaGreatW.PrintMore
 attribute [local go_sem] bF bD bL bM kY kZ bC bE
set_option linter.unusedVariables false
set_option linter.unusedSimpArgs false
theorem eqA59 (d : Nat) (w : World) (x0 y0 : Int) (x1 y1 : Int) (x2 y2 : Int) (x3 y3 : Int) :
 (Op.equalIn (d + 2) 59 (.agg #[.int .i64 x0, .int .i64 x1, .int .i64 x2, .int .i64 x3]) (.agg #[.int .i64 y0, .int .i64 y1, .int .i64 y2, .int .i64 y3])).run Tryz.prog w = .ok (x0 == y0 && (x1 == y1 && (x2 == y2 && (x3 == y3)))) w := by
 refine eqA_of Tryz.underlying59 (by kernel_rfl) ?_
 refine eqf_cons (by rfl) (by go_simp; rfl) (by go_simp; rfl) (by go_simp) ?_
 refine eqf_cons (by rfl) (by go_simp; rfl) (by go_simp; rfl) (by go_simp) ?_
 refine eqf_cons (by rfl) (by go_simp; rfl) (by go_simp; rfl) (by go_simp) ?_
 exact eqf_last (by rfl) (by go_simp; rfl) (by go_simp; rfl) (by go_simp)
end Go.Proofs.YtimgphlfaninnaaGreat.P
namespace Go.Proofs.YtimgphlfaninnaaGreat.P
open Go.RowKit Go.Proofs.YtimgphlfaninnaaGreatW.PrintWords Go.Proofs.YtimgphlfaninnaaGreatW.PrintLast Go.Proofs.YtimgphlfaninnaaGreatW.PrintMore
open Go.Proofs.YtimgphlfaninnaaGreat.A
 attribute [local go_sem] bF bD bL bM kY kZ bC bE
set_option linter.unusedVariables false
set_option linter.unusedSimpArgs false
attribute [local go_sem high] eqA59
def jF.f (a0 : Int) : Option (Bool) := if a0 ≥ (-2147483647) then (some (decide (a0 ≤ 2147483647))) else (some false)
set_option maxHeartbeats 8000000 in
set_option maxRecDepth 100000 in
theorem jF.calls (a0 : Int) (r : Bool) (w : World) (h : jF.f a0 = some r) :
 Calls Tryz.prog 66 #[.int .i64 a0] w fun e w' => e = .returned (.bool r) ∧ Drawn0 w w' := by
 have H : (if a0 ≥ (-2147483647) then (some (decide (a0 ≤ 2147483647))) else (some false)) = some r := h
 clear h
 by_cases c2 : a0 ≥ (-2147483647)
 · rw [if_pos c2] at H
   have c2b0 : decide ((-2147483647) ≤ a0) = true := decide_eq_true c2
   clear c2
   obtain rfl := Option.some.inj H
   go_enter Tryz.func66, Tryz.ntmps66
   go_wp2
   go_ret
   exact ⟨by first | rfl | (simp; done) | (simp [*]; done), by repeat (first | exact Drawn0.refl _ | apply Drawn0.step)⟩
 · rw [if_neg c2] at H
   have c2b0 : decide ((-2147483647) ≤ a0) = false := decide_eq_false c2
   clear c2
   obtain rfl := Option.some.inj H
   go_enter Tryz.func66, Tryz.ntmps66
   go_wp2
   go_ret
   exact ⟨by first | rfl | (simp; done) | (simp [*]; done), by repeat (first | exact Drawn0.refl _ | apply Drawn0.step)⟩
noncomputable def jF.con : Con
 | [.int .i64 a0] => some ((jF.f a0).isSome, .bool (gd (jF.f a0)))
 | _ => none
set_option maxRecDepth 100000 in
theorem jF.cok : COk Tryz.prog 66 (jF.con) := by
 intro args p v hc hp w A hA
 unfold jF.con at hc
 split at hc
 · rename_i a0
   simp only [Option.some.injEq, Prod.mk.injEq] at hc
   obtain ⟨rfl, rfl⟩ := hc
   rcases hf : jF.f a0 with _ | r
   · rw [hf] at hp; cases hp
   obtain rfl : A = [.int .i64 a0] := by simpa [kF, kJ, kK, kO, kW, kV, jS] using hA
   exact kH (fn := Tryz.f66) Tryz.func66 (by kernel_rfl) (by kernel_rfl) (jF.calls _ _ w hf) (fun _ => by simp [kG, kF, kJ, kK, kO, kW, kV, bI]) (fun _ h => h.below)
 · cases hc
def span_Right.f (a0_0 : Int) (a0_1 : Int) (a0_2 : Int) (a0_3 : Int) : Option (Bool) := if a0_0 = 0 then ((num_Neg.f a0_3).bind fun bt756 => ((jF.f a0_1).bind fun t758 => (if t758 = true then ((jF.f a0_2).bind fun t759 => (if t759 = true then (some (bt756.2 == 0)) else (some false))) else (some false)))) else (if (a0_1 == 0 && (a0_2 == 0 && (a0_3 == 0))) = true then (if a0_0 ≥ (-1) then (some (decide (a0_0 ≤ 1))) else (some false)) else (some false))
set_option maxRecDepth 100000 in
theorem span_Right.vc (a0_0 : Int) (a0_1 : Int) (a0_2 : Int) (a0_3 : Int) (K : AV → Prop) : afv PA Tryz.prog (tab [(65, num_Neg.con), (66, jF.con)]) noLoops 2 27 [.agg [.int .i64 a0_0, .int .i64 a0_1, .int .i64 a0_2, .int .i64 a0_3]] K = (brc (a0_0 != 0) (brc (a0_0 == a0_0 && (a0_1 == 0 && (a0_2 == 0 && (a0_3 == 0 && true)))) (brc (decide (a0_0 ≥ -1)) (K (AV.bool (decide (a0_0 ≤ 1)))) (K (AV.bool false))) (K (AV.bool false))) (brc (Option.isSome (num_Neg.f a0_3)) (∀ (m0 : Int), m0 = Prod.fst (gd (num_Neg.f a0_3)) → ∀ (m1 : Int), m1 = Prod.snd (gd (num_Neg.f a0_3)) → brc (Option.isSome (jF.f a0_1)) (∀ (m2 : Bool), m2 = gd (jF.f a0_1) → brc m2 (brc (Option.isSome (jF.f a0_2)) (∀ (m3 : Bool), m3 = gd (jF.f a0_2) → brc m3 (K (AV.bool (m1 == 0))) (K (AV.bool false))) False) (K (AV.bool false))) False) False)) := by kernel_rfl
set_option maxHeartbeats 1000000 in
set_option maxRecDepth 100000 in
theorem span_Right.calls (a0_0 : Int) (a0_1 : Int) (a0_2 : Int) (a0_3 : Int) (r : Bool) (w : World) (h : span_Right.f a0_0 a0_1 a0_2 a0_3 = some r) :
 Calls Tryz.prog 27 #[.agg #[.int .i64 a0_0, .int .i64 a0_1, .int .i64 a0_2, .int .i64 a0_3]] w fun e w' => e = .returned (.bool r) ∧ Below w.heap.size w w' := by
 refine jG (A := [.agg #[.int .i64 a0_0, .int .i64 a0_1, .int .i64 a0_2, .int .i64 a0_3]]) (v := .bool r) (kB (num_Neg.cok) (kB (jF.cok) (bA))) ((span_Right.vc a0_0 a0_1 a0_2 a0_3 _).mpr ?_) (by simp [kF, kJ, kK, kO, kW, kV, jS]) (fun ρ V' hV => by simpa [kF, kJ, kK, kO, kW, kV, bI] using hV)
 unfold span_Right.f at h
 (try simp only [bne, Option.bind_eq_some_iff, bQ] at h)
 (try simp only [bne, jW, wrap_i64])
 first
  | grind (splits := 60) [kG]
  | ((repeat' (first | (have or_ : Or _ _ := h; clear or_; rcases h with h | h) | (have or_ : Exists _ := h; clear or_; obtain ⟨_, h⟩ := h) | (have or_ : And _ _ := h; clear or_; obtain ⟨hq_, h⟩ := h))) <;> (try simp only [Option.some.injEq, Prod.mk.injEq, reduceCtorEq] at h) <;> (try subst_vars) <;> first | (simp_all [kG] <;> (try omega) <;> rcases hb0 : decide (a0_0 ≥ -1) with _ | _ <;> rcases hb1 : decide (a0_0 ≤ 1) with _ | _ <;> simp_all [kG] <;> done) | grind (splits := 60) [kG])
  | (intros; subst_vars; simp_all [kG]; done)
end Go.Proofs.YtimgphlfaninnaaGreat.P
namespace Go.Proofs.YtimgphlfaninnaaGreat.Civ
set_option linter.unusedVariables false
set_option linter.unusedSimpArgs false
open Go.RowKit Go.Proofs.YtimgphlfaninnaaGreatW.PrintWords Go.Proofs.YtimgphlfaninnaaGreatW.PrintLast Go.Proofs.YtimgphlfaninnaaGreatW.PrintMore Go.Proofs.YtimgphlfaninnaaGreat.P
def SOk (i m d u : Int) : Prop :=
 (i = 0 ∧ -2147483647 ≤ m ∧ m ≤ 2147483647 ∧ -2147483647 ≤ d ∧ d ≤ 2147483647 ∧ -9223372036854775807 ≤ u ∧ u ≤ 9223372036854775807) ∨ ((i = -1 ∨ i = 1) ∧ m = 0 ∧ d = 0 ∧ u = 0)
instance (i m d u : Int) : Decidable (SOk i m d u) := inferInstanceAs (Decidable (_ ∨ _))
theorem within_eq (n : Int) : jF.f n = some (decide (-2147483647 ≤ n ∧ n ≤ 2147483647)) := by
 unfold jF.f
 by_cases h : n ≥ -2147483647
 · rw [if_pos h]; congr 1; apply decide_eq_decide.2; omega
 · rw [if_neg h, decide_eq_false (by omega)]
theorem zeros_iff (m d u : Int) : ((m == 0 && (d == 0 && (u == 0))) = true) ↔ (m = 0 ∧ d = 0 ∧ u = 0) := by simp
theorem sright_eq (i m d u : Int) (hu : I64 u) : span_Right.f i m d u = some (decide (SOk i m d u)) := by
 unfold span_Right.f
 by_cases h : i = 0
 · rw [if_pos h, neg_eq u hu, within_eq, within_eq]
   simp only [Option.bind_some, decide_eq_true_eq]
   have e : ((out (-u)).2 == 0) = decide (-9223372036854775807 ≤ u) := by
    unfold I64 at hu
    by_cases g : -9223372036854775807 ≤ u
    · rw [decide_eq_true g, out_in (by unfold I64; omega)]; rfl
    · rw [decide_eq_false g, out_no (by unfold I64; omega)]; rfl
   unfold I64 at hu
   by_cases h1 : -2147483647 ≤ m ∧ m ≤ 2147483647
   · rw [if_pos h1]
     by_cases h2 : -2147483647 ≤ d ∧ d ≤ 2147483647
     · rw [if_pos h2, e]; congr 1; apply decide_eq_decide.2; unfold SOk; omega
     · rw [if_neg h2, decide_eq_false (by unfold SOk; omega)]
   · rw [if_neg h1, decide_eq_false (by unfold SOk; omega)]
 · rw [if_neg h]
   by_cases h1 : m = 0 ∧ d = 0 ∧ u = 0
   · rw [if_pos ((zeros_iff m d u).2 h1)]
     by_cases h2 : i ≥ -1
     · rw [if_pos h2]; congr 1; apply decide_eq_decide.2; unfold SOk; omega
     · rw [if_neg h2, decide_eq_false (by unfold SOk; omega)]
   · rw [if_neg (fun f => h1 ((zeros_iff m d u).1 f)), decide_eq_false (by unfold SOk; omega)]
end Go.Proofs.YtimgphlfaninnaaGreat.Civ
namespace Go.Proofs.YtimgphlfaninnaaGreat.P
open Go.RowKit Go.Proofs.YtimgphlfaninnaaGreatW.PrintWords Go.Proofs.YtimgphlfaninnaaGreatW.PrintLast Go.Proofs.YtimgphlfaninnaaGreatW.PrintMore
open Go.Proofs.YtimgphlfaninnaaGreat.A
 attribute [local go_sem] bF bD bL bM kY kZ bC bE
set_option linter.unusedVariables false
set_option linter.unusedSimpArgs false
mutual
def bY.j0 : Nat → Int → Int → Bool → Int → Int → Int → Int → Int → Int → Option (Int × Int × Int)
 | 0, _, _, _, _, _, _, _, _, _ => none
 | k + 1, x7, x8, x21, x218000, x218001, x218002, x218003, x224000, x224001 => if x21 = true then ((bH.f k x224000 x224001 x218001).bind fun bt224 => (bY.j1 k x7 bt224.2.2 x218000 x218001 x218002 x218003 bt224.1 bt224.2.1)) else (bY.j1 k x7 x8 x218000 x218001 x218002 x218003 x224000 x224001)
def bY.j1 : Nat → Int → Int → Int → Int → Int → Int → Int → Int → Option (Int × Int × Int)
 | 0, _, _, _, _, _, _, _, _ => none
 | k + 1, x7, x8, x218000, x218001, x218002, x218003, x224000, x224001 => if x8 = 0 then ((jO.f x224000 x224001 x218002).bind fun bt227 => (if bt227.2.2 = 0 then ((kM.f k bt227.1 bt227.2.1 x7).bind fun bt230 => (some (bt230.1, bt230.2.1, bt230.2.2))) else (some (0, 0, bt227.2.2)))) else (some (0, 0, x8))
end
def bY.f (k : Nat) (a0_0 : Int) (a0_1 : Int) (a1_0 : Int) (a1_1 : Int) (a1_2 : Int) (a1_3 : Int) : Option (Int × Int × Int) := (jH.f k a0_0 a0_1).bind fun bt219 => (if a1_1 = 0 then (bY.j0 k bt219.2.2.1 bt219.2.2.2 false a1_0 a1_1 a1_2 a1_3 bt219.1 bt219.2.1) else (bY.j0 k bt219.2.2.1 bt219.2.2.2 (bt219.2.2.2 == 0) a1_0 a1_1 a1_2 a1_3 bt219.1 bt219.2.1))
set_option maxRecDepth 100000 in
theorem bY.vc (k : Nat) (a0_0 : Int) (a0_1 : Int) (a1_0 : Int) (a1_1 : Int) (a1_2 : Int) (a1_3 : Int) (K : AV → Prop) : afv PA Tryz.prog (tab [(83, jH.con k), (84, bH.con k), (85, jO.con), (86, kM.con k)]) noLoops 2 44 [.agg [.int .i64 a0_0, .int .i64 a0_1], .agg [.int .i64 a1_0, .int .i64 a1_1, .int .i64 a1_2, .int .i64 a1_3]] K = (brc (Option.isSome (jH.f k a0_0 a0_1)) (∀ (m0 : Int), m0 = Prod.fst (gd (jH.f k a0_0 a0_1)) → ∀ (m1 : Int), m1 = Prod.fst (Prod.snd (gd (jH.f k a0_0 a0_1))) → ∀ (m2 : Int), m2 = Prod.fst (Prod.snd (Prod.snd (gd (jH.f k a0_0 a0_1)))) → ∀ (m3 : Int), m3 = Prod.snd (Prod.snd (Prod.snd (gd (jH.f k a0_0 a0_1)))) → brc (a1_1 != 0) (brc (m3 == 0) (brc (Option.isSome (bH.f k m0 m1 a1_1)) (∀ (m4 : Int), m4 = Prod.fst (gd (bH.f k m0 m1 a1_1)) → ∀ (m5 : Int), m5 = Prod.fst (Prod.snd (gd (bH.f k m0 m1 a1_1))) → ∀ (m6 : Int), m6 = Prod.snd (Prod.snd (gd (bH.f k m0 m1 a1_1))) → brc (m6 == 0) (brc (Option.isSome (jO.f m4 m5 a1_2)) (∀ (m7 : Int), m7 = Prod.fst (gd (jO.f m4 m5 a1_2)) → ∀ (m8 : Int), m8 = Prod.fst (Prod.snd (gd (jO.f m4 m5 a1_2))) → ∀ (m9 : Int), m9 = Prod.snd (Prod.snd (gd (jO.f m4 m5 a1_2))) → brc (m9 != 0) (K (AV.tup [AV.agg [AV.int IntKind.i64 0, AV.int IntKind.i64 0], AV.int IntKind.i64 m9])) (brc (Option.isSome (kM.f k m7 m8 m2)) (∀ (m10 : Int), m10 = Prod.fst (gd (kM.f k m7 m8 m2)) → ∀ (m11 : Int), m11 = Prod.fst (Prod.snd (gd (kM.f k m7 m8 m2))) → ∀ (m12 : Int), m12 = Prod.snd (Prod.snd (gd (kM.f k m7 m8 m2))) → K (AV.tup [AV.agg [AV.int IntKind.i64 m10, AV.int IntKind.i64 m11], AV.int IntKind.i64 m12])) False)) False) (brc (m6 != 0) (K (AV.tup [AV.agg [AV.int IntKind.i64 0, AV.int IntKind.i64 0], AV.int IntKind.i64 m6])) (brc (Option.isSome (kM.f k m4 m5 m2)) (∀ (m7 : Int), m7 = Prod.fst (gd (kM.f k m4 m5 m2)) → ∀ (m8 : Int), m8 = Prod.fst (Prod.snd (gd (kM.f k m4 m5 m2))) → ∀ (m9 : Int), m9 = Prod.snd (Prod.snd (gd (kM.f k m4 m5 m2))) → K (AV.tup [AV.agg [AV.int IntKind.i64 m7, AV.int IntKind.i64 m8], AV.int IntKind.i64 m9])) False))) False) (brc (m3 == 0) (brc (Option.isSome (jO.f m0 m1 a1_2)) (∀ (m4 : Int), m4 = Prod.fst (gd (jO.f m0 m1 a1_2)) → ∀ (m5 : Int), m5 = Prod.fst (Prod.snd (gd (jO.f m0 m1 a1_2))) → ∀ (m6 : Int), m6 = Prod.snd (Prod.snd (gd (jO.f m0 m1 a1_2))) → brc (m6 != 0) (K (AV.tup [AV.agg [AV.int IntKind.i64 0, AV.int IntKind.i64 0], AV.int IntKind.i64 m6])) (brc (Option.isSome (kM.f k m4 m5 m2)) (∀ (m7 : Int), m7 = Prod.fst (gd (kM.f k m4 m5 m2)) → ∀ (m8 : Int), m8 = Prod.fst (Prod.snd (gd (kM.f k m4 m5 m2))) → ∀ (m9 : Int), m9 = Prod.snd (Prod.snd (gd (kM.f k m4 m5 m2))) → K (AV.tup [AV.agg [AV.int IntKind.i64 m7, AV.int IntKind.i64 m8], AV.int IntKind.i64 m9])) False)) False) (brc (m3 != 0) (K (AV.tup [AV.agg [AV.int IntKind.i64 0, AV.int IntKind.i64 0], AV.int IntKind.i64 m3])) (brc (Option.isSome (kM.f k m0 m1 m2)) (∀ (m4 : Int), m4 = Prod.fst (gd (kM.f k m0 m1 m2)) → ∀ (m5 : Int), m5 = Prod.fst (Prod.snd (gd (kM.f k m0 m1 m2))) → ∀ (m6 : Int), m6 = Prod.snd (Prod.snd (gd (kM.f k m0 m1 m2))) → K (AV.tup [AV.agg [AV.int IntKind.i64 m4, AV.int IntKind.i64 m5], AV.int IntKind.i64 m6])) False)))) (brc (m3 == 0) (brc (Option.isSome (jO.f m0 m1 a1_2)) (∀ (m4 : Int), m4 = Prod.fst (gd (jO.f m0 m1 a1_2)) → ∀ (m5 : Int), m5 = Prod.fst (Prod.snd (gd (jO.f m0 m1 a1_2))) → ∀ (m6 : Int), m6 = Prod.snd (Prod.snd (gd (jO.f m0 m1 a1_2))) → brc (m6 != 0) (K (AV.tup [AV.agg [AV.int IntKind.i64 0, AV.int IntKind.i64 0], AV.int IntKind.i64 m6])) (brc (Option.isSome (kM.f k m4 m5 m2)) (∀ (m7 : Int), m7 = Prod.fst (gd (kM.f k m4 m5 m2)) → ∀ (m8 : Int), m8 = Prod.fst (Prod.snd (gd (kM.f k m4 m5 m2))) → ∀ (m9 : Int), m9 = Prod.snd (Prod.snd (gd (kM.f k m4 m5 m2))) → K (AV.tup [AV.agg [AV.int IntKind.i64 m7, AV.int IntKind.i64 m8], AV.int IntKind.i64 m9])) False)) False) (brc (m3 != 0) (K (AV.tup [AV.agg [AV.int IntKind.i64 0, AV.int IntKind.i64 0], AV.int IntKind.i64 m3])) (brc (Option.isSome (kM.f k m0 m1 m2)) (∀ (m4 : Int), m4 = Prod.fst (gd (kM.f k m0 m1 m2)) → ∀ (m5 : Int), m5 = Prod.fst (Prod.snd (gd (kM.f k m0 m1 m2))) → ∀ (m6 : Int), m6 = Prod.snd (Prod.snd (gd (kM.f k m0 m1 m2))) → K (AV.tup [AV.agg [AV.int IntKind.i64 m4, AV.int IntKind.i64 m5], AV.int IntKind.i64 m6])) False)))) False) := by kernel_rfl
set_option maxHeartbeats 1000000 in
set_option maxRecDepth 100000 in
theorem bY.calls (k : Nat) (a0_0 : Int) (a0_1 : Int) (a1_0 : Int) (a1_1 : Int) (a1_2 : Int) (a1_3 : Int) (r1 : Int) (r2 : Int) (r3 : Int) (w : World) (h : bY.f k a0_0 a0_1 a1_0 a1_1 a1_2 a1_3 = some (r1, r2, r3)) :
 Calls Tryz.prog 44 #[.agg #[.int .i64 a0_0, .int .i64 a0_1], .agg #[.int .i64 a1_0, .int .i64 a1_1, .int .i64 a1_2, .int .i64 a1_3]] w fun e w' => e = .returned (.tuple #[.agg #[.int .i64 r1, .int .i64 r2], .int .i64 r3]) ∧ Below w.heap.size w w' := by
 refine jG (A := [.agg #[.int .i64 a0_0, .int .i64 a0_1], .agg #[.int .i64 a1_0, .int .i64 a1_1, .int .i64 a1_2, .int .i64 a1_3]]) (v := .tup [.agg [.int .i64 r1, .int .i64 r2], .int .i64 r3]) (kB (jH.cok k) (kB (bH.cok k) (kB (jO.cok) (kB (kM.cok k) (bA))))) ((bY.vc k a0_0 a0_1 a1_0 a1_1 a1_2 a1_3 _).mpr ?_) (by simp [kF, kJ, kK, kO, kW, kV, jS]) (fun ρ V' hV => by simpa [kF, kJ, kK, kO, kW, kV, bI] using hV)
 unfold bY.f at h
 cases k with
 | zero =>
  (try simp only [bY.j0, bY.j1] at h)
  (try simp only [bne, Option.bind_eq_some_iff, bQ] at h)
  (try simp only [bne, jW, wrap_i64])
  first
   | grind (splits := 60) [kG]
   | ((repeat' (first | (have or_ : Or _ _ := h; clear or_; rcases h with h | h) | (have or_ : Exists _ := h; clear or_; obtain ⟨_, h⟩ := h) | (have or_ : And _ _ := h; clear or_; obtain ⟨hq_, h⟩ := h))) <;> (try simp only [Option.some.injEq, Prod.mk.injEq, reduceCtorEq] at h) <;> (try subst_vars) <;> first | (simp_all [kG] <;> (try omega) <;> done) | grind (splits := 60) [kG])
   | (intros; subst_vars; simp_all [kG]; done)
 | succ k =>
  cases k with
  | zero =>
   (try simp only [bY.j0, bY.j1] at h)
   (try simp only [bne, Option.bind_eq_some_iff, bQ] at h)
   (try simp only [bne, jW, wrap_i64])
   first
    | grind (splits := 60) [kG, jH.up, bH.up, kM.up]
    | ((repeat' (first | (have or_ : Or _ _ := h; clear or_; rcases h with h | h) | (have or_ : Exists _ := h; clear or_; obtain ⟨_, h⟩ := h) | (have or_ : And _ _ := h; clear or_; obtain ⟨hq_, h⟩ := h; (try first | replace hq_ := jH.le (n := 0 + 1) hq_ (by omega) | replace hq_ := bH.le (n := 0 + 1) hq_ (by omega) | replace hq_ := kM.le (n := 0 + 1) hq_ (by omega))))) <;> (try simp only [Option.some.injEq, Prod.mk.injEq, reduceCtorEq] at h) <;> (try subst_vars) <;> first | (simp_all [kG] <;> (try omega) <;> done) | grind (splits := 60) [kG, jH.up, bH.up, kM.up])
    | (intros; subst_vars; simp_all [kG]; done)
  | succ k =>
   (try simp only [bY.j0, bY.j1] at h)
   (try simp only [bne, Option.bind_eq_some_iff, bQ] at h)
   (try simp only [bne, jW, wrap_i64])
   first
    | grind (splits := 60) [kG, jH.up, bH.up, kM.up]
    | ((repeat' (first | (have or_ : Or _ _ := h; clear or_; rcases h with h | h) | (have or_ : Exists _ := h; clear or_; obtain ⟨_, h⟩ := h) | (have or_ : And _ _ := h; clear or_; obtain ⟨hq_, h⟩ := h; (try first | replace hq_ := jH.le (n := k + 1 + 1) hq_ (by omega) | replace hq_ := bH.le (n := k + 1 + 1) hq_ (by omega) | replace hq_ := kM.le (n := k + 1 + 1) hq_ (by omega))))) <;> (try simp only [Option.some.injEq, Prod.mk.injEq, reduceCtorEq] at h) <;> (try subst_vars) <;> first | (simp_all [kG] <;> (try omega) <;> done) | grind (splits := 60) [kG, jH.up, bH.up, kM.up])
    | (intros; subst_vars; simp_all [kG]; done)
end Go.Proofs.YtimgphlfaninnaaGreat.P
namespace Go.Proofs.YtimgphlfaninnaaGreat.Civ
set_option linter.unusedVariables false
set_option linter.unusedSimpArgs false
open Go.RowKit Go.Proofs.YtimgphlfaninnaaGreat.P Go.Proofs.YtimgphlfaninnaaGreatW.PrintWords Go.Proofs.YtimgphlfaninnaaGreatW.PrintLast Go.Proofs.YtimgphlfaninnaaGreatW.PrintMore
theorem ymd_ex (n : Int) : ∃ t : Int × Int × Int, IsDate n t.1 t.2.1 t.2.2 := by
 obtain ⟨y, m, d, h⟩ := date_of n
 exact ⟨(y, m, d), h⟩
noncomputable def ymd (n : Int) : Int × Int × Int := Classical.choose (ymd_ex n)
theorem ymd_ok (n : Int) : IsDate n (ymd n).1 (ymd n).2.1 (ymd n).2.2 := Classical.choose_spec (ymd_ex n)
noncomputable def shN (n q : Int) : Int := dnum (shY (ymd n).1 (ymd n).2.1 q) (shM (ymd n).1 (ymd n).2.1 q) (shD (ymd n).1 (ymd n).2.1 (ymd n).2.2 q)
theorem shN_date (n q : Int) : IsDate (shN n q) (shY (ymd n).1 (ymd n).2.1 q) (shM (ymd n).1 (ymd n).2.1 q) (shD (ymd n).1 (ymd n).2.1 (ymd n).2.2 q) := by
 have h := ymd_ok n
 have b := shM_bd (ymd n).1 (ymd n).2.1 q
 have ml := mlen_bd (shY (ymd n).1 (ymd n).2.1 q) (shM (ymd n).1 (ymd n).2.1 q) b.1 b.2
 have d1 := h.d1
 refine ⟨b.1, b.2, ?_, ?_, rfl⟩ <;> unfold shD <;> split <;> omega
noncomputable def shX (n q : Int) : Option Int := if q = 0 then some n else if MonthsOk q ∧ DIn (shN n q) then some (shN n q) else none
noncomputable def shR (n q : Int) : Int × Int × Int := if MonthsOk q ∧ DIn (shN n q) then (0, shN n q, 0) else (0, 0, 10)
theorem shR_val {n q : Int} (h : DIn n) : ∃ r : Int × Int, Ev (fun k => kQ.f k n q) r ∧ Ev (fun k => bN.f k n q) r ∧ madeE r.1 r.2 = shR n q := by
 have hd := ymd_ok n
 have hs := shN_date n q
 by_cases hk : MonthsOk q
 · have e := shift_eq hd (din_can h) hk
   refine ⟨_, Ev.at1 (fun k => e k), rshift_ev hd (din_can h) hk, ?_⟩
   unfold shR
   by_cases g : DateOk (shY (ymd n).1 (ymd n).2.1 q) (shM (ymd n).1 (ymd n).2.1 q) (shD (ymd n).1 (ymd n).2.1 (ymd n).2.2 q)
   · rw [if_pos g]
     have e1 : madeE (dnum (shY (ymd n).1 (ymd n).2.1 q) (shM (ymd n).1 (ymd n).2.1 q) (shD (ymd n).1 (ymd n).2.1 (ymd n).2.2 q), (0 : Int)).1 (dnum (shY (ymd n).1 (ymd n).2.1 q) (shM (ymd n).1 (ymd n).2.1 q) (shD (ymd n).1 (ymd n).2.1 (ymd n).2.2 q), (0 : Int)).2 = made (shN n q) := rfl
     rw [e1]
     unfold made
     by_cases g2 : DIn (shN n q)
     · rw [if_pos g2, if_pos (show MonthsOk q ∧ DIn (shN n q) from ⟨hk, g2⟩)]
     · rw [if_neg g2, if_neg (show ¬ (MonthsOk q ∧ DIn (shN n q)) from fun f => g2 f.2)]
   · rw [if_neg g, if_neg (show ¬ (MonthsOk q ∧ DIn (shN n q)) from ?_)]
     · rfl
     · intro f
       have hy := (din_year hs).2 f.2
       exact g ⟨by omega, by omega, hs.m1, hs.m12, hs.d1, hs.dl⟩
 · refine ⟨_, Ev.at1 (fun k => shift_no (.inr hk) k), rshift_no (.inr hk), ?_⟩
   unfold shR
   rw [if_neg (show ¬ (MonthsOk q ∧ DIn (shN n q)) from fun f => hk f.1)]
   rfl
theorem dsh_ev {n q : Int} (h : DIn n) : Ev (fun k => bH.f k 0 n q) (shR n q) ∧ Ev (fun k => computusref15_Shift.f k 0 n q) (shR n q) := by
 obtain ⟨r, h1, h2, h3⟩ := shR_val (q := q) h
 have hR : DR 0 n := .inl ⟨rfl, h⟩
 rw [← h3]
 unfold bH.f kN.f computusref15_Shift.f
 refine ⟨?_, ?_⟩
 · exact Ev.bind (Ev.bind0 (dright_eq 0 n) (Ev.pos (decide_eq_true hR) (Ev.pos rfl (Ev.bind h1 (Ev.bind0 (finite_eq _ _) (Ev.now _)))))) (Ev.now _)
 · exact Ev.bind (rdright_ev 0 n) (Ev.pos (decide_eq_true hR) (Ev.pos rfl (Ev.bind h2 (Ev.bind (rmade_ev _ _) (Ev.now _)))))
theorem stamp_fin {n v : Int} (h : DIn n) : stampD 0 n (v % 86400000000) = (0, n * 86400000000 + v % 86400000000, 0) := by
 unfold stampD
 have e : (n * 86400000000 + v % 86400000000) / 86400000000 = n := by omega
 rw [if_pos ⟨.inl ⟨rfl, h⟩, by omega, by omega⟩, if_pos rfl, e, if_pos h]
theorem addD_fin {n d : Int} (h : DIn n) : addD 0 n d = made (n + d) := by
 unfold addD
 rw [if_pos (show DR 0 n from .inl ⟨rfl, h⟩), if_pos rfl]
theorem stamp_i64 {n v : Int} (h : DIn n) : I64 (n * 86400000000 + v % 86400000000) := by
 unfold DIn at h; unfold I64; omega
theorem ofD_fin {v : Int} (h : DRS 0 v) : ofD 0 v = (0, v / 86400000000, v % 86400000000, 0) := by unfold ofD; rw [if_pos h, if_pos rfl]
theorem days_end {x v q d s : Int} (h : DIn x) (hd : I64 d) : Ev (fun k => bY.j1 k (v % 86400000000) 0 0 q d s 0 x) (if DIn (x + d) then (0, (x + d) * 86400000000 + v % 86400000000, 0) else (0, 0, 10)) := by
 refine Ev.succ ?_
 simp only [bY.j1, if_true]
 refine Ev.bind0 (addD_eq 0 x d hd) ?_
 rw [addD_fin h]
 unfold made
 by_cases g : DIn (x + d)
 · rw [if_pos g, if_pos g]
   exact Ev.pos rfl (Ev.bind (Ev.cast (stampD_ev 0 (x + d) (v % 86400000000)) (stamp_fin g)) (Ev.now _))
 · rw [if_neg g, if_neg g]
   exact Ev.neg (by decide) (Ev.now _)
theorem days_ev {v q d s : Int} (h : DRS 0 v) (hv : I64 v) (hd : I64 d) : Ev (fun k => bY.f k 0 v 0 q d s) (match shX (v / 86400000000) q with | none => (0, 0, 10) | some x => if DIn (x + d) then (0, (x + d) * 86400000000 + v % 86400000000, 0) else (0, 0, 10)) := by
 have hD := drs_fin.1 h
 unfold bY.f shX
 refine Ev.bind (ofD_ev 0 v hv) ?_
 rw [ofD_fin h]
 by_cases hq : q = 0
 · rw [if_pos hq]
   refine Ev.pos hq (Ev.succ ?_)
   simp only [bY.j0, Bool.false_eq_true, if_false]
   exact days_end hD hd
 · rw [if_neg hq]
   refine Ev.neg hq (Ev.succ ?_)
   simp only [bY.j0, beq_self_eq_true, if_true]
   refine Ev.bind (dsh_ev hD).1 ?_
   unfold shR
   by_cases g : MonthsOk q ∧ DIn (shN (v / 86400000000) q)
   · rw [if_pos g, if_pos g]
     exact days_end g.2 hd
   · rw [if_neg g, if_neg g]
     refine Ev.succ ?_
     simp only [bY.j1]
     exact Ev.neg (by decide) (Ev.now _)
end Go.Proofs.YtimgphlfaninnaaGreat.Civ
namespace Go.Proofs.YtimgphlfaninnaaGreat.P
open Go.RowKit Go.Proofs.YtimgphlfaninnaaGreat.Civ Go.Proofs.YtimgphlfaninnaaGreat.Ft Go.Proofs.YtimgphlfaninnaaGreat.Zn
set_option linter.unusedVariables false
set_option linter.unusedSimpArgs false
open A
def secOf (u : Int) : Int := u / 1000000 + 946684800
noncomputable def daysR (v q d : Int) : Int × Int × Int := match shX (v / 86400000000) q with
 | none => (0, 0, 10)
 | some x => if DIn (x + d) then (0, (x + d) * 86400000000 + v % 86400000000, 0) else (0, 0, 10)
def onR (w s : Int) : Int × Int × Int := if I64 (w + s) ∧ DRS 0 (w + s) then (0, w + s, 0) else (0, 0, 10)
def joinR (s us : Int) : Int × Int × Int := if I64 ((s - 946684800) * 1000000) then onR ((s - 946684800) * 1000000) us else (0, 0, 10)
noncomputable def offE (z : Zt) (i u : Int) : Int := if ZtOk z ∧ DRS i u then (if i = 0 then zErr z (secOf u) else 10) else 1
noncomputable def offT (z : Zt) (i u : Int) : Tr := if offE z i u = 0 then atZ z (secOf u) else ⟨0, 0, false, ⟨#[]⟩⟩
noncomputable def locR (z : Zt) (i u : Int) : Int × Int × Int := if ZtOk z ∧ DRS i u then (if i = 0 then (if zErr z (secOf u) = 0 then onR u ((atZ z (secOf u)).off * 1000000) else (0, 0, zErr z (secOf u))) else (i, u, 0)) else (0, 0, 1)
noncomputable def insF (z : Zt) (x : Int × Int) (us : Int) : Int × Int × Int × Int := if (joinR x.1 us).2.2 = 0 then ((joinR x.1 us).1, (joinR x.1 us).2.1, x.2, 0) else (0, 0, 0, (joinR x.1 us).2.2)
noncomputable def insR (z : Zt) (i u : Int) : Int × Int × Int × Int := if ZtOk z ∧ DRS i u then (if i = 0 then (if iErr z (secOf u) = 0 then insF z (instE z (secOf u)) (u % 1000000) else (0, 0, 0, iErr z (secOf u))) else (i, u, 0, 0)) else (0, 0, 0, 1)
def thenOn (x : Int × Int × Int) (s : Int) : Int × Int × Int := if x.2.2 = 0 then onR x.2.1 s else (0, 0, x.2.2)
def infR (i j : Int) (r : Int × Int × Int) : Int × Int × Int := if i * j < 0 then (0, 0, 10) else if i ≠ 0 then (i, 0, 0) else if j ≠ 0 then (j, 0, 0) else r
noncomputable def plusR (i u j q d s : Int) : Int × Int × Int := if DRS i u ∧ SOk j q d s then infR i j (thenOn (daysR u q d) s) else (0, 0, 1)
noncomputable def movD (z : Zt) (x : Int × Int × Int) : Int × Int × Int := if x.2.2 = 0 then ((insR z x.1 x.2.1).1, (insR z x.1 x.2.1).2.1, (insR z x.1 x.2.1).2.2.2) else (0, 0, x.2.2)
noncomputable def movR (z : Zt) (u q d : Int) : Int × Int × Int := if q = 0 ∧ d = 0 then (0, u, 0) else if (locR z 0 u).2.2 = 0 then movD z (daysR (locR z 0 u).2.1 q d) else (0, 0, (locR z 0 u).2.2)
noncomputable def tzR (z : Zt) (i u j q d s : Int) : Int × Int × Int := if ZtOk z ∧ DRS i u ∧ SOk j q d s then infR i j (thenOn (movR z u q d) s) else (0, 0, 1)
noncomputable def csRS : Con
 | [.agg [.int .i64 i, .int .i64 u]] => some (decide (I64 u), .bool (decide (DRS i u)))
 | _ => none
noncomputable def csSp : Con
 | [.agg [.int .i64 i, .int .i64 m, .int .i64 d, .int .i64 u]] => some (decide (I64 u), .bool (decide (SOk i m d u)))
 | _ => none
noncomputable def csDiv : Con
 | [.int .i64 a, .int .i64 b] => some (b == 1000000 && decide (I64 a), .tup [.int .i64 (a / 1000000), .int .i64 0])
 | _ => none
noncomputable def csMod : Con
 | [.int .i64 a, .int .i64 b] => some (b == 1000000 && decide (I64 a), .tup [.int .i64 (a % 1000000), .int .i64 0])
 | _ => none
noncomputable def csMul : Con
 | [.int .i64 a, .int .i64 b] => some (decide (I64 a ∧ I64 b), .tup [.int .i64 (out (a * b)).1, .int .i64 (out (a * b)).2])
 | _ => none
noncomputable def csAdd : Con
 | [.int .i64 a, .int .i64 b] => some (decide (I64 a ∧ I64 b), .tup [.int .i64 (out (a + b)).1, .int .i64 (out (a + b)).2])
 | _ => none
def avS (x : Int × Int × Int) : AV := .tup [.agg [.int .i64 x.1, .int .i64 x.2.1], .int .i64 x.2.2]
noncomputable def csDays : Con
 | [.agg [.int .i64 i, .int .i64 v], .agg [.int .i64 j, .int .i64 q, .int .i64 d, .int .i64 s]] => some (decide (I64 v ∧ I64 d ∧ DRS i v ∧ i = (0 : Int) ∧ j = (0 : Int)), avS (daysR v q d))
 | _ => none
noncomputable def csOn : Con
 | [.agg [.int .i64 i, .int .i64 w], .int .i64 s] => some (decide (I64 w ∧ I64 s), avS (onR w s))
 | _ => none
noncomputable def csJoin : Con
 | [.int .i64 s, .int .i64 us] => some (decide (I64 (s - 946684800) ∧ I64 us), avS (joinR s us))
 | _ => none
noncomputable def csOff : Con
 | [.agg l, .agg [.int .i64 i, .int .i64 u]] => match rdZ l with
  | some (p, z) => some (p && decide (I64 u), .tup [.agg (avT (offT z i u)), .int .i64 (offE z i u)])
  | none => none
 | _ => none
noncomputable def csLoc : Con
 | [.agg l, .agg [.int .i64 i, .int .i64 u]] => match rdZ l with
  | some (p, z) => some (p && decide (I64 u), avS (locR z i u))
  | none => none
 | _ => none
noncomputable def csIns : Con
 | [.agg l, .agg [.int .i64 i, .int .i64 u]] => match rdZ l with
  | some (p, z) => some (p && decide (I64 u), .tup [.agg [.int .i64 (insR z i u).1, .int .i64 (insR z i u).2.1], .int .i64 (insR z i u).2.2.1, .int .i64 (insR z i u).2.2.2])
  | none => none
 | _ => none
noncomputable def csTz : Con
 | [.agg l, .agg [.int .i64 i, .int .i64 u], .agg [.int .i64 j, .int .i64 q, .int .i64 d, .int .i64 s]] => match rdZ l with
  | some (p, z) => some (p && decide (I64 u ∧ I64 d ∧ I64 s), avS (tzR z i u j q d s))
  | none => none
 | _ => none
noncomputable def csPlus : Con
 | [.agg [.int .i64 i, .int .i64 u], .agg [.int .i64 j, .int .i64 q, .int .i64 d, .int .i64 s]] => some (decide (I64 u ∧ I64 d ∧ I64 s), avS (plusR i u j q d s))
 | _ => none
def avUTC : List AV := [.str ⟨#[85, 84, 67]⟩, .int .i64 0, .int .i64 0, .bool false, .str ⟨#[85, 84, 67]⟩, .nilsl, .bool false, .int .i64 0, .int .i64 0, .int .i64 0, .int .i64 0, .int .i64 0, .int .i64 0, .int .i64 0, .int .u8 0, .int .i64 0, .str ⟨#[]⟩, .int .i64 0, .int .i64 0, .int .i64 0, .int .i64 0, .int .i64 0, .int .u8 0, .int .i64 0, .str ⟨#[]⟩]
def zyUTC : Con
 | [] => some (true, .agg avUTC)
 | _ => none
theorem csRS_ok : COk Tryz.prog 51 csRS := by
 intro args p v hc hp w A hA
 unfold csRS at hc
 split at hc
 case h_2 => cases hc
 rename_i i u
 simp only [Option.some.injEq, Prod.mk.injEq] at hc
 obtain ⟨rfl, rfl⟩ := hc
 obtain rfl : A = [.agg #[.int .i64 i, .int .i64 u]] := by simpa [kF, kJ, kK, kV] using hA
 obtain ⟨K, hK⟩ := drightS_ev i u (of_decide_eq_true hp)
 exact kH (fn := Tryz.f51) Tryz.func51 (by kernel_rfl) (by kernel_rfl) (kI.calls K _ _ _ w (hK K (Nat.le_refl _))) (fun _ => by simp [kO]) (fun _ h => by first | exact h | exact h.below)
theorem csSp_ok : COk Tryz.prog 27 csSp := by
 intro args p v hc hp w A hA
 unfold csSp at hc
 split at hc
 case h_2 => cases hc
 rename_i i m d u
 simp only [Option.some.injEq, Prod.mk.injEq] at hc
 obtain ⟨rfl, rfl⟩ := hc
 obtain rfl : A = [.agg #[.int .i64 i, .int .i64 m, .int .i64 d, .int .i64 u]] := by simpa [kF, kJ, kK, kV] using hA
 exact kH (fn := Tryz.f27) Tryz.func27 (by kernel_rfl) (by kernel_rfl) (span_Right.calls _ _ _ _ _ w (sright_eq i m d u (of_decide_eq_true hp))) (fun _ => by simp [kO]) (fun _ h => by first | exact h | exact h.below)
theorem csDiv_ok : COk Tryz.prog 74 csDiv := by
 intro args p v hc hp w A hA
 unfold csDiv at hc
 split at hc
 case h_2 => cases hc
 rename_i a b
 simp only [Option.some.injEq, Prod.mk.injEq] at hc
 obtain ⟨rfl, rfl⟩ := hc
 rw [Bool.and_eq_true] at hp
 have h1 := of_decide_eq_true hp.2
 obtain rfl : b = 1000000 := by simpa using hp.1
 obtain rfl : A = [.int .i64 a, .int .i64 1000000] := by simpa [kF, kJ, kK] using hA
 have hf := div_eq 0 a 1000000 h1 (by unfold I64; omega) (by omega)
 rw [fl_pos (by omega), out_in (ediv_i64 h1 (by omega))] at hf
 exact kH (fn := Tryz.f74) Tryz.func74 (by kernel_rfl) (by kernel_rfl) (num_Div.calls _ _ _ _ _ w hf) (fun _ => by simp [kF, kJ, kK, bI]) (fun _ h => by first | exact h | exact h.below)
theorem csMod_ok : COk Tryz.prog 75 csMod := by
 intro args p v hc hp w A hA
 unfold csMod at hc
 split at hc
 case h_2 => cases hc
 rename_i a b
 simp only [Option.some.injEq, Prod.mk.injEq] at hc
 obtain ⟨rfl, rfl⟩ := hc
 rw [Bool.and_eq_true] at hp
 have h1 := of_decide_eq_true hp.2
 obtain rfl : b = 1000000 := by simpa using hp.1
 obtain rfl : A = [.int .i64 a, .int .i64 1000000] := by simpa [kF, kJ, kK] using hA
 have hf := mod_eq a 1000000 h1 (by unfold I64; omega) (by omega)
 rw [md_pos (by omega)] at hf
 exact kH (fn := Tryz.f75) Tryz.func75 (by kernel_rfl) (by kernel_rfl) (num_Mod.calls _ _ _ _ w hf) (fun _ => by simp [kF, kJ, kK, bI]) (fun _ h => by first | exact h | exact h.below)
theorem csMul_ok : COk Tryz.prog 78 csMul := by
 intro args p v hc hp w A hA
 unfold csMul at hc
 split at hc
 case h_2 => cases hc
 rename_i a b
 simp only [Option.some.injEq, Prod.mk.injEq] at hc
 obtain ⟨rfl, rfl⟩ := hc
 obtain ⟨h1, h2⟩ := of_decide_eq_true hp
 obtain rfl : A = [.int .i64 a, .int .i64 b] := by simpa [kF, kJ, kK] using hA
 exact kH (fn := Tryz.f78) Tryz.func78 (by kernel_rfl) (by kernel_rfl) (bW.calls _ _ _ _ _ w (show bW.f 1 a b = some ((out (a * b)).1, (out (a * b)).2) from mul_eq 0 a b h1 h2)) (fun _ => by simp [kF, kJ, kK, bI]) (fun _ h => by first | exact h | exact h.below)
theorem csAdd_ok : COk Tryz.prog 67 csAdd := by
 intro args p v hc hp w A hA
 unfold csAdd at hc
 split at hc
 case h_2 => cases hc
 rename_i a b
 simp only [Option.some.injEq, Prod.mk.injEq] at hc
 obtain ⟨rfl, rfl⟩ := hc
 obtain ⟨h1, h2⟩ := of_decide_eq_true hp
 obtain rfl : A = [.int .i64 a, .int .i64 b] := by simpa [kF, kJ, kK] using hA
 exact kH (fn := Tryz.f67) Tryz.func67 (by kernel_rfl) (by kernel_rfl) (jT.calls _ _ _ _ w (show jT.f a b = some ((out (a + b)).1, (out (a + b)).2) from add_eq a b h1 h2)) (fun _ => by simp [kF, kJ, kK, bI]) (fun _ h => by first | exact h | exact h.below)
theorem csDays_ok : COk Tryz.prog 44 csDays := by
 intro args p v hc hp w A hA
 unfold csDays at hc
 split at hc
 case h_2 => cases hc
 rename_i i v j q d s
 simp only [Option.some.injEq, Prod.mk.injEq] at hc
 obtain ⟨rfl, rfl⟩ := hc
 obtain ⟨h1, h2, h3, rfl, rfl⟩ := of_decide_eq_true hp
 obtain rfl : A = [.agg #[.int .i64 0, .int .i64 v], .agg #[.int .i64 0, .int .i64 q, .int .i64 d, .int .i64 s]] := by simpa [kF, kJ, kK, kV] using hA
 obtain ⟨K, hK⟩ := days_ev (v := v) (q := q) (d := d) (s := s) h3 h1 h2
 have hf : bY.f K 0 v 0 q d s = some ((daysR v q d).1, (daysR v q d).2.1, (daysR v q d).2.2) := hK K (Nat.le_refl _)
 exact kH (fn := Tryz.f44) Tryz.func44 (by kernel_rfl) (by kernel_rfl) (bY.calls K _ _ _ _ _ _ _ _ _ w hf) (fun _ => by simp [avS, kF, kJ, kK, bI, kV]) (fun _ h => by first | exact h | exact h.below)
theorem resS {x : Int × Int × Int} {a b c : Int} (h : x = (a, b, c)) : Res (avS x) (.tup [.agg [.int .i64 a, .int .i64 b], .int .i64 c]) := by rw [h]; exact res_rfl rfl
theorem res3 (x : Int × Int × Int) : Res (avS x) (.tup [.agg [.int .i64 x.1, .int .i64 x.2.1], .int .i64 x.2.2]) := res_rfl rfl
set_option maxRecDepth 100000 in
theorem ston_vc (i w s : Int) (K : AV → Prop) : AFL (tab [(67, csAdd), (51, csRS)]) (noLoops) 4 29 [.agg [.int .i64 i, .int .i64 w], .int .i64 s] K =
 (brc (decide (I64 w ∧ I64 s)) (∀ (m0 : Int), m0 = Prod.fst (out (w + s)) → ∀ (m1 : Int), m1 = Prod.snd (out (w + s)) → brc (m1 != 0) (K (AV.tup [AV.agg [AV.int IntKind.i64 0, AV.int IntKind.i64 0], AV.int IntKind.i64 10])) (brc (decide (I64 m0)) (∀ (m2 : Bool), m2 = decide (DRS 0 m0) → brc (!m2) (K (AV.tup [AV.agg [AV.int IntKind.i64 0, AV.int IntKind.i64 0], AV.int IntKind.i64 10])) (K (AV.tup [AV.agg [AV.int IntKind.i64 0, AV.int IntKind.i64 m0], AV.int IntKind.i64 0]))) False)) False) := by kernel_rfl
theorem ston_ok {i w s : Int} (hw : I64 w) (hs : I64 s) : AFL (tab [(67, csAdd), (51, csRS)]) noLoops 4 29 [.agg [.int .i64 i, .int .i64 w], .int .i64 s] (Res (avS (onR w s))) := by
 rw [ston_vc]
 refine brcT (decide_eq_true ⟨hw, hs⟩) ?_
 rintro _ rfl _ rfl
 by_cases h : I64 (w + s)
 · rw [out_in h]
   refine brcF rfl (brcT (decide_eq_true h) ?_)
   rintro _ rfl
   refine kA (fun a => ?_) fun a => ?_
   · exact resS (by unfold onR; rw [if_neg (fun q => by simp [q.2] at a)])
   · exact resS (by unfold onR; rw [if_pos ⟨h, by simpa using a⟩])
 · rw [out_no h]
   exact brcT rfl (resS (by unfold onR; rw [if_neg (fun q => h q.1)]))
theorem csOn_ok : COk Tryz.prog 29 csOn := afl_con (kB csAdd_ok (kB csRS_ok bA)) (by kernel_rfl) fun args p v hc hp => by
 unfold csOn at hc
 split at hc
 case h_2 => cases hc
 simp only [Option.some.injEq, Prod.mk.injEq] at hc
 obtain ⟨rfl, rfl⟩ := hc
 obtain ⟨h1, h2⟩ := of_decide_eq_true hp
 exact ⟨_, _, _, fun w A hA => hA, ltOk_none _ _, ston_ok h1 h2⟩
set_option maxRecDepth 100000 in
theorem stjoin_vc (s us : Int) (K : AV → Prop) : AFL (tab [(78, csMul), (29, csOn)]) (noLoops) 4 37 [.int .i64 s, .int .i64 us] K =
 (brc (decide (I64 (IntKind.wrap IntKind.i64 (s - 946684800)) ∧ I64 1000000)) (∀ (m0 : Int), m0 = Prod.fst (out (IntKind.wrap IntKind.i64 (s - 946684800) * 1000000)) → ∀ (m1 : Int), m1 = Prod.snd (out (IntKind.wrap IntKind.i64 (s - 946684800) * 1000000)) → brc (m1 != 0) (K (AV.tup [AV.agg [AV.int IntKind.i64 0, AV.int IntKind.i64 0], AV.int IntKind.i64 m1])) (brc (decide (I64 m0 ∧ I64 us)) (∀ (m2 : Int), m2 = Prod.fst (onR m0 us) → ∀ (m3 : Int), m3 = Prod.fst (Prod.snd (onR m0 us)) → ∀ (m4 : Int), m4 = Prod.snd (Prod.snd (onR m0 us)) → K (AV.tup [AV.agg [AV.int IntKind.i64 m2, AV.int IntKind.i64 m3], AV.int IntKind.i64 m4])) False)) False) := by kernel_rfl
theorem stjoin_ok {s us : Int} (hw : I64 (s - 946684800)) (hs : I64 us) : AFL (tab [(78, csMul), (29, csOn)]) noLoops 4 37 [.int .i64 s, .int .i64 us] (Res (avS (joinR s us))) := by
 rw [stjoin_vc, show IntKind.wrap .i64 (s - 946684800) = s - 946684800 from jZ (by unfold I64 at hw; omega)]
 refine brcT (decide_eq_true ⟨hw, by unfold I64; omega⟩) ?_
 rintro _ rfl _ rfl
 by_cases h : I64 ((s - 946684800) * 1000000)
 · rw [out_in h]
   refine brcF rfl (brcT (decide_eq_true ⟨h, hs⟩) ?_)
   rintro _ rfl _ rfl _ rfl
   have e : joinR s us = onR ((s - 946684800) * 1000000) us := by unfold joinR; rw [if_pos h]
   rw [e]
   exact res3 _
 · rw [out_no h]
   exact brcT rfl (resS (by unfold joinR; rw [if_neg h]))
theorem csJoin_ok : COk Tryz.prog 37 csJoin := afl_con (kB csMul_ok (kB csOn_ok bA)) (by kernel_rfl) fun args p v hc hp => by
 unfold csJoin at hc
 split at hc
 case h_2 => cases hc
 simp only [Option.some.injEq, Prod.mk.injEq] at hc
 obtain ⟨rfl, rfl⟩ := hc
 obtain ⟨h1, h2⟩ := of_decide_eq_true hp
 exact ⟨_, _, _, fun w A hA => hA, ltOk_none _ _, stjoin_ok h1 h2⟩
theorem sec_bd {u : Int} (h : I64 u) : -9223372036854775808 ≤ u / 1000000 + 946684800 ∧ u / 1000000 + 946684800 ≤ 9223372036854775807 := by unfold I64 at h; omega
set_option maxRecDepth 100000 in
theorem stoff_vc (z : Zt) (i u : Int) (K : AV → Prop) : AFL (tab [(49, zyRight), (51, csRS), (74, csDiv), (75, csMod), (39, zyAt)]) (noLoops) 6 14 [.agg (avZ z), .agg [.int .i64 i, .int .i64 u]] K =
 (brc (tyR (Zt.n z) (znRow z) && bdZ (Zt.F z)) (∀ (m0 : Bool), m0 = decide (ZtOk z) → brc (!m0) (K (AV.tup [AV.agg [AV.int IntKind.i64 0, AV.int IntKind.i64 0, AV.bool false, AV.str (ByteArray.mk #[])], AV.int IntKind.i64 1])) (brc (decide (I64 u)) (∀ (m1 : Bool), m1 = decide (DRS i u) → brc (!m1) (K (AV.tup [AV.agg [AV.int IntKind.i64 0, AV.int IntKind.i64 0, AV.bool false, AV.str (ByteArray.mk #[])], AV.int IntKind.i64 1])) (brc (i != 0) (K (AV.tup [AV.agg [AV.int IntKind.i64 0, AV.int IntKind.i64 0, AV.bool false, AV.str (ByteArray.mk #[])], AV.int IntKind.i64 10])) (brc (decide (I64 u)) (∀ (m2 : Int), m2 = u / 1000000 → ∀ (m3 : Int), m3 = 0 → brc (decide (I64 u)) (∀ (m4 : Int), m4 = u % 1000000 → ∀ (m5 : Int), m5 = 0 → brc (tyR (Zt.n z) (znRow z) && bdZ (Zt.F z) && decide (-9223372036854775808 ≤ IntKind.wrap IntKind.i64 (m2 + 946684800) ∧ IntKind.wrap IntKind.i64 (m2 + 946684800) ≤ 9223372036854775807)) (∀ (m6 : Int), m6 = Tr.t (atE z (IntKind.wrap IntKind.i64 (m2 + 946684800))) → ∀ (m7 : Int), m7 = Tr.off (atE z (IntKind.wrap IntKind.i64 (m2 + 946684800))) → ∀ (m8 : Bool), m8 = Tr.dst (atE z (IntKind.wrap IntKind.i64 (m2 + 946684800))) → ∀ (m9 : Int), m9 = zErr z (IntKind.wrap IntKind.i64 (m2 + 946684800)) → K (AV.tup [AV.agg [AV.int IntKind.i64 m6, AV.int IntKind.i64 m7, AV.bool m8, AV.str (Tr.ab (atE z (IntKind.wrap IntKind.i64 (m2 + 946684800))))], AV.int IntKind.i64 m9])) False) False) False))) False)) False) := by kernel_rfl
theorem stoff_ok {z : Zt} {i u : Int} (hb : bdZ z.F = true) (hu : I64 u) : AFL (tab [(49, zyRight), (51, csRS), (74, csDiv), (75, csMod), (39, zyAt)]) noLoops 6 14 [.agg (avZ z), .agg [.int .i64 i, .int .i64 u]] (Res (.tup [.agg (avT (offT z i u)), .int .i64 (offE z i u)])) := by
 rw [stoff_vc]
 have no : ∀ e : Int, offE z i u = e → e ≠ 0 → Res (.tup [.agg (avT (offT z i u)), .int .i64 (offE z i u)]) (AV.tup [AV.agg [AV.int IntKind.i64 0, AV.int IntKind.i64 0, AV.bool false, AV.str (ByteArray.mk #[])], AV.int IntKind.i64 e]) := fun e he h => by
  have : offT z i u = ⟨0, 0, false, ⟨#[]⟩⟩ := by unfold offT; rw [if_neg (by rw [he]; exact h)]
  rw [this, he]; exact res_rfl rfl
 refine brcT (tyZ z hb) ?_
 rintro _ rfl
 refine kA (fun a => ?_) fun a => ?_
 · exact no 1 (by unfold offE; rw [if_neg (fun q => by simp [q.1] at a)]) (by omega)
 have hz : ZtOk z := by simpa using a
 refine brcT (decide_eq_true hu) ?_
 rintro _ rfl
 refine kA (fun b => ?_) fun b => ?_
 · exact no 1 (by unfold offE; rw [if_neg (fun q => by simp [q.2] at b)]) (by omega)
 have hd : DRS i u := by simpa using b
 refine kA (fun c => ?_) fun c => ?_
 · exact no 10 (by unfold offE; rw [if_pos ⟨hz, hd⟩, if_neg (by simpa using c)]) (by omega)
 have hi : i = 0 := by simpa using c
 refine brcT (decide_eq_true hu) ?_
 rintro _ rfl _ rfl
 refine brcT (decide_eq_true hu) ?_
 rintro _ rfl _ rfl
 have hs := sec_bd hu
 rw [show IntKind.wrap .i64 (u / 1000000 + 946684800) = secOf u from jZ hs]
 refine brcT (by rw [tyZ z hb, decide_eq_true (show -9223372036854775808 ≤ secOf u ∧ secOf u ≤ 9223372036854775807 from hs)]; rfl) ?_
 rintro _ rfl _ rfl _ rfl _ rfl
 have ee : offE z i u = zErr z (secOf u) := by unfold offE; rw [if_pos ⟨hz, hd⟩, if_pos hi]
 have et : offT z i u = atE z (secOf u) := by
  unfold offT
  rw [ee]
  by_cases h : zErr z (secOf u) = 0
  · rw [if_pos h]; unfold atE; simp only [h, if_true]
  · rw [if_neg h, atE_no h]
 rw [ee, et]
 exact res_rfl rfl
theorem csOff_ok : COk Tryz.prog 14 csOff := afl_con (kB zyRight_ok (kB csRS_ok (kB csDiv_ok (kB csMod_ok (kB zyAt_ok bA))))) (by kernel_rfl) fun args p v hc hp => by
 unfold csOff at hc
 split at hc
 case h_2 => cases hc
 split at hc
 case h_2 => cases hc
 rename_i i u _ q z hl
 simp only [Option.some.injEq, Prod.mk.injEq] at hc
 obtain ⟨rfl, rfl⟩ := hc
 rw [Bool.and_eq_true] at hp
 obtain ⟨rfl, hq⟩ := hp
 obtain ⟨k1, k2⟩ := rdZ_move hl
 exact ⟨_, _, _, fun w A hA => rl_1 (fun V h => k2 h) hA, ltOk_none _ _, stoff_ok k1 (of_decide_eq_true hq)⟩
set_option maxRecDepth 100000 in
theorem stloc_vc (z : Zt) (i u : Int) (K : AV → Prop) : AFL (tab [(14, csOff), (29, csOn)]) (noLoops) 6 10 [.agg (avZ z), .agg [.int .i64 i, .int .i64 u]] K =
 (brc (tyR (Zt.n z) (znRow z) && bdZ (Zt.F z) && decide (I64 u)) (∀ (m0 : Int), m0 = Tr.t (offT z i u) → ∀ (m1 : Int), m1 = Tr.off (offT z i u) → ∀ (m2 : Bool), m2 = Tr.dst (offT z i u) → ∀ (m3 : Int), m3 = offE z i u → brc (m3 == 1) (K (AV.tup [AV.agg [AV.int IntKind.i64 0, AV.int IntKind.i64 0], AV.int IntKind.i64 m3])) (brc (i != 0) (K (AV.tup [AV.agg [AV.int IntKind.i64 i, AV.int IntKind.i64 u], AV.int IntKind.i64 0])) (brc (m3 != 0) (K (AV.tup [AV.agg [AV.int IntKind.i64 0, AV.int IntKind.i64 0], AV.int IntKind.i64 m3])) (brc (decide (I64 u ∧ I64 (IntKind.wrap IntKind.i64 (m1 * 1000000)))) (∀ (m4 : Int), m4 = Prod.fst (onR u (IntKind.wrap IntKind.i64 (m1 * 1000000))) → ∀ (m5 : Int), m5 = Prod.fst (Prod.snd (onR u (IntKind.wrap IntKind.i64 (m1 * 1000000)))) → ∀ (m6 : Int), m6 = Prod.snd (Prod.snd (onR u (IntKind.wrap IntKind.i64 (m1 * 1000000)))) → K (AV.tup [AV.agg [AV.int IntKind.i64 m4, AV.int IntKind.i64 m5], AV.int IntKind.i64 m6])) False)))) False) := by kernel_rfl
theorem zErr_or {z : Zt} {u : Int} (h : ZtOk z) : zErr z u = 0 ∨ zErr z u = 10 := by unfold zErr; rw [if_pos h]; split <;> simp
theorem stloc_ok {z : Zt} {i u : Int} (hb : bdZ z.F = true) (hu : I64 u) : AFL (tab [(14, csOff), (29, csOn)]) noLoops 6 10 [.agg (avZ z), .agg [.int .i64 i, .int .i64 u]] (Res (avS (locR z i u))) := by
 rw [stloc_vc]
 refine brcT (by rw [tyZ z hb, decide_eq_true hu]; rfl) ?_
 rintro _ rfl _ rfl _ rfl _ rfl
 by_cases h : ZtOk z ∧ DRS i u
 · by_cases hi : i = 0
   · have ee : offE z i u = zErr z (secOf u) := by unfold offE; rw [if_pos h, if_pos hi]
     rw [ee]
     have el : locR z i u = if zErr z (secOf u) = 0 then onR u ((atZ z (secOf u)).off * 1000000) else (0, 0, zErr z (secOf u)) := by unfold locR; rw [if_pos h, if_pos hi]
     have ho := zErr_or (z := z) (u := secOf u) h.1
     refine brcF (by simp; omega) (brcF (by simpa using hi) ?_)
     refine kA (fun c => ?_) fun c => ?_
     · have c : ¬ zErr z (secOf u) = 0 := by simpa using c
       exact resS (by rw [el, if_neg c])
     · have c : zErr z (secOf u) = 0 := by simpa using c
       have et : offT z i u = atZ z (secOf u) := by unfold offT; rw [if_pos (by rw [ee]; exact c)]
       have hf := atZ_off h.1 (secOf u)
       rw [et, show IntKind.wrap .i64 ((atZ z (secOf u)).off * 1000000) = (atZ z (secOf u)).off * 1000000 from jZ (by omega)]
       refine brcT (decide_eq_true ⟨hu, by unfold I64; omega⟩) ?_
       rintro _ rfl _ rfl _ rfl
       rw [el, if_pos c]
       exact res3 _
   · have ee : offE z i u = 10 := by unfold offE; rw [if_pos h, if_neg hi]
     rw [ee]
     refine brcF rfl (brcT (by simpa using hi) ?_)
     exact resS (by unfold locR; rw [if_pos h, if_neg hi])
 · have ee : offE z i u = 1 := by unfold offE; rw [if_neg h]
   rw [ee]
   exact brcT rfl (resS (by unfold locR; rw [if_neg h]))
theorem csLoc_ok : COk Tryz.prog 10 csLoc := afl_con (kB csOff_ok (kB csOn_ok bA)) (by kernel_rfl) fun args p v hc hp => by
 unfold csLoc at hc
 split at hc
 case h_2 => cases hc
 split at hc
 case h_2 => cases hc
 rename_i i u _ q z hl
 simp only [Option.some.injEq, Prod.mk.injEq] at hc
 obtain ⟨rfl, rfl⟩ := hc
 rw [Bool.and_eq_true] at hp
 obtain ⟨rfl, hq⟩ := hp
 obtain ⟨k1, k2⟩ := rdZ_move hl
 exact ⟨_, _, _, fun w A hA => rl_1 (fun V h => k2 h) hA, ltOk_none _ _, stloc_ok k1 (of_decide_eq_true hq)⟩
set_option maxRecDepth 100000 in
theorem stins_vc (z : Zt) (i u : Int) (K : AV → Prop) : AFL (tab [(49, zyRight), (51, csRS), (74, csDiv), (75, csMod), (36, zyInst), (37, csJoin)]) (noLoops) 6 12 [.agg (avZ z), .agg [.int .i64 i, .int .i64 u]] K =
 (brc (tyR (Zt.n z) (znRow z) && bdZ (Zt.F z)) (∀ (m0 : Bool), m0 = decide (ZtOk z) → brc (!m0) (K (AV.tup [AV.agg [AV.int IntKind.i64 0, AV.int IntKind.i64 0], AV.int IntKind.i64 0, AV.int IntKind.i64 1])) (brc (decide (I64 u)) (∀ (m1 : Bool), m1 = decide (DRS i u) → brc (!m1) (K (AV.tup [AV.agg [AV.int IntKind.i64 0, AV.int IntKind.i64 0], AV.int IntKind.i64 0, AV.int IntKind.i64 1])) (brc (i != 0) (K (AV.tup [AV.agg [AV.int IntKind.i64 i, AV.int IntKind.i64 u], AV.int IntKind.i64 0, AV.int IntKind.i64 0])) (brc (decide (I64 u)) (∀ (m2 : Int), m2 = u / 1000000 → ∀ (m3 : Int), m3 = 0 → brc (decide (I64 u)) (∀ (m4 : Int), m4 = u % 1000000 → ∀ (m5 : Int), m5 = 0 → brc (tyR (Zt.n z) (znRow z) && bdZ (Zt.F z) && decide (-9223372036854775808 ≤ IntKind.wrap IntKind.i64 (m2 + 946684800) ∧ IntKind.wrap IntKind.i64 (m2 + 946684800) ≤ 9223372036854775807)) (∀ (m6 : Int), m6 = Prod.fst (instE z (IntKind.wrap IntKind.i64 (m2 + 946684800))) → ∀ (m7 : Int), m7 = Prod.snd (instE z (IntKind.wrap IntKind.i64 (m2 + 946684800))) → ∀ (m8 : Int), m8 = iErr z (IntKind.wrap IntKind.i64 (m2 + 946684800)) → brc (m8 == 0) (brc (decide (I64 (m6 - 946684800) ∧ I64 m4)) (∀ (m9 : Int), m9 = Prod.fst (joinR m6 m4) → ∀ (m10 : Int), m10 = Prod.fst (Prod.snd (joinR m6 m4)) → ∀ (m11 : Int), m11 = Prod.snd (Prod.snd (joinR m6 m4)) → brc (m11 != 0) (K (AV.tup [AV.agg [AV.int IntKind.i64 0, AV.int IntKind.i64 0], AV.int IntKind.i64 0, AV.int IntKind.i64 m11])) (K (AV.tup [AV.agg [AV.int IntKind.i64 m9, AV.int IntKind.i64 m10], AV.int IntKind.i64 m7, AV.int IntKind.i64 0]))) False) (brc (m8 != 0) (K (AV.tup [AV.agg [AV.int IntKind.i64 0, AV.int IntKind.i64 0], AV.int IntKind.i64 0, AV.int IntKind.i64 m8])) (K (AV.tup [AV.agg [AV.int IntKind.i64 0, AV.int IntKind.i64 0], AV.int IntKind.i64 m7, AV.int IntKind.i64 0])))) False) False) False))) False)) False) := by kernel_rfl
theorem off_zero {z : Zt} {u : Int} (h : ZtOk z) : iErr z u = 0 ∨ iErr z u = 10 := by unfold iErr; rw [if_pos h]; split <;> simp
theorem resI4 {x : Int × Int × Int × Int} {a b c e : Int} (h : x = (a, b, c, e)) : Res (.tup [.agg [.int .i64 x.1, .int .i64 x.2.1], .int .i64 x.2.2.1, .int .i64 x.2.2.2]) (.tup [.agg [.int .i64 a, .int .i64 b], .int .i64 c, .int .i64 e]) := by rw [h]; exact res_rfl rfl
theorem acS_bd {z : Zt} {u : Int} (hb : bdZ z.F = true) (h : iErr z u = 0) : u - 57600 ≤ (instE z u).1 ∧ (instE z u).1 ≤ u + 57600 := (inst_law ⟨hb, h⟩).1
theorem stins_ok {z : Zt} {i u : Int} (hb : bdZ z.F = true) (hu : I64 u) : AFL (tab [(49, zyRight), (51, csRS), (74, csDiv), (75, csMod), (36, zyInst), (37, csJoin)]) noLoops 6 12 [.agg (avZ z), .agg [.int .i64 i, .int .i64 u]] (Res (.tup [.agg [.int .i64 (insR z i u).1, .int .i64 (insR z i u).2.1], .int .i64 (insR z i u).2.2.1, .int .i64 (insR z i u).2.2.2])) := by
 rw [stins_vc]
 refine brcT (tyZ z hb) ?_
 rintro _ rfl
 refine kA (fun a => ?_) fun a => ?_
 · exact resI4 (by unfold insR; rw [if_neg (fun q => by simp [q.1] at a)])
 have hz : ZtOk z := by simpa using a
 refine brcT (decide_eq_true hu) ?_
 rintro _ rfl
 refine kA (fun b => ?_) fun b => ?_
 · exact resI4 (by unfold insR; rw [if_neg (fun q => by simp [q.2] at b)])
 have hd : DRS i u := by simpa using b
 refine kA (fun c => ?_) fun c => ?_
 · exact resI4 (by unfold insR; rw [if_pos ⟨hz, hd⟩, if_neg (by simpa using c)])
 have hi : i = 0 := by simpa using c
 refine brcT (decide_eq_true hu) ?_
 rintro _ rfl _ rfl
 refine brcT (decide_eq_true hu) ?_
 rintro _ rfl _ rfl
 have hs := sec_bd hu
 rw [show IntKind.wrap .i64 (u / 1000000 + 946684800) = secOf u from jZ hs]
 refine brcT (by rw [tyZ z hb, decide_eq_true (show -9223372036854775808 ≤ secOf u ∧ secOf u ≤ 9223372036854775807 from hs)]; rfl) ?_
 rintro _ rfl _ rfl _ rfl
 have el : insR z i u = if iErr z (secOf u) = 0 then insF z (instE z (secOf u)) (u % 1000000) else (0, 0, 0, iErr z (secOf u)) := by unfold insR; rw [if_pos ⟨hz, hd⟩, if_pos hi]
 rw [el]
 refine kA (fun c => ?_) fun c => ?_
 · have c : iErr z (secOf u) = 0 := by simpa using c
   rw [if_pos c]
   have bd := acS_bd hb c
   have su : secOf u = u / 1000000 + 946684800 := rfl
   refine brcT (decide_eq_true ⟨by unfold I64 at *; omega, by unfold I64; omega⟩) ?_
   rintro _ rfl _ rfl _ rfl
   refine kA (fun d => ?_) fun d => ?_
   · have d : ¬ (joinR (instE z (secOf u)).1 (u % 1000000)).2.2 = 0 := by simpa using d
     exact resI4 (by unfold insF; rw [if_neg d])
   · have d : (joinR (instE z (secOf u)).1 (u % 1000000)).2.2 = 0 := by simpa using d
     exact resI4 (by unfold insF; rw [if_pos d])
 · have c : ¬ iErr z (secOf u) = 0 := by simpa using c
   rw [if_neg c]
   exact brcT (by simpa using c) (resI4 rfl)
theorem csIns_ok : COk Tryz.prog 12 csIns := afl_con (kB zyRight_ok (kB csRS_ok (kB csDiv_ok (kB csMod_ok (kB zyInst_ok (kB csJoin_ok bA)))))) (by kernel_rfl) fun args p v hc hp => by
 unfold csIns at hc
 split at hc
 case h_2 => cases hc
 split at hc
 case h_2 => cases hc
 rename_i i u _ q z hl
 simp only [Option.some.injEq, Prod.mk.injEq] at hc
 obtain ⟨rfl, rfl⟩ := hc
 rw [Bool.and_eq_true] at hp
 obtain ⟨rfl, hq⟩ := hp
 obtain ⟨k1, k2⟩ := rdZ_move hl
 exact ⟨_, _, _, fun w A hA => rl_1 (fun V h => k2 h) hA, ltOk_none _ _, stins_ok k1 (of_decide_eq_true hq)⟩
theorem i64_0 : I64 0 := by unfold I64; omega
def Made (x : Int × Int × Int) : Prop := x.1 = 0 ∧ I64 x.2.1 ∧ (x.2.2 = 0 → DRS 0 x.2.1) ∧ (x.2.2 = 0 ∨ x.2.2 = 10 ∨ x.2.2 = 1) ∧ (x.2.2 ≠ 0 → x.2.1 = 0)
theorem made_no {e : Int} (h : e = 10 ∨ e = 1) : Made (0, 0, e) := ⟨rfl, i64_0, fun q => by simp only at q; omega, .inr h, fun _ => rfl⟩
theorem made_is (x : Int) (h : I64 x) (g : DRS 0 x) : Made (0, x, 0) := ⟨rfl, h, fun _ => g, .inl rfl, fun q => (q rfl).elim⟩
theorem onR_made (w s : Int) : Made (onR w s) := by
 unfold onR
 split
 · rename_i h; exact made_is _ h.1 h.2
 · exact made_no (.inl rfl)
theorem joinR_made (w s : Int) : Made (joinR w s) := by
 unfold joinR
 split
 · exact onR_made _ _
 · exact made_no (.inl rfl)
theorem daysR_made (v q d : Int) : Made (daysR v q d) := by
 unfold daysR
 split
 · exact made_no (.inl rfl)
 · split
   · rename_i x _ h
     refine made_is _ (stamp_i64 h) ?_
     rw [drs_fin]
     have : ((x + d) * 86400000000 + v % 86400000000) / 86400000000 = x + d := by omega
     rw [this]; exact h
   · exact made_no (.inl rfl)
theorem zErr_e {z : Zt} {u : Int} (h : ZtOk z) (q : ¬ zErr z u = 0) : zErr z u = 10 := by rcases zErr_or (u := u) h with e | e; exact (q e).elim; exact e
theorem iErr_e {z : Zt} {u : Int} (h : ZtOk z) (q : ¬ iErr z u = 0) : iErr z u = 10 := by rcases off_zero (u := u) h with e | e; exact (q e).elim; exact e
theorem locR_made (z : Zt) (u : Int) : Made (locR z 0 u) := by
 unfold locR
 split
 · rename_i h
   rw [if_pos rfl]
   split
   · exact onR_made _ _
   · rename_i g; rw [zErr_e h.1 g]; exact made_no (.inl rfl)
 · exact made_no (.inr rfl)
theorem insR_made (z : Zt) (u : Int) : Made ((insR z 0 u).1, (insR z 0 u).2.1, (insR z 0 u).2.2.2) := by
 unfold insR
 split
 · rename_i h
   rw [if_pos rfl]
   split
   · unfold insF
     have hj := joinR_made (instE z (secOf u)).1 (u % 1000000)
     split
     · rename_i g
       refine ⟨hj.1, hj.2.1, fun _ => hj.2.2.1 g, .inl rfl, fun q => (q rfl).elim⟩
     · rename_i g
       have k : (joinR (instE z (secOf u)).1 (u % 1000000)).2.2 = 10 ∨ (joinR (instE z (secOf u)).1 (u % 1000000)).2.2 = 1 := by have := hj.2.2.2.1; omega
       exact made_no k
   · rename_i g; rw [iErr_e h.1 g]; exact made_no (.inl rfl)
 · exact made_no (.inr rfl)
theorem drs_bd {i u : Int} (h : DRS i u) : -1 ≤ i ∧ i ≤ 1 := by unfold DRS at h; omega
theorem sok_bd {i m d u : Int} (h : SOk i m d u) : -1 ≤ i ∧ i ≤ 1 := by unfold SOk at h; omega
theorem ij_wrap {i j : Int} (hi : -1 ≤ i ∧ i ≤ 1) (hj : -1 ≤ j ∧ j ≤ 1) : IntKind.wrap .i64 (i * j) = i * j := by
 have : i = -1 ∨ i = 0 ∨ i = 1 := by omega
 rcases this with rfl | rfl | rfl <;> exact jZ (by omega)
set_option maxRecDepth 100000 in
theorem stplus_vc (i u j q d s : Int) (K : AV → Prop) : AFL (tab [(51, csRS), (27, csSp), (44, csDays), (29, csOn)]) (noLoops) 8 17 [.agg [.int .i64 i, .int .i64 u], .agg [.int .i64 j, .int .i64 q, .int .i64 d, .int .i64 s]] K =
 (brc (decide (I64 u)) (∀ (m0 : Bool), m0 = decide (DRS i u) → brc (!m0) (K (AV.tup [AV.agg [AV.int IntKind.i64 0, AV.int IntKind.i64 0], AV.int IntKind.i64 1])) (brc (decide (I64 s)) (∀ (m1 : Bool), m1 = decide (SOk j q d s) → brc (!m1) (K (AV.tup [AV.agg [AV.int IntKind.i64 0, AV.int IntKind.i64 0], AV.int IntKind.i64 1])) (brc (decide (IntKind.wrap IntKind.i64 (i * j) < 0)) (K (AV.tup [AV.agg [AV.int IntKind.i64 0, AV.int IntKind.i64 0], AV.int IntKind.i64 10])) (brc (i != 0) (K (AV.tup [AV.agg [AV.int IntKind.i64 i, AV.int IntKind.i64 0], AV.int IntKind.i64 0])) (brc (j != 0) (K (AV.tup [AV.agg [AV.int IntKind.i64 j, AV.int IntKind.i64 0], AV.int IntKind.i64 0])) (brc (decide (I64 u ∧ I64 d ∧ DRS i u ∧ i = 0 ∧ j = 0)) (∀ (m2 : Int), m2 = Prod.fst (daysR u q d) → ∀ (m3 : Int), m3 = Prod.fst (Prod.snd (daysR u q d)) → ∀ (m4 : Int), m4 = Prod.snd (Prod.snd (daysR u q d)) → brc (m4 != 0) (K (AV.tup [AV.agg [AV.int IntKind.i64 0, AV.int IntKind.i64 0], AV.int IntKind.i64 m4])) (brc (decide (I64 m3 ∧ I64 s)) (∀ (m5 : Int), m5 = Prod.fst (onR m3 s) → ∀ (m6 : Int), m6 = Prod.fst (Prod.snd (onR m3 s)) → ∀ (m7 : Int), m7 = Prod.snd (Prod.snd (onR m3 s)) → K (AV.tup [AV.agg [AV.int IntKind.i64 m5, AV.int IntKind.i64 m6], AV.int IntKind.i64 m7])) False)) False))))) False)) False) := by kernel_rfl
theorem stplus_ok {i u j q d s : Int} (hu : I64 u) (hd : I64 d) (hs : I64 s) : AFL (tab [(51, csRS), (27, csSp), (44, csDays), (29, csOn)]) noLoops 8 17 [.agg [.int .i64 i, .int .i64 u], .agg [.int .i64 j, .int .i64 q, .int .i64 d, .int .i64 s]] (Res (avS (plusR i u j q d s))) := by
 rw [stplus_vc]
 refine brcT (decide_eq_true hu) ?_
 rintro _ rfl
 refine kA (fun a => ?_) fun a => ?_
 · exact resS (by unfold plusR; rw [if_neg (fun q => by simp [q.1] at a)])
 have ha : DRS i u := by simpa using a
 refine brcT (decide_eq_true hs) ?_
 rintro _ rfl
 refine kA (fun b => ?_) fun b => ?_
 · exact resS (by unfold plusR; rw [if_neg (fun q => by simp [q.2] at b)])
 have hb : SOk j q d s := by simpa using b
 have e : plusR i u j q d s = infR i j (thenOn (daysR u q d) s) := by unfold plusR; rw [if_pos ⟨ha, hb⟩]
 rw [e, ij_wrap (drs_bd ha) (sok_bd hb)]
 unfold infR
 refine kA (fun c => ?_) fun c => ?_
 · rw [if_pos (of_decide_eq_true c)]; exact resS rfl
 rw [if_neg (of_decide_eq_false c)]
 refine kA (fun c => ?_) fun c => ?_
 · rw [if_pos (by simpa using c)]; exact resS rfl
 have hi : i = 0 := by simpa using c
 rw [if_neg (by omega)]
 refine kA (fun c => ?_) fun c => ?_
 · rw [if_pos (by simpa using c)]; exact resS rfl
 have hj : j = 0 := by simpa using c
 rw [if_neg (by omega)]
 refine brcT (decide_eq_true ⟨hu, hd, ha, hi, hj⟩) ?_
 rintro _ rfl _ rfl _ rfl
 have hm := daysR_made u q d
 unfold thenOn
 refine kA (fun c => ?_) fun c => ?_
 · rw [if_neg (by simpa using c)]; exact resS rfl
 rw [if_pos (by simpa using c)]
 refine brcT (decide_eq_true ⟨hm.2.1, hs⟩) ?_
 rintro _ rfl _ rfl _ rfl
 exact res3 _
theorem csPlus_ok : COk Tryz.prog 17 csPlus := afl_con (kB csRS_ok (kB csSp_ok (kB csDays_ok (kB csOn_ok bA)))) (by kernel_rfl) fun args p v hc hp => by
 unfold csPlus at hc
 split at hc
 case h_2 => cases hc
 simp only [Option.some.injEq, Prod.mk.injEq] at hc
 obtain ⟨rfl, rfl⟩ := hc
 obtain ⟨h1, h2, h3⟩ := of_decide_eq_true hp
 exact ⟨_, _, _, fun w A hA => hA, ltOk_none _ _, stplus_ok h1 h2 h3⟩
set_option maxRecDepth 100000 in
theorem sttz_vc (z : Zt) (i u j q d s : Int) (K : AV → Prop) : AFL (tab [(49, zyRight), (51, csRS), (27, csSp), (10, csLoc), (44, csDays), (12, csIns), (29, csOn)]) (noLoops) 8 19 [.agg (avZ z), .agg [.int .i64 i, .int .i64 u], .agg [.int .i64 j, .int .i64 q, .int .i64 d, .int .i64 s]] K =
 (brc (tyR (Zt.n z) (znRow z) && bdZ (Zt.F z)) (∀ (m0 : Bool), m0 = decide (ZtOk z) → brc (!m0) (K (AV.tup [AV.agg [AV.int IntKind.i64 0, AV.int IntKind.i64 0], AV.int IntKind.i64 1])) (brc (decide (I64 u)) (∀ (m1 : Bool), m1 = decide (DRS i u) → brc (!m1) (K (AV.tup [AV.agg [AV.int IntKind.i64 0, AV.int IntKind.i64 0], AV.int IntKind.i64 1])) (brc (decide (I64 s)) (∀ (m2 : Bool), m2 = decide (SOk j q d s) → brc (!m2) (K (AV.tup [AV.agg [AV.int IntKind.i64 0, AV.int IntKind.i64 0], AV.int IntKind.i64 1])) (brc (decide (IntKind.wrap IntKind.i64 (i * j) < 0)) (K (AV.tup [AV.agg [AV.int IntKind.i64 0, AV.int IntKind.i64 0], AV.int IntKind.i64 10])) (brc (i != 0) (K (AV.tup [AV.agg [AV.int IntKind.i64 i, AV.int IntKind.i64 0], AV.int IntKind.i64 0])) (brc (j != 0) (K (AV.tup [AV.agg [AV.int IntKind.i64 j, AV.int IntKind.i64 0], AV.int IntKind.i64 0])) (brc (q == 0) (brc (d == 0) (brc (decide (I64 u ∧ I64 s)) (∀ (m3 : Int), m3 = Prod.fst (onR u s) → ∀ (m4 : Int), m4 = Prod.fst (Prod.snd (onR u s)) → ∀ (m5 : Int), m5 = Prod.snd (Prod.snd (onR u s)) → K (AV.tup [AV.agg [AV.int IntKind.i64 m3, AV.int IntKind.i64 m4], AV.int IntKind.i64 m5])) False) (brc (tyR (Zt.n z) (znRow z) && bdZ (Zt.F z) && decide (I64 u)) (∀ (m3 : Int), m3 = Prod.fst (locR z i u) → ∀ (m4 : Int), m4 = Prod.fst (Prod.snd (locR z i u)) → ∀ (m5 : Int), m5 = Prod.snd (Prod.snd (locR z i u)) → brc (m5 == 0) (brc (decide (I64 m4 ∧ I64 d ∧ DRS m3 m4 ∧ m3 = 0 ∧ j = 0)) (∀ (m6 : Int), m6 = Prod.fst (daysR m4 q d) → ∀ (m7 : Int), m7 = Prod.fst (Prod.snd (daysR m4 q d)) → ∀ (m8 : Int), m8 = Prod.snd (Prod.snd (daysR m4 q d)) → brc (m8 != 0) (brc (m8 != 0) (K (AV.tup [AV.agg [AV.int IntKind.i64 0, AV.int IntKind.i64 0], AV.int IntKind.i64 m8])) (brc (decide (I64 0 ∧ I64 s)) (∀ (m9 : Int), m9 = Prod.fst (onR 0 s) → ∀ (m10 : Int), m10 = Prod.fst (Prod.snd (onR 0 s)) → ∀ (m11 : Int), m11 = Prod.snd (Prod.snd (onR 0 s)) → K (AV.tup [AV.agg [AV.int IntKind.i64 m9, AV.int IntKind.i64 m10], AV.int IntKind.i64 m11])) False)) (brc (tyR (Zt.n z) (znRow z) && bdZ (Zt.F z) && decide (I64 m7)) (∀ (m9 : Int), m9 = Prod.fst (insR z m6 m7) → ∀ (m10 : Int), m10 = Prod.fst (Prod.snd (insR z m6 m7)) → ∀ (m11 : Int), m11 = Prod.fst (Prod.snd (Prod.snd (insR z m6 m7))) → ∀ (m12 : Int), m12 = Prod.snd (Prod.snd (Prod.snd (insR z m6 m7))) → brc (m12 != 0) (K (AV.tup [AV.agg [AV.int IntKind.i64 0, AV.int IntKind.i64 0], AV.int IntKind.i64 m12])) (brc (decide (I64 m10 ∧ I64 s)) (∀ (m13 : Int), m13 = Prod.fst (onR m10 s) → ∀ (m14 : Int), m14 = Prod.fst (Prod.snd (onR m10 s)) → ∀ (m15 : Int), m15 = Prod.snd (Prod.snd (onR m10 s)) → K (AV.tup [AV.agg [AV.int IntKind.i64 m13, AV.int IntKind.i64 m14], AV.int IntKind.i64 m15])) False)) False)) False) (brc (m5 != 0) (brc (m5 != 0) (K (AV.tup [AV.agg [AV.int IntKind.i64 0, AV.int IntKind.i64 0], AV.int IntKind.i64 m5])) (brc (decide (I64 0 ∧ I64 s)) (∀ (m6 : Int), m6 = Prod.fst (onR 0 s) → ∀ (m7 : Int), m7 = Prod.fst (Prod.snd (onR 0 s)) → ∀ (m8 : Int), m8 = Prod.snd (Prod.snd (onR 0 s)) → K (AV.tup [AV.agg [AV.int IntKind.i64 m6, AV.int IntKind.i64 m7], AV.int IntKind.i64 m8])) False)) (brc (tyR (Zt.n z) (znRow z) && bdZ (Zt.F z) && decide (I64 m4)) (∀ (m6 : Int), m6 = Prod.fst (insR z m3 m4) → ∀ (m7 : Int), m7 = Prod.fst (Prod.snd (insR z m3 m4)) → ∀ (m8 : Int), m8 = Prod.fst (Prod.snd (Prod.snd (insR z m3 m4))) → ∀ (m9 : Int), m9 = Prod.snd (Prod.snd (Prod.snd (insR z m3 m4))) → brc (m9 != 0) (K (AV.tup [AV.agg [AV.int IntKind.i64 0, AV.int IntKind.i64 0], AV.int IntKind.i64 m9])) (brc (decide (I64 m7 ∧ I64 s)) (∀ (m10 : Int), m10 = Prod.fst (onR m7 s) → ∀ (m11 : Int), m11 = Prod.fst (Prod.snd (onR m7 s)) → ∀ (m12 : Int), m12 = Prod.snd (Prod.snd (onR m7 s)) → K (AV.tup [AV.agg [AV.int IntKind.i64 m10, AV.int IntKind.i64 m11], AV.int IntKind.i64 m12])) False)) False))) False)) (brc (tyR (Zt.n z) (znRow z) && bdZ (Zt.F z) && decide (I64 u)) (∀ (m3 : Int), m3 = Prod.fst (locR z i u) → ∀ (m4 : Int), m4 = Prod.fst (Prod.snd (locR z i u)) → ∀ (m5 : Int), m5 = Prod.snd (Prod.snd (locR z i u)) → brc (m5 == 0) (brc (decide (I64 m4 ∧ I64 d ∧ DRS m3 m4 ∧ m3 = 0 ∧ j = 0)) (∀ (m6 : Int), m6 = Prod.fst (daysR m4 q d) → ∀ (m7 : Int), m7 = Prod.fst (Prod.snd (daysR m4 q d)) → ∀ (m8 : Int), m8 = Prod.snd (Prod.snd (daysR m4 q d)) → brc (m8 != 0) (brc (m8 != 0) (K (AV.tup [AV.agg [AV.int IntKind.i64 0, AV.int IntKind.i64 0], AV.int IntKind.i64 m8])) (brc (decide (I64 0 ∧ I64 s)) (∀ (m9 : Int), m9 = Prod.fst (onR 0 s) → ∀ (m10 : Int), m10 = Prod.fst (Prod.snd (onR 0 s)) → ∀ (m11 : Int), m11 = Prod.snd (Prod.snd (onR 0 s)) → K (AV.tup [AV.agg [AV.int IntKind.i64 m9, AV.int IntKind.i64 m10], AV.int IntKind.i64 m11])) False)) (brc (tyR (Zt.n z) (znRow z) && bdZ (Zt.F z) && decide (I64 m7)) (∀ (m9 : Int), m9 = Prod.fst (insR z m6 m7) → ∀ (m10 : Int), m10 = Prod.fst (Prod.snd (insR z m6 m7)) → ∀ (m11 : Int), m11 = Prod.fst (Prod.snd (Prod.snd (insR z m6 m7))) → ∀ (m12 : Int), m12 = Prod.snd (Prod.snd (Prod.snd (insR z m6 m7))) → brc (m12 != 0) (K (AV.tup [AV.agg [AV.int IntKind.i64 0, AV.int IntKind.i64 0], AV.int IntKind.i64 m12])) (brc (decide (I64 m10 ∧ I64 s)) (∀ (m13 : Int), m13 = Prod.fst (onR m10 s) → ∀ (m14 : Int), m14 = Prod.fst (Prod.snd (onR m10 s)) → ∀ (m15 : Int), m15 = Prod.snd (Prod.snd (onR m10 s)) → K (AV.tup [AV.agg [AV.int IntKind.i64 m13, AV.int IntKind.i64 m14], AV.int IntKind.i64 m15])) False)) False)) False) (brc (m5 != 0) (brc (m5 != 0) (K (AV.tup [AV.agg [AV.int IntKind.i64 0, AV.int IntKind.i64 0], AV.int IntKind.i64 m5])) (brc (decide (I64 0 ∧ I64 s)) (∀ (m6 : Int), m6 = Prod.fst (onR 0 s) → ∀ (m7 : Int), m7 = Prod.fst (Prod.snd (onR 0 s)) → ∀ (m8 : Int), m8 = Prod.snd (Prod.snd (onR 0 s)) → K (AV.tup [AV.agg [AV.int IntKind.i64 m6, AV.int IntKind.i64 m7], AV.int IntKind.i64 m8])) False)) (brc (tyR (Zt.n z) (znRow z) && bdZ (Zt.F z) && decide (I64 m4)) (∀ (m6 : Int), m6 = Prod.fst (insR z m3 m4) → ∀ (m7 : Int), m7 = Prod.fst (Prod.snd (insR z m3 m4)) → ∀ (m8 : Int), m8 = Prod.fst (Prod.snd (Prod.snd (insR z m3 m4))) → ∀ (m9 : Int), m9 = Prod.snd (Prod.snd (Prod.snd (insR z m3 m4))) → brc (m9 != 0) (K (AV.tup [AV.agg [AV.int IntKind.i64 0, AV.int IntKind.i64 0], AV.int IntKind.i64 m9])) (brc (decide (I64 m7 ∧ I64 s)) (∀ (m10 : Int), m10 = Prod.fst (onR m7 s) → ∀ (m11 : Int), m11 = Prod.fst (Prod.snd (onR m7 s)) → ∀ (m12 : Int), m12 = Prod.snd (Prod.snd (onR m7 s)) → K (AV.tup [AV.agg [AV.int IntKind.i64 m10, AV.int IntKind.i64 m11], AV.int IntKind.i64 m12])) False)) False))) False)))))) False)) False)) False) := by kernel_rfl
theorem sttz_ok {z : Zt} {i u j q d s : Int} (hbd : bdZ z.F = true) (hu : I64 u) (hd : I64 d) (hs : I64 s) : AFL (tab [(49, zyRight), (51, csRS), (27, csSp), (10, csLoc), (44, csDays), (12, csIns), (29, csOn)]) noLoops 8 19 [.agg (avZ z), .agg [.int .i64 i, .int .i64 u], .agg [.int .i64 j, .int .i64 q, .int .i64 d, .int .i64 s]] (Res (avS (tzR z i u j q d s))) := by
 rw [sttz_vc]
 refine brcT (tyZ z hbd) ?_
 rintro _ rfl
 refine kA (fun a => ?_) fun a => ?_
 · exact resS (by unfold tzR; rw [if_neg (fun q => by simp [q.1] at a)])
 have hz : ZtOk z := by simpa using a
 refine brcT (decide_eq_true hu) ?_
 rintro _ rfl
 refine kA (fun a => ?_) fun a => ?_
 · exact resS (by unfold tzR; rw [if_neg (fun q => by simp [q.2.1] at a)])
 have ha : DRS i u := by simpa using a
 refine brcT (decide_eq_true hs) ?_
 rintro _ rfl
 refine kA (fun b => ?_) fun b => ?_
 · exact resS (by unfold tzR; rw [if_neg (fun q => by simp [q.2.2] at b)])
 have hb : SOk j q d s := by simpa using b
 have e : tzR z i u j q d s = infR i j (thenOn (movR z u q d) s) := by unfold tzR; rw [if_pos ⟨hz, ha, hb⟩]
 rw [e, ij_wrap (drs_bd ha) (sok_bd hb)]
 unfold infR
 refine kA (fun c => ?_) fun c => ?_
 · rw [if_pos (of_decide_eq_true c)]; exact resS rfl
 rw [if_neg (of_decide_eq_false c)]
 refine kA (fun c => ?_) fun c => ?_
 · rw [if_pos (by simpa using c)]; exact resS rfl
 have hi : i = 0 := by simpa using c
 rw [if_neg (by omega)]
 refine kA (fun c => ?_) fun c => ?_
 · rw [if_pos (by simpa using c)]; exact resS rfl
 have hj : j = 0 := by simpa using c
 rw [if_neg (by omega)]
 subst hi
 have hl := locR_made z u
 refine kA (fun a => kA (fun b => ?_) fun b => ?_) fun a => ?_
 · have em : movR z u q d = (0, u, 0) := by unfold movR; rw [if_pos ⟨by simpa using a, by simpa using b⟩]
   rw [em]
   refine brcT (decide_eq_true ⟨hu, hs⟩) ?_
   rintro _ rfl _ rfl _ rfl
   exact res3 _
 all_goals
  have em : movR z u q d = if (locR z 0 u).2.2 = 0 then movD z (daysR (locR z 0 u).2.1 q d) else (0, 0, (locR z 0 u).2.2) := by
   unfold movR; rw [if_neg (by rintro ⟨x, y⟩; simp_all)]
  rw [em]
  refine brcT (by rw [tyZ z hbd, decide_eq_true hu]; rfl) ?_
  rintro _ rfl _ rfl _ rfl
  refine kA (fun c => ?_) fun c => ?_
  · have c : (locR z 0 u).2.2 = 0 := by simpa using c
    rw [if_pos c]
    have hr := hl.2.2.1 c
    have hm := daysR_made (locR z 0 u).2.1 q d
    refine brcT (decide_eq_true ⟨hl.2.1, hd, by rw [hl.1]; exact hr, hl.1, hj⟩) ?_
    rintro _ rfl _ rfl _ rfl
    unfold movD
    refine kA (fun g => ?_) fun g => ?_
    · refine brcT g ?_
      have g : ¬ (daysR (locR z 0 u).2.1 q d).2.2 = 0 := by simpa using g
      rw [if_neg g]
      exact resS (by unfold thenOn; rw [if_neg g])
    · have g : (daysR (locR z 0 u).2.1 q d).2.2 = 0 := by simpa using g
      rw [if_pos g]
      refine brcT (by rw [tyZ z hbd, decide_eq_true hm.2.1]; rfl) ?_
      rintro _ rfl _ rfl _ rfl _ rfl
      rw [hm.1]
      have hn := insR_made z (daysR (locR z 0 u).2.1 q d).2.1
      refine kA (fun k => ?_) fun k => ?_
      · have k : ¬ (insR z 0 (daysR (locR z 0 u).2.1 q d).2.1).2.2.2 = 0 := by simpa using k
        exact resS (by unfold thenOn; rw [if_neg k])
      · have k : (insR z 0 (daysR (locR z 0 u).2.1 q d).2.1).2.2.2 = 0 := by simpa using k
        refine brcT (decide_eq_true ⟨hn.2.1, hs⟩) ?_
        rintro _ rfl _ rfl _ rfl
        have et : thenOn ((insR z 0 (daysR (locR z 0 u).2.1 q d).2.1).1, (insR z 0 (daysR (locR z 0 u).2.1 q d).2.1).2.1, (insR z 0 (daysR (locR z 0 u).2.1 q d).2.1).2.2.2) s = onR (insR z 0 (daysR (locR z 0 u).2.1 q d).2.1).2.1 s := by unfold thenOn; rw [if_pos k]
        rw [et]
        exact res3 _
  · have c : ¬ (locR z 0 u).2.2 = 0 := by simpa using c
    rw [if_neg c]
    refine brcT (by simpa using c) (brcT (by simpa using c) ?_)
    exact resS (by unfold thenOn; rw [if_neg c])
theorem csTz_ok : COk Tryz.prog 19 csTz := afl_con (kB zyRight_ok (kB csRS_ok (kB csSp_ok (kB csLoc_ok (kB csDays_ok (kB csIns_ok (kB csOn_ok bA))))))) (by kernel_rfl) fun args p v hc hp => by
 unfold csTz at hc
 split at hc
 case h_2 => cases hc
 split at hc
 case h_2 => cases hc
 rename_i i u j q d s _ r z hl
 simp only [Option.some.injEq, Prod.mk.injEq] at hc
 obtain ⟨rfl, rfl⟩ := hc
 rw [Bool.and_eq_true] at hp
 obtain ⟨rfl, hq⟩ := hp
 obtain ⟨h1, h2, h3⟩ := of_decide_eq_true hq
 obtain ⟨k1, k2⟩ := rdZ_move hl
 exact ⟨_, _, _, fun w A hA => rl_1 (fun V h => k2 h) hA, ltOk_none _ _, sttz_ok k1 h1 h2 h3⟩
def gvZ (z : Zt) (C : Zt → Prop) : Prop := ∀ m1 : Int, m1 = z.F.a.m → ∀ k1 : Int, k1 = z.F.a.k → ∀ w1 : Int, w1 = z.F.a.w → ∀ n1 : Int, n1 = z.F.a.n → ∀ s1 : Int, s1 = z.F.a.s → ∀ c1 : Int, c1 = z.F.a.c → ∀ v1 : Int, v1 = z.F.a.v →
 ∀ m2 : Int, m2 = z.F.b.m → ∀ k2 : Int, k2 = z.F.b.k → ∀ w2 : Int, w2 = z.F.b.w → ∀ n2 : Int, n2 = z.F.b.n → ∀ s2 : Int, s2 = z.F.b.s → ∀ c2 : Int, c2 = z.F.b.c → ∀ v2 : Int, v2 = z.F.b.v →
 C ⟨z.nm, z.at0, z.off0, z.d0, z.b0, z.n, fun i => iOf (znRow z i 0), fun i => iOf (znRow z i 1), fun i => bOf (znRow z i 2), fun i => sOf (znRow z i 3), ⟨z.F.z, z.F.fr, z.F.off, ⟨m1, k1, w1, n1, s1, c1, v1, z.F.a.ab⟩, ⟨m2, k2, w2, n2, s2, c2, v2, z.F.b.ab⟩⟩⟩
theorem gvZ_ok {z : Zt} {C : Zt → Prop} (h : C z) : gvZ z C := by
 rintro _ rfl _ rfl _ rfl _ rfl _ rfl _ rfl _ rfl _ rfl _ rfl _ rfl _ rfl _ rfl _ rfl _ rfl
 exact h
def lbTail (z G0 : Zt) (i u : Int) (K : AV → Prop) : Prop := brc (Nat.ble (0 + Zt.n z) (Zt.n z) && true && true && (tyR (Zt.n z) (znRow z) && bdZ (Zt.F G0) && decide (I64 u))) (∀ (m21 : Int), m21 = Prod.fst (insR G0 i u) → ∀ (m22 : Int), m22 = Prod.fst (Prod.snd (insR G0 i u)) → ∀ (m23 : Int), m23 = Prod.fst (Prod.snd (Prod.snd (insR G0 i u))) → ∀ (m24 : Int), m24 = Prod.snd (Prod.snd (Prod.snd (insR G0 i u))) → brc (m24 != 0) (∀ (m25 : Bool), m25 = true → K (AV.bool m25)) (brc (Nat.ble (0 + Zt.n z) (Zt.n z) && true && true && (tyR (Zt.n z) (znRow z) && bdZ (Zt.F G0) && decide (I64 m22))) (∀ (m25 : Int), m25 = Prod.fst (locR G0 m21 m22) → ∀ (m26 : Int), m26 = Prod.fst (Prod.snd (locR G0 m21 m22)) → ∀ (m27 : Int), m27 = Prod.snd (Prod.snd (locR G0 m21 m22)) → brc (m27 != 0) (brc (m27 == 10) (∀ (m28 : Bool), m28 = true → K (AV.bool m28)) (K (AV.bool false))) (brc ((m25 == i && (m26 == u && true)) == (m23 != 2)) (∀ (m28 : Bool), m28 = true → K (AV.bool m28)) (K (AV.bool false)))) False)) False
set_option maxRecDepth 100000 in
theorem lback_vc (z : Zt) (i u : Int) (K : AV → Prop) : AFL (tab [(28, cyHalf), (26, zyUTC), (49, zyRight), (51, csRS), (27, csSp), (10, csLoc), (12, csIns), (19, csTz), (17, csPlus), (25, zyRight), (16, cyKnown)]) (noLoops) 12 6 [.agg (avZ z), .agg [.int .i64 i, .int .i64 u]] K =
 (brc (oneC 4 (Zt.n z) (znRow z) && roomB (Zt.n z) 40) (gvZ z (fun G0 => brc (Nat.ble (0 + Zt.n z) (Zt.n z) && true && true && (tyR (Zt.n z) (znRow z) && bdZ (Zt.F G0) && decide (I64 u))) (∀ (m14 : Int), m14 = Prod.fst (locR G0 i u) → ∀ (m15 : Int), m15 = Prod.fst (Prod.snd (locR G0 i u)) → ∀ (m16 : Int), m16 = Prod.snd (Prod.snd (locR G0 i u)) → brc (m16 == 0) (brc (Nat.ble (0 + Zt.n z) (Zt.n z) && true && true && (tyR (Zt.n z) (znRow z) && bdZ (Zt.F G0) && decide (I64 m15))) (∀ (m17 : Int), m17 = Prod.fst (insR G0 m14 m15) → ∀ (m18 : Int), m18 = Prod.fst (Prod.snd (insR G0 m14 m15)) → ∀ (m19 : Int), m19 = Prod.fst (Prod.snd (Prod.snd (insR G0 m14 m15))) → ∀ (m20 : Int), m20 = Prod.snd (Prod.snd (Prod.snd (insR G0 m14 m15))) → brc (m20 == 0) (brc (m17 == i && (m18 == u && true)) (brc (m19 != 2) (lbTail z G0 i u K) (brc (m19 == 1) (brc (!decide (m18 < u)) (K (AV.bool false)) (lbTail z G0 i u K)) (K (AV.bool false)))) (brc (m19 == 1) (brc (!decide (m18 < u)) (K (AV.bool false)) (lbTail z G0 i u K)) (K (AV.bool false)))) (lbTail z G0 i u K)) False) (lbTail z G0 i u K)) False)) False) := by kernel_rfl
set_option maxRecDepth 100000 in
theorem half17_vc (h : Hf) (K : AV → Prop) : AF (tab []) 6 28 [.agg (avH h)] K =
 (K (AV.agg [AV.int IntKind.i64 (Hf.m h), AV.int IntKind.i64 (Hf.k h), AV.int IntKind.i64 (Hf.w h), AV.int IntKind.i64 (Hf.n h), AV.int IntKind.i64 (Hf.s h), AV.int IntKind.u8 (Hf.c h), AV.int IntKind.i64 (Hf.v h), AV.str (Hf.ab h)])) := by kernel_rfl
theorem cyHalf17_ok : COk Tryz.prog 28 cyHalf := af_con bA (by kernel_rfl) fun args p v hc hp => by
 unfold cyHalf at hc
 split at hc
 case h_2 => cases hc
 split at hc
 case h_2 => cases hc
 rename_i h hl
 simp only [Option.some.injEq, Prod.mk.injEq] at hc
 obtain ⟨_, rfl⟩ := hc
 rw [rdH_ok hl]
 refine ⟨rfl, 6, ?_⟩
 rw [half17_vc]
 rfl
set_option maxRecDepth 100000 in
theorem utc_run : runC Tryz.prog 60 (tab []) 26 [] = some (true, .agg avUTC) := by kernel_rfl
theorem zyUTC_ok : COk Tryz.prog 26 zyUTC := by
 intro args p v hc hp w A hA
 unfold zyUTC at hc
 split at hc
 case h_2 => cases hc
 simp only [Option.some.injEq, Prod.mk.injEq] at hc
 obtain ⟨rfl, rfl⟩ := hc
 exact runC_ok mixed 60 bA _ _ true _ utc_run rfl w A hA
theorem cyKnown17_ok : COk Tryz.prog 16 cyKnown := by
 intro args p v hc hp w A hA
 unfold cyKnown at hc
 split at hc
 case h_2 => cases hc
 simp only [Option.some.injEq, Prod.mk.injEq] at hc
 obtain ⟨rfl, rfl⟩ := hc
 exact runC_ok mixed 450 (runT_ok mixed 450 TK5_ok 8) _ _ true _ known_run rfl w A hA
theorem oneC_row (z : Zt) : oneC 4 z.n (znRow z) = true := @decide_eq_true _ (Classical.propDecidable _) fun i j _ hj => by
 match j, hj with
 | 0, _ => rfl
 | 1, _ => rfl
 | 2, _ => rfl
 | 3, _ => rfl
theorem room_z (z : Zt) : (Nat.ble (0 + z.n) z.n && true && true) = true := by simp
theorem stT_ok17 : TabOk Tryz.prog (tab [(28, cyHalf), (26, zyUTC), (49, zyRight), (51, csRS), (27, csSp), (10, csLoc), (12, csIns), (19, csTz), (17, csPlus), (25, zyRight), (16, cyKnown)]) := kB cyHalf17_ok (kB zyUTC_ok (kB zyRight_ok (kB csRS_ok (kB csSp_ok (kB csLoc_ok (kB csIns_ok (kB csTz_ok (kB csPlus_ok (kB rzRight_ok (kB cyKnown17_ok bA))))))))))
theorem onR_val {w s : Int} (h : (onR w s).2.2 = 0) : onR w s = (0, w + s, 0) ∧ I64 (w + s) ∧ DRS 0 (w + s) := by
 unfold onR at h ⊢
 split at h
 · rename_i k
   rw [if_pos k]
   exact ⟨rfl, k⟩
 · simp at h
theorem joinR_val {x us : Int} (h : (joinR x us).2.2 = 0) : joinR x us = (0, (x - 946684800) * 1000000 + us, 0) ∧ I64 ((x - 946684800) * 1000000 + us) ∧ DRS 0 ((x - 946684800) * 1000000 + us) := by
 unfold joinR at h ⊢
 split at h
 · rename_i k
   rw [if_pos k]
   exact onR_val h
 · simp at h
theorem locR_inf {z : Zt} {i u : Int} (hi : ¬ i = 0) (h : (locR z i u).2.2 = 0) : locR z i u = (i, u, 0) ∧ ZtOk z ∧ DRS i u := by
 unfold locR at h ⊢
 split at h
 · rename_i k
   rw [if_pos k, if_neg hi]
   exact ⟨rfl, k⟩
 · simp at h
theorem locR_fin {z : Zt} {u : Int} (h : (locR z 0 u).2.2 = 0) : locR z 0 u = (0, u + (atZ z (secOf u)).off * 1000000, 0) ∧ ZtOk z ∧ DRS 0 u ∧ zErr z (secOf u) = 0 ∧ I64 (u + (atZ z (secOf u)).off * 1000000) ∧ DRS 0 (u + (atZ z (secOf u)).off * 1000000) := by
 unfold locR at h ⊢
 split at h
 case isFalse => simp at h
 rename_i k
 rw [if_pos k, if_pos rfl]
 rw [if_pos rfl] at h
 split at h
 · rename_i q
   rw [if_pos q]
   have := onR_val h
   exact ⟨this.1, k.1, k.2, q, this.2⟩
 · rename_i q
   exact (q h).elim
theorem insR_inf {z : Zt} {i u : Int} (hi : ¬ i = 0) (h : (insR z i u).2.2.2 = 0) : insR z i u = (i, u, 0, 0) ∧ ZtOk z ∧ DRS i u := by
 unfold insR at h ⊢
 split at h
 · rename_i k
   rw [if_pos k, if_neg hi]
   exact ⟨rfl, k⟩
 · simp at h
theorem insR_fin {z : Zt} {u : Int} (h : (insR z 0 u).2.2.2 = 0) : ZtOk z ∧ DRS 0 u ∧ iErr z (secOf u) = 0 ∧ insR z 0 u = (0, ((instE z (secOf u)).1 - 946684800) * 1000000 + u % 1000000, (instE z (secOf u)).2, 0) ∧ I64 (((instE z (secOf u)).1 - 946684800) * 1000000 + u % 1000000) ∧ DRS 0 (((instE z (secOf u)).1 - 946684800) * 1000000 + u % 1000000) := by
 unfold insR at h ⊢
 split at h
 case isFalse => simp at h
 rename_i k
 rw [if_pos k, if_pos rfl]
 rw [if_pos rfl] at h
 split at h
 · rename_i q
   rw [if_pos q]
   unfold insF at h ⊢
   split at h
   · rename_i e
     rw [if_pos e]
     have := joinR_val e
     refine ⟨k.1, k.2, q, ?_, this.2⟩
     rw [this.1]
   · rename_i e
     exact (e h).elim
 · rename_i q
   exact (q h).elim
theorem back1 {z : Zt} {i u : Int} (hbd : bdZ z.F = true) (h1 : (locR z i u).2.2 = 0) (h2 : (insR z (locR z i u).1 (locR z i u).2.1).2.2.2 = 0) :
 ((insR z (locR z i u).1 (locR z i u).2.1).1 = i ∧ (insR z (locR z i u).1 (locR z i u).2.1).2.1 = u ∧ (insR z (locR z i u).1 (locR z i u).2.1).2.2.1 ≠ 2) ∨
 ((insR z (locR z i u).1 (locR z i u).2.1).2.2.1 = 1 ∧ (insR z (locR z i u).1 (locR z i u).2.1).2.1 < u) := by
 by_cases hi : i = 0
 · subst hi
   obtain ⟨e1, hz, hd, hq, hv, hw⟩ := locR_fin h1
   rw [e1] at h2 ⊢
   simp only at h2 ⊢
   obtain ⟨_, _, he, e2, _⟩ := insR_fin h2
   have su : secOf (u + (atZ z (secOf u)).off * 1000000) = secOf u + (atZ z (secOf u)).off := by unfold secOf; omega
   have sm : (u + (atZ z (secOf u)).off * 1000000) % 1000000 = u % 1000000 := by omega
   rw [e2]
   rw [su] at he ⊢
   rw [sm]
   simp only
   have hf := atZ_off hz (secOf u)
   obtain ⟨hwin, hl⟩ := inst_law ⟨hbd, he⟩
   have hu : u / 1000000 * 1000000 + u % 1000000 = u := by omega
   have hs : secOf u = u / 1000000 + 946684800 := rfl
   generalize hx : instE z (secOf u + (atZ z (secOf u)).off) = x at *
   rcases hl with ⟨_, k⟩ | ⟨k1, k2, k3⟩
   · exact (k (secOf u) (by omega) (by omega) rfl).elim
   · obtain ⟨k4, k5⟩ := k3 (secOf u) (by omega) (by omega) rfl
     by_cases he : x.1 = secOf u
     · left
       refine ⟨trivial, ?_, ?_⟩
       · rw [he]; omega
       · rcases k1 with k | k <;> omega
     · right
       refine ⟨?_, ?_⟩
       · rcases k1 with k | k
         · exact (he (k5 k).symm).elim
         · exact k
       · omega
 · obtain ⟨e1, hz, hd⟩ := locR_inf hi h1
   rw [e1] at h2 ⊢
   simp only at h2 ⊢
   obtain ⟨e2, _⟩ := insR_inf hi h2
   rw [e2]
   exact .inl ⟨rfl, rfl, by simp⟩
theorem back2 {z : Zt} {i u : Int} (hbd : bdZ z.F = true) (h1 : (insR z i u).2.2.2 = 0) :
 ((locR z (insR z i u).1 (insR z i u).2.1).2.2 = 0 → (((locR z (insR z i u).1 (insR z i u).2.1).1 = i ∧ (locR z (insR z i u).1 (insR z i u).2.1).2.1 = u) ↔ (insR z i u).2.2.1 ≠ 2)) ∧
 ((locR z (insR z i u).1 (insR z i u).2.1).2.2 ≠ 0 → (locR z (insR z i u).1 (insR z i u).2.1).2.2 = 10) := by
 by_cases hi : i = 0
 · subst hi
   obtain ⟨hz, hd, he, e1, hv, hw⟩ := insR_fin h1
   rw [e1]
   simp only
   obtain ⟨hwin, hl⟩ := inst_law ⟨hbd, he⟩
   have hs : secOf u = u / 1000000 + 946684800 := rfl
   generalize hx : instE z (secOf u) = x at *
   have su : secOf ((x.1 - 946684800) * 1000000 + u % 1000000) = x.1 := by unfold secOf; omega
   generalize hg : (x.1 - 946684800) * 1000000 + u % 1000000 = v at *
   refine ⟨fun h => ?_, fun h => ?_⟩
   · obtain ⟨e2, _⟩ := locR_fin h
     rw [e2, su]
     simp only [true_and]
     rcases hl with ⟨k1, k⟩ | ⟨k1, k2, _⟩
     · have := k x.1 hwin.1 hwin.2
       constructor
       · intro q; omega
       · intro q; omega
     · constructor
       · intro _; rcases k1 with k | k <;> omega
       · intro _; omega
   · have e : locR z 0 v = if zErr z (secOf v) = 0 then onR v ((atZ z (secOf v)).off * 1000000) else (0, 0, zErr z (secOf v)) := by unfold locR; rw [if_pos ⟨hz, hw⟩, if_pos rfl]
     rw [e] at h ⊢
     split at h
     · rename_i q
       rw [if_pos q]
       unfold onR at h ⊢
       split at h
       · simp at h
       · rename_i r
         rw [if_neg r]
     · rename_i q
       rw [if_neg q]
       exact zErr_e hz q
 · obtain ⟨e1, hz, hd⟩ := insR_inf hi h1
   rw [e1]
   simp only
   have e : locR z i u = (i, u, 0) := by unfold locR; rw [if_pos ⟨hz, hd⟩, if_neg hi]
   rw [e]
   exact ⟨fun _ => ⟨fun _ => by simp, fun _ => ⟨rfl, rfl⟩⟩, fun h => (h rfl).elim⟩
theorem insR_i64 {z : Zt} {i u : Int} (hu : I64 u) : I64 (insR z i u).2.1 := by
 by_cases hi : i = 0
 · subst hi; exact (insR_made z u).2.1
 · unfold insR
   split
   · simpa [hi] using hu
   · exact i64_0
theorem locR_i64 {z : Zt} {i u : Int} (hu : I64 u) : I64 (locR z i u).2.1 := by
 by_cases hi : i = 0
 · subst hi; exact (locR_made z u).2.1
 · unfold locR
   split
   · simpa [hi] using hu
   · exact i64_0
theorem lbTail_ok {z : Zt} {i u : Int} (hbd : bdZ z.F = true) (hu : I64 u) {K : AV → Prop} (hK : K (.bool true)) : lbTail z z i u K := by
 unfold lbTail
 refine brcT (by rw [room_z, tyZ z hbd, decide_eq_true hu]; rfl) ?_
 rintro _ rfl _ rfl _ rfl _ rfl
 refine kA (fun c => by rintro _ rfl; exact hK) fun c => ?_
 have c : (insR z i u).2.2.2 = 0 := by simpa using c
 refine brcT (by rw [room_z, tyZ z hbd, decide_eq_true (insR_i64 hu)]; rfl) ?_
 rintro _ rfl _ rfl _ rfl
 obtain ⟨k1, k2⟩ := back2 hbd c
 refine kA (fun d => ?_) fun d => ?_
 · refine brcT ?_ (by rintro _ rfl; exact hK)
   have d : ¬ (locR z (insR z i u).1 (insR z i u).2.1).2.2 = 0 := by simpa using d
   simpa using k2 d
 · have d : (locR z (insR z i u).1 (insR z i u).2.1).2.2 = 0 := by simpa using d
   have k := k1 d
   refine brcT ?_ (by rintro _ rfl; exact hK)
   rw [beq_iff_eq, Bool.eq_iff_iff]
   simpa [and_assoc] using k
theorem lback_ok {z : Zt} {i u : Int} (hbd : bdZ z.F = true) (hn : roomB z.n 40 = true) (hu : I64 u) : AFL (tab [(28, cyHalf), (26, zyUTC), (49, zyRight), (51, csRS), (27, csSp), (10, csLoc), (12, csIns), (19, csTz), (17, csPlus), (25, zyRight), (16, cyKnown)]) noLoops 12 6 [.agg (avZ z), .agg [.int .i64 i, .int .i64 u]] fun u => u = .bool true := by
 rw [lback_vc]
 have tail : lbTail z z i u fun u => u = .bool true := lbTail_ok hbd hu rfl
 refine brcT (by rw [oneC_row, hn]; rfl) (gvZ_ok (brcT (by rw [room_z, tyZ z hbd, decide_eq_true hu]; rfl) ?_))
 rintro _ rfl _ rfl _ rfl
 refine kA (fun a => ?_) fun _ => tail
 have a : (locR z i u).2.2 = 0 := by simpa using a
 refine brcT (by rw [room_z, tyZ z hbd, decide_eq_true (locR_i64 hu)]; rfl) ?_
 rintro _ rfl _ rfl _ rfl _ rfl
 refine kA (fun b => ?_) fun _ => tail
 have b : (insR z (locR z i u).1 (locR z i u).2.1).2.2.2 = 0 := by simpa using b
 have key := back1 hbd a b
 generalize insR z (locR z i u).1 (locR z i u).2.1 = r at *
 have less : r.2.2.1 = 1 ∧ r.2.1 < u → brc (r.2.2.1 == 1) (brc (!decide (r.2.1 < u)) (AV.bool false = AV.bool true) (lbTail z z i u fun u => u = .bool true)) (AV.bool false = AV.bool true) := fun k =>
  brcT (by simp [k.1]) (brcF (by simp [k.2]) tail)
 refine kA (fun c => kA (fun _ => tail) fun d => ?_) fun c => ?_
 · have d : r.2.2.1 = 2 := by simpa using d
   rcases key with k | k
   · exact (k.2.2 d).elim
   · exact less k
 · rcases key with k | k
   · rw [k.1, k.2.1] at c
     simp at c
   · exact less k
theorem stB_ok17 : TabOk Tryz.prog (tab [(28, cyHalf), (26, zyUTC), (49, zyRight), (51, csRS), (27, csSp), (10, csLoc), (12, csIns), (19, csTz), (17, csPlus), (25, zyRight), (16, cyKnown)]) := stT_ok17
end Go.Proofs.YtimgphlfaninnaaGreat.P
namespace Go.Proofs.YtimgphlfaninnaaGreat.P
open Go Go.RowKit Go.ChangeShapes Go.WideShapes Go.Proofs.YtimgphlfaninnaaGreat.Civ Go.Proofs.YtimgphlfaninnaaGreat.Ft
set_option linter.unusedVariables false
set_option linter.unusedSimpArgs false
set_option maxHeartbeats 2000000
def vH (h : Hf) : List Value := [.int .i64 h.m, .int .i64 h.k, .int .i64 h.w, .int .i64 h.n, .int .i64 h.s, .int .u8 h.c, .int .i64 h.v, .string h.ab]
def vF (F : Ft) : List Value := [.bool F.z, .int .i64 F.fr, .int .i64 F.off, .int .i64 F.a.m, .int .i64 F.a.k, .int .i64 F.a.w, .int .i64 F.a.n, .int .i64 F.a.s, .int .u8 F.a.c, .int .i64 F.a.v, .string F.a.ab, .int .i64 F.b.m, .int .i64 F.b.k, .int .i64 F.b.w, .int .i64 F.b.n, .int .i64 F.b.s, .int .u8 F.b.c, .int .i64 F.b.v, .string F.b.ab]
theorem cz_k : Tryz.prog.cellsOf 3 = 1 := by kernel_rfl
theorem cz_i : Tryz.prog.cellsOf 2 = 1 := by kernel_rfl
theorem cz_u : Tryz.prog.cellsOf 5 = 1 := by kernel_rfl
theorem cz_b : Tryz.prog.cellsOf 4 = 1 := by kernel_rfl
theorem cz_s : Tryz.prog.cellsOf 9 = 1 := by kernel_rfl
theorem cz_o : Tryz.prog.cellsOf 26 = 3 := by kernel_rfl
theorem cz_a : Tryz.prog.cellsOf 28 = 2 := by kernel_rfl
theorem cz_h : Tryz.prog.cellsOf 30 = 8 := by kernel_rfl
section
variable {H : Type} {enc : TypeId × Value → H} {w : World} {base : Nat} {spare : Nat → Bool} {held : Bool}
theorem list3 {α : Type} {l : List α} (h : l.length = 3) : ∃ a b c, l = [a, b, c] := by
 match l, h with
 | [a, b, c], _ => exact ⟨a, b, c, rfl⟩
theorem list2 {α : Type} {l : List α} (h : l.length = 2) : ∃ a b, l = [a, b] := by
 match l, h with
 | [a, b], _ => exact ⟨a, b, rfl⟩
theorem list5 {α : Type} {l : List α} (h : l.length = 5) : ∃ a b c d e, l = [a, b, c, d, e] := by
 match l, h with
 | [a, b, c, d, e], _ => exact ⟨a, b, c, d, e, rfl⟩
theorem list8 {α : Type} {l : List α} (h : l.length = 8) : ∃ a b c d e f g i, l = [a, b, c, d, e, f, g, i] := by
 match l, h with
 | [a, b, c, d, e, f, g, i], _ => exact ⟨a, b, c, d, e, f, g, i, rfl⟩
theorem list19 {α : Type} {l : List α} (h : l.length = 19) : ∃ a b c d e f g i j k m n o p q r s t u, l = [a, b, c, d, e, f, g, i, j, k, m, n, o, p, q, r, s, t, u] := by
 match l, h with
 | [a, b, c, d, e, f, g, i, j, k, m, n, o, p, q, r, s, t, u], _ => exact ⟨a, b, c, d, e, f, g, i, j, k, m, n, o, p, q, r, s, t, u, rfl⟩
theorem int_of {fuel : Nat} {t : TypeId} {c : Value} {k : IntKind} {x : Option (DataW H × List MemPlace)} {y : DataW H × List MemPlace} (ht : Tryz.prog.underlying t = some (.int k)) (h : DataW.trod enc Tryz.prog w base spare held fuel t [c] = x) (hx : x = some y) : ∃ n, c = .int k n ∧ (Lit.int k n).wf = true := by
 subst hx
 obtain ⟨n, e, _, h3⟩ := DataW.trod_int ht h
 exact ⟨n, (List.cons.inj e).1, h3⟩
theorem on_of {fuel : Nat} {cs : List Value} {y : DataW H × List MemPlace} (h : DataW.trod enc Tryz.prog w base spare held fuel 26 cs = some y) : ∃ k n m, cs = [.int .i64 k, .int .i64 n, .int .i64 m] := by
 obtain ⟨xs, n, _, _, hl, hlen, hf⟩ := DataW.trod_struct Tryz.underlying26 h
 obtain ⟨a, b, c, rfl⟩ := list3 (hl.trans (by kernel_rfl))
 obtain ⟨x, y, z, rfl⟩ := list3 hlen
 obtain ⟨k0, rfl, _⟩ := int_of (c := a) Tryz.underlying3 (by simpa [cz_k, cz_i, cz_u, cz_b, cz_s, cz_o, cz_a, cz_h] using hf 0 _ rfl) rfl
 obtain ⟨k1, rfl, _⟩ := int_of (c := b) Tryz.underlying2 (by simpa [cz_k, cz_i, cz_u, cz_b, cz_s, cz_o, cz_a, cz_h] using hf 1 _ rfl) rfl
 obtain ⟨k2, rfl, _⟩ := int_of (c := c) Tryz.underlying2 (by simpa [cz_k, cz_i, cz_u, cz_b, cz_s, cz_o, cz_a, cz_h] using hf 2 _ rfl) rfl
 exact ⟨_, _, _, rfl⟩
theorem at_of {fuel : Nat} {cs : List Value} {y : DataW H × List MemPlace} (h : DataW.trod enc Tryz.prog w base spare held fuel 28 cs = some y) : ∃ k n, cs = [.int .i64 k, .int .u8 n] := by
 obtain ⟨xs, n, _, _, hl, hlen, hf⟩ := DataW.trod_struct Tryz.underlying28 h
 obtain ⟨a, b, rfl⟩ := list2 (hl.trans (by kernel_rfl))
 obtain ⟨x, y, rfl⟩ := list2 hlen
 obtain ⟨k0, rfl, _⟩ := int_of (c := a) Tryz.underlying2 (by simpa [cz_k, cz_i, cz_u, cz_b, cz_s, cz_o, cz_a, cz_h] using hf 0 _ rfl) rfl
 obtain ⟨k1, rfl, _⟩ := int_of (c := b) Tryz.underlying5 (by simpa [cz_k, cz_i, cz_u, cz_b, cz_s, cz_o, cz_a, cz_h] using hf 1 _ rfl) rfl
 exact ⟨_, _, rfl⟩
theorem half_of {fuel : Nat} {cs : List Value} {y : DataW H × List MemPlace} (h : DataW.trod enc Tryz.prog w base spare held fuel 30 cs = some y) : ∃ h : Hf, cs = vH h ∧ (Lit.int .i64 h.m).wf = true := by
 obtain ⟨xs, n, _, _, hl, hlen, hf⟩ := DataW.trod_struct Tryz.underlying30 h
 obtain ⟨a, b, c, d, e, f, g, i, rfl⟩ := list8 (hl.trans (by kernel_rfl))
 obtain ⟨x0, x1, x2, x3, x4, rfl⟩ := list5 hlen
 obtain ⟨m, rfl, hm⟩ := int_of (c := a) Tryz.underlying2 (by simpa [cz_k, cz_i, cz_u, cz_b, cz_s, cz_o, cz_a, cz_h] using hf 0 _ rfl) rfl
 obtain ⟨k, wd, nn, e1⟩ := on_of (cs := [b, c, d]) (by simpa [cz_k, cz_i, cz_u, cz_b, cz_s, cz_o, cz_a, cz_h] using hf 1 _ rfl)
 obtain ⟨s, c0, e2⟩ := at_of (cs := [e, f]) (by simpa [cz_k, cz_i, cz_u, cz_b, cz_s, cz_o, cz_a, cz_h] using hf 2 _ rfl)
 obtain ⟨v, rfl, _⟩ := int_of (c := g) Tryz.underlying2 (by simpa [cz_k, cz_i, cz_u, cz_b, cz_s, cz_o, cz_a, cz_h] using hf 3 _ rfl) rfl
 obtain ⟨ab, e3, _⟩ := DataW.trod_string (cs := [i]) Tryz.underlying9 (by simpa [cz_k, cz_i, cz_u, cz_b, cz_s, cz_o, cz_a, cz_h] using hf 4 _ rfl)
 have e1 : [b, c, d] = [Value.int .i64 k, .int .i64 wd, .int .i64 nn] := e1
 have e2 : [e, f] = [Value.int .i64 s, .int .u8 c0] := e2
 have e3 : [i] = [Value.string ab] := e3
 simp only [List.cons.injEq, and_true] at e1 e2 e3
 obtain ⟨rfl, rfl, rfl⟩ := e1
 obtain ⟨rfl, rfl⟩ := e2
 subst e3
 exact ⟨⟨m, k, wd, nn, s, c0, v, ab⟩, rfl, hm⟩
theorem foot_of {fuel : Nat} {cs : List Value} {y : DataW H × List MemPlace} (h : DataW.trod enc Tryz.prog w base spare held fuel 32 cs = some y) : ∃ F : Ft, cs = vF F ∧ (Lit.int .i64 F.a.m).wf = true ∧ (Lit.int .i64 F.b.m).wf = true := by
 obtain ⟨xs, n, _, _, hl, hlen, hf⟩ := DataW.trod_struct Tryz.underlying32 h
 obtain ⟨a, b, c, d, e, f, g, i, j, k, m, nn, o, p, q, r, s, t, u, rfl⟩ := list19 (hl.trans (by kernel_rfl))
 obtain ⟨x0, x1, x2, x3, x4, rfl⟩ := list5 hlen
 obtain ⟨z, e0, _⟩ := DataW.trod_bool (cs := [a]) Tryz.underlying4 (by simpa [cz_k, cz_i, cz_u, cz_b, cz_s, cz_o, cz_a, cz_h] using hf 0 _ rfl)
 obtain ⟨fr, rfl, _⟩ := int_of (c := b) Tryz.underlying2 (by simpa [cz_k, cz_i, cz_u, cz_b, cz_s, cz_o, cz_a, cz_h] using hf 1 _ rfl) rfl
 obtain ⟨off, rfl, _⟩ := int_of (c := c) Tryz.underlying2 (by simpa [cz_k, cz_i, cz_u, cz_b, cz_s, cz_o, cz_a, cz_h] using hf 2 _ rfl) rfl
 obtain ⟨A, e1, h1⟩ := half_of (cs := [d, e, f, g, i, j, k, m]) (by simpa [cz_k, cz_i, cz_u, cz_b, cz_s, cz_o, cz_a, cz_h] using hf 3 _ rfl)
 obtain ⟨B, e2, h2⟩ := half_of (cs := [nn, o, p, q, r, s, t, u]) (by simpa [cz_k, cz_i, cz_u, cz_b, cz_s, cz_o, cz_a, cz_h] using hf 4 _ rfl)
 have e0 : [a] = [Value.bool z] := e0
 have e1 : [d, e, f, g, i, j, k, m] = vH A := e1
 have e2 : [nn, o, p, q, r, s, t, u] = vH B := e2
 unfold vH at e1 e2
 simp only [List.cons.injEq, and_true] at e0 e1 e2
 obtain ⟨rfl, rfl, rfl, rfl, rfl, rfl, rfl, rfl⟩ := e1
 obtain ⟨rfl, rfl, rfl, rfl, rfl, rfl, rfl, rfl⟩ := e2
 subst e0
 exact ⟨⟨z, fr, off, A, B⟩, rfl, h1, h2⟩
open A in
theorem rl_half (h : Hf) : RL noNames w (avH h) (vH h) :=
 .cons (.int _ _) (.cons (.int _ _) (.cons (.int _ _) (.cons (.int _ _) (.cons (.int _ _) (.cons (.int _ _) (.cons (.int _ _) (.cons (.str _) .nil)))))))
open A in
theorem rl_foot (F : Ft) : RL noNames w (avF F) (vF F) := by
 have h : RL noNames w ([.bool F.z, .int .i64 F.fr, .int .i64 F.off] ++ (avH F.a ++ avH F.b)) ([.bool F.z, .int .i64 F.fr, .int .i64 F.off] ++ (vH F.a ++ vH F.b)) :=
  RL.append (.cons (.bool _) (.cons (.int _ _) (.cons (.int _ _) .nil))) (RL.append (rl_half _) (rl_half _))
 exact h
end
end Go.Proofs.YtimgphlfaninnaaGreat.P
namespace Go.Proofs.YtimgphlfaninnaaGreat.P
open Go Go.RowKit Go.ChangeShapes Go.WideShapes Go.Proofs.YtimgphlfaninnaaGreat.Civ Go.Proofs.YtimgphlfaninnaaGreat.Ft Go.Proofs.YtimgphlfaninnaaGreat.Zn
set_option linter.unusedVariables false
set_option linter.unusedSimpArgs false
set_option maxHeartbeats 2000000
theorem tz_n : Tryz.prog.cellsOf 9 = 1 := by kernel_rfl
theorem tz_t : Tryz.prog.cellsOf 23 = 4 := by kernel_rfl
theorem tz_s : Tryz.prog.cellsOf 24 = 1 := by kernel_rfl
theorem tz_f : Tryz.prog.cellsOf 32 = 19 := by kernel_rfl
theorem tz_b : Tryz.prog.bytesOf 23 = 40 := by kernel_rfl
section
variable {H : Type} {enc : TypeId × Value → H} {w : World} {base : Nat} {spare : Nat → Bool} {held : Bool}
theorem list4 {α : Type} {l : List α} (h : l.length = 4) : ∃ a b c d, l = [a, b, c, d] := by
 match l, h with
 | [a, b, c, d], _ => exact ⟨a, b, c, d, rfl⟩
theorem list25 {α : Type} {l : List α} (h : l.length = 25) : ∃ a b c d e f r, l = a :: b :: c :: d :: e :: f :: r ∧ r.length = 19 := by
 match l, h with
 | a :: b :: c :: d :: e :: f :: r, h => exact ⟨a, b, c, d, e, f, r, rfl, by simpa using h⟩
theorem tran_of {fuel : Nat} {cs : List Value} {y : DataW H × List MemPlace} (h : DataW.trod enc Tryz.prog w base spare held fuel 23 cs = some y) : ∃ t : Int × Int × Bool × ByteArray, cs = [.int .i64 t.1, .int .i64 t.2.1, .bool t.2.2.1, .string t.2.2.2] := by
 obtain ⟨xs, n, _, _, hl, hlen, hf⟩ := DataW.trod_struct Tryz.underlying23 h
 obtain ⟨a, b, c, d, rfl⟩ := list4 (hl.trans (by kernel_rfl))
 obtain ⟨x, y, z, u, rfl⟩ := list4 hlen
 obtain ⟨k0, rfl, _⟩ := int_of (c := a) Tryz.underlying2 (by simpa [cz_k, cz_i, cz_u, cz_b, cz_s, cz_o, cz_a, cz_h] using hf 0 _ rfl) rfl
 obtain ⟨k1, rfl, _⟩ := int_of (c := b) Tryz.underlying2 (by simpa [cz_k, cz_i, cz_u, cz_b, cz_s, cz_o, cz_a, cz_h] using hf 1 _ rfl) rfl
 obtain ⟨k2, e2, _⟩ := DataW.trod_bool (cs := [c]) Tryz.underlying4 (by simpa [cz_k, cz_i, cz_u, cz_b, cz_s, cz_o, cz_a, cz_h] using hf 2 _ rfl)
 obtain ⟨k3, e3, _⟩ := DataW.trod_string (cs := [d]) Tryz.underlying9 (by simpa [cz_k, cz_i, cz_u, cz_b, cz_s, cz_o, cz_a, cz_h] using hf 3 _ rfl)
 have e2 : [c] = [Value.bool k2] := e2
 have e3 : [d] = [Value.string k3] := e3
 simp only [List.cons.injEq, and_true] at e2 e3
 subst e2 e3
 exact ⟨(k0, k1, k2, k3), rfl⟩
theorem foot_fr {fuel : Nat} {F : Ft} {y : DataW H × List MemPlace} (h : DataW.trod enc Tryz.prog w base spare held fuel 32 (vF F) = some y) : (Lit.int .i64 F.fr).wf = true := by
 obtain ⟨xs, n, _, _, hl, hlen, hf⟩ := DataW.trod_struct Tryz.underlying32 h
 obtain ⟨x0, x1, x2, x3, x4, rfl⟩ := list5 hlen
 obtain ⟨fr, e, hw⟩ := int_of (c := .int .i64 F.fr) Tryz.underlying2 (by simpa [vF, cz_k, cz_i, cz_u, cz_b, cz_s, cz_o, cz_a, cz_h] using hf 1 _ rfl) rfl
 cases e
 exact hw
theorem add_add {a : Addr} (h : a.spot = none) (m n : Nat) : a.add (m + n) = (a.add m).add n := by
 have e : ∀ k, a.add k = ⟨a.block, a.off + k, none⟩ := fun k => by
  unfold Addr.add
  split
  · rename_i q; subst q; cases a; simp only at h; subst h; rfl
  · rfl
 rw [e, e]
 unfold Addr.add
 split
 · rename_i q; subst q; rfl
 · simp only [Addr.mk.injEq, and_true, true_and]; omega
theorem row_of {fuel : Nat} {s : Value} {y : DataW H × List MemPlace} (hz : (y.1.weights Tryz.prog 24).all (· ≤ reachBytes) = true)
 (hsp : ∀ a len cap, s = .slice (some a) len cap → a.spot = none ∧ a.block < w.heap.size)
 (h : DataW.trod enc Tryz.prog w base spare held fuel 24 [s] = some y) :
 ∃ (n : Nat) (f : Nat → Int × Int × Bool × ByteArray), A.RV A.noNames w (.csl 4 n fun i k => match k with | 0 => .int .i64 (f i).1 | 1 => .int .i64 (f i).2.1 | 2 => .bool (f i).2.2.1 | _ => .str (f i).2.2.2) s ∧ A.roomB n 40 = true := by
 rcases DataW.trod_slice Tryz.underlying24 h with ⟨e, _⟩ | ⟨a, len, cap, elems, rest, m, rfl, e, rfl, hb, hl, hc, hlen, hel, _⟩
 · simp only [List.cons.injEq, and_true] at e
   subst e
   exact ⟨0, fun _ => (0, 0, false, ⟨#[]⟩), .csl0 _ _, by decide +kernel⟩
 · simp only [List.cons.injEq, and_true] at e
   subst e
   obtain ⟨hs, hbk⟩ := hsp a len cap rfl
   have each : ∀ i, ∃ t : Int × Int × Bool × ByteArray, i < len → ∀ j, j < 4 → w.cell? (a.add (i * 4 + j)) = [Value.int .i64 t.1, .int .i64 t.2.1, .bool t.2.2.1, .string t.2.2.2][j]? := by
    intro i
    by_cases hi : i < len
    · have h1 := hel i hi
      rw [tz_t, List.getElem?_eq_getElem (by omega), Option.bind_eq_some_iff] at h1
      obtain ⟨cs, h2, h3⟩ := h1
      obtain ⟨t, rfl⟩ := tran_of h3
      obtain ⟨_, _, h4⟩ := World.cells?_some h2
      refine ⟨t, fun _ j hj => ?_⟩
      rw [← h4 j hj]
      exact congrArg w.cell? (add_add hs (i * 4) j)
    · exact ⟨(0, 0, false, ⟨#[]⟩), fun q => (hi q).elim⟩
   obtain ⟨f, hf⟩ := Classical.axiomOfChoice each
   obtain ⟨b, o, sp⟩ := a
   obtain rfl : sp = none := hs
   refine ⟨len, f, .csl 4 len cap _ (fun i k => match k with | 0 => .int .i64 (f i).1 | 1 => .int .i64 (f i).2.1 | 2 => .bool (f i).2.2.1 | _ => .string (f i).2.2.2) hbk hl ?_ ?_, ?_⟩
   · intro i j hi hj
     have := hf i hi j hj
     have ea : (Addr.add ⟨b, o, none⟩ (i * 4 + j)) = ⟨b, o + (i * 4 + j), none⟩ := by
      unfold Addr.add
      split
      · rename_i q; simp [q]
      · rfl
     rw [ea] at this
     rw [this]
     match j, hj with
     | 0, _ => rfl
     | 1, _ => rfl
     | 2, _ => rfl
     | 3, _ => rfl
   · intro i j hi hj
     match j, hj with
     | 0, _ => exact .int _ _
     | 1, _ => exact .int _ _
     | 2, _ => exact .bool _
     | 3, _ => exact .str _
   · have h1 := List.all_eq_true.1 hz ((elems.length + rest.length) * Tryz.prog.bytesOf 23) (by
      have hu := Tryz.underlying24
      unfold DataW.weights
      rw [hu]
      simp)
     have h1 := of_decide_eq_true h1
     rw [tz_b] at h1
     have hr := reachBytes_lt
     unfold A.roomB
     rw [Bool.and_eq_true]
     refine ⟨Nat.ble_eq_true_of_le (Nat.le_trans hl hc), Nat.ble_eq_true_of_le ?_⟩
     have : len ≤ elems.length + rest.length := by omega
     have := Nat.mul_le_mul_right 40 this
     omega
set_option maxRecDepth 100000 in
theorem open_table {b0 : Nat} {v : Value} {d : DataW H} {p : List MemPlace} (hv : Value.okWide Tryz.prog w .any b0 34 v) (h : DataW.Trod enc Tryz.prog w base spare held 34 v d p) (hz : ∀ n ∈ d.weights Tryz.prog 34, n ≤ reachBytes) : ∃ z : Zt, A.RV A.noNames w (.agg (avZ z)) v ∧ bdZ z.F = true ∧ A.roomB z.n 40 = true := by
 have hs := Tryz.underlying34
 have hrow : ∃ cs, v = .agg cs ∧ cs.size = Tryz.prog.cellsOf 34 ∧ Row.okWide Tryz.prog w .any b0 34 cs := by
  have := hv
  simp only [Value.okWide, hs] at this
  exact this
 obtain ⟨cs, rfl, hsz, ts, hts, _, hcell⟩ := hrow
 have hk : (Tryz.prog.cellTypes Tryz.prog.depth 34).map (fun l => (l.length, l[5]?)) = some (25, some 24) := by kernel_rfl
 rw [hts] at hk
 simp only [Option.map_some, Option.some.injEq, Prod.mk.injEq] at hk
 obtain ⟨k1, k2⟩ := hk
 obtain ⟨fuel, hf⟩ := h
 have hf : DataW.trod enc Tryz.prog w base spare held fuel 34 cs.toList = some (d, p) := hf
 obtain ⟨xs, n, _, hd, hl, hlen, hfl⟩ := DataW.trod_struct hs hf
 obtain ⟨a, b, c, e, f, s, r, hcs, hr⟩ := list25 (hl.trans (by kernel_rfl))
 obtain ⟨x0, x1, x2, x3, rfl⟩ := list4 hlen
 have hsl : ∀ a len cap, s = .slice (some a) len cap → a.spot = none ∧ a.block < w.heap.size := by
  intro a len cap es
  have h5 : cs[5]? = some s := by rw [← Array.getElem?_toList, hcs]; rfl
  obtain ⟨u, hu, hok⟩ := hcell 5 s h5
  rw [k1, show 5 % 25 = 5 from rfl, k2, Option.some.injEq] at hu
  subst hu es
  have hu := Tryz.underlying24
  simp only [Cell.okWide, Cell.ok, hu] at hok
  obtain ⟨_, _, _, h6, row, cells, h7, _⟩ := hok
  refine ⟨h6, ?_⟩
  unfold World.shape? at h7
  rcases Nat.lt_or_ge a.block w.heap.size with q | q
  · exact q
  · rw [Array.getElem?_eq_none q] at h7
    cases h7
 rw [hcs] at hfl
 have hg := hfl 0 _ rfl
 obtain ⟨nm, e0, _⟩ := DataW.trod_string (cs := [a]) Tryz.underlying9 (by simpa [tz_n, cz_s] using hfl 0 _ rfl)
 obtain ⟨t, e1⟩ := tran_of (cs := [b, c, e, f]) (by simpa [tz_t] using hfl 1 _ rfl)
 have hrw := hfl 2 _ rfl
 have hft := hfl 3 _ rfl
 have hrw : DataW.trod enc Tryz.prog w base spare held n 24 [s] = some x2 := by simpa [tz_s] using hrw
 have hft : DataW.trod enc Tryz.prog w base spare held n 32 r = some x3 := by
  have e : r.take 19 = r := List.take_of_length_le (by omega)
  simpa [tz_f, e] using hft
 obtain ⟨F, rfl, h1, h2⟩ := foot_of hft
 have h0 := foot_fr hft
 have e0 : [a] = [Value.string nm] := e0
 simp only [List.cons.injEq, and_true] at e0 e1
 obtain ⟨rfl, rfl, rfl, rfl⟩ := e1
 subst e0
 have hw : (x2.1.weights Tryz.prog 24).all (· ≤ reachBytes) = true := by
  refine List.all_eq_true.2 fun q hq => decide_eq_true (hz q ?_)
  have hd1 : d = .agg [x0.1, x1.1, x2.1, x3.1] := congrArg Prod.fst hd
  rw [hd1]
  unfold DataW.weights
  rw [hs]
  exact DataW.weights_mem_each (j := 2) (t := 24) (d := x2.1) rfl rfl q hq
 obtain ⟨m, g, hrv, hroom⟩ := row_of hw hsl hrw
 refine ⟨⟨nm, t.1, t.2.1, t.2.2.1, t.2.2.2, m, fun i => (g i).1, fun i => (g i).2.1, fun i => (g i).2.2.1, fun i => (g i).2.2.2, F⟩, ?_, ?_, hroom⟩
 · have e : cs = (Value.string nm :: Value.int .i64 t.1 :: .int .i64 t.2.1 :: .bool t.2.2.1 :: .string t.2.2.2 :: s :: vF F).toArray := by rw [← hcs]
   rw [e]
   exact .agg (.cons (.str _) (.cons (.int _ _) (.cons (.int _ _) (.cons (.bool _) (.cons (.str _) (.cons hrv (rl_foot F)))))))
 · exact decide_eq_true ⟨(i64_of_wf h0).1, (i64_of_wf h0).2, (i64_of_wf h1).1, (i64_of_wf h1).2, (i64_of_wf h2).1, (i64_of_wf h2).2⟩
end
end Go.Proofs.YtimgphlfaninnaaGreat.P
namespace Go.Proofs.YtimgphlfaninnaaGreat.P
open Go Go.RowKit Go.Proofs.YtimgphlfaninnaaGreat.Civ Go.Proofs.YtimgphlfaninnaaGreat.Ft Go.Proofs.YtimgphlfaninnaaGreat.Zn
set_option linter.unusedVariables false
set_option linter.unusedSimpArgs false
open A
theorem afl_calls {T : Tab} (hT : TabOk Tryz.prog T) {n g : Nat} {LT : LTab Prop} (hL : LtOk Tryz.prog g LT) {args : List AV} (h : AFL T LT n g args fun u => u = .bool true) {w : World} {A : List Value} (hA : RL noNames w args A) : Calls Tryz.prog g A.toArray w fun e w' => e = .returned (.bool true) ∧ Below w.heap.size w w' := by
 unfold AFL at h
 have h2 := afn_ok (P := Tryz.prog) (T := T) (n := n) (g := g) (LT := LT) (args := args) (K := fun u h => nuK h u fun u => u = .bool true) mixed hT hL (by with_reducible exact h) hA
 refine h2.mono fun e w' he => ?_
 obtain ⟨V, g1, ρ', u, h', g2, g3, g5⟩ := he
 obtain ⟨c1, g4⟩ := brc_false.1 g5
 obtain ⟨k1, _⟩ := toNu_ok g3 4 g2 (by rw [g4]; rfl) c1
 rw [g4, kO] at k1
 exact ⟨by rw [g1, k1], g3.bel⟩
theorem i64_wf {n : Int} (h : (Lit.int .i64 n).wf = true) : I64 n := ⟨(i64_of_wf h).1, (i64_of_wf h).2⟩
theorem back_calls {z : Zt} {i u : Int} (hbd : bdZ z.F = true) (hn : roomB z.n 40 = true) (hu : (Lit.int .i64 u).wf = true) {w : World} {A : List Value} (hA : RL noNames w [.agg (avZ z), .agg [.int .i64 i, .int .i64 u]] A) : Calls Tryz.prog 6 A.toArray w fun e w' => e = .returned (.bool true) ∧ Below w.heap.size w w' := afl_calls stB_ok17 (ltOk_none _ _) (lback_ok hbd hn (i64_wf hu)) hA
end Go.Proofs.YtimgphlfaninnaaGreat.P
