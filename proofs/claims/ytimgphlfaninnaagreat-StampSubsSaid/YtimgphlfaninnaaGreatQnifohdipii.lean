import Derived.Test.YtimgphlfaninnaaGreatQghjfngbobd
import Derived.Test.YtimgphlfaninnaaGreatQijmhmkjokh
import Derived.Test.YtimgphlfaninnaaGreatQoobaoafdnj
import Derived.Test.YtimgphlfaninnaaGreatQlgomohghol
import Derived.Test.YtimgphlfaninnaaGreatQjjckkmidhd
import Derived.Test.YtimgphlfaninnaaGreatQjbegmocjfm
import Derived.Test.YtimgphlfaninnaaGreatQhninfjcbop
import Derived.Test.YtimgphlfaninnaaGreatQagmcdoinkp
import Derived.Test.YtimgphlfaninnaaGreatQpcfflmhgam
namespace Go.Proofs.YtimgphlfaninnaaGreat.Civ
set_option linter.unusedVariables false
set_option linter.unusedSimpArgs false
open Go.RowKit Go.Proofs.YtimgphlfaninnaaGreat.P Go.Proofs.YtimgphlfaninnaaGreatW.PrintWords Go.Proofs.YtimgphlfaninnaaGreatW.PrintLast Go.Proofs.YtimgphlfaninnaaGreatW.PrintMore
theorem ymd_ex (n : Int) : ∃ t : Int × Int × Int, IsDate n t.1 t.2.1 t.2.2 := by
 obtain ⟨y, m, d, h⟩ := date_of n
 exact ⟨(y, m, d), h⟩
noncomputable def ymd (n : Int) : Int × Int × Int := Classical.choose (ymd_ex n)
theorem ymd_ok (n : Int) : IsDate n (ymd n).1 (ymd n).2.1 (ymd n).2.2 := Classical.choose_spec (ymd_ex n)
theorem din_y {n : Int} (h : DIn n) : -4712 ≤ (ymd n).1 ∧ (ymd n).1 ≤ 294276 := (din_year (ymd_ok n)).2 h
noncomputable def shN (n q : Int) : Int := dnum (shY (ymd n).1 (ymd n).2.1 q) (shM (ymd n).1 (ymd n).2.1 q) (shD (ymd n).1 (ymd n).2.1 (ymd n).2.2 q)
theorem shN_date (n q : Int) : IsDate (shN n q) (shY (ymd n).1 (ymd n).2.1 q) (shM (ymd n).1 (ymd n).2.1 q) (shD (ymd n).1 (ymd n).2.1 (ymd n).2.2 q) := by
 have h := ymd_ok n
 have b := shM_bd (ymd n).1 (ymd n).2.1 q
 have ml := mlen_bd (shY (ymd n).1 (ymd n).2.1 q) (shM (ymd n).1 (ymd n).2.1 q) b.1 b.2
 have d1 := h.d1
 refine ⟨b.1, b.2, ?_, ?_, rfl⟩ <;> unfold shD <;> split <;> omega
noncomputable def shX (n q : Int) : Option Int := if q = 0 then some n else if MonthsOk q ∧ DIn (shN n q) then some (shN n q) else none
noncomputable def shR (n q : Int) : Int × Int × Int := if MonthsOk q ∧ DIn (shN n q) then (0, shN n q, 0) else (0, 0, 10)
theorem shR_val {n q : Int} (h : DIn n) : ∃ r : Int × Int, Ev (fun k => bY.f k n q) r ∧ Ev (fun k => kV.f k n q) r ∧ madeE r.1 r.2 = shR n q := by
 have hd := ymd_ok n
 have hs := shN_date n q
 by_cases hk : MonthsOk q
 · have e := shift_eq hd (din_can h) hk
   refine ⟨_, Ev.at1 (fun k => e k), rshift_ev hd (din_can h) hk, ?_⟩
   unfold shR
   by_cases g : DateOk (shY (ymd n).1 (ymd n).2.1 q) (shM (ymd n).1 (ymd n).2.1 q) (shD (ymd n).1 (ymd n).2.1 (ymd n).2.2 q)
   · rw [if_pos g]
     have e1 : madeE (dnum (shY (ymd n).1 (ymd n).2.1 q) (shM (ymd n).1 (ymd n).2.1 q) (shD (ymd n).1 (ymd n).2.1 (ymd n).2.2 q), (0 : Int)).1 (dnum (shY (ymd n).1 (ymd n).2.1 q) (shM (ymd n).1 (ymd n).2.1 q) (shD (ymd n).1 (ymd n).2.1 (ymd n).2.2 q), (0 : Int)).2 = made (shN n q) := rfl
     rw [e1]
     unfold made
     by_cases g2 : DIn (shN n q)
     · rw [if_pos g2, if_pos (show MonthsOk q ∧ DIn (shN n q) from ⟨hk, g2⟩)]
     · rw [if_neg g2, if_neg (show ¬ (MonthsOk q ∧ DIn (shN n q)) from fun f => g2 f.2)]
   · rw [if_neg g, if_neg (show ¬ (MonthsOk q ∧ DIn (shN n q)) from ?_)]
     · rfl
     · intro f
       have hy := (din_year hs).2 f.2
       exact g ⟨by omega, by omega, hs.m1, hs.m12, hs.d1, hs.dl⟩
 · refine ⟨_, Ev.at1 (fun k => shift_no (.inr hk) k), rshift_no (.inr hk), ?_⟩
   unfold shR
   rw [if_neg (show ¬ (MonthsOk q ∧ DIn (shN n q)) from fun f => hk f.1)]
   rfl
theorem dsh_ev {n q : Int} (h : DIn n) : Ev (fun k => zA.f k 0 n q) (shR n q) ∧ Ev (fun k => bB.f k 0 n q) (shR n q) := by
 obtain ⟨r, h1, h2, h3⟩ := shR_val (q := q) h
 have hR : DR 0 n := .inl ⟨rfl, h⟩
 rw [← h3]
 unfold zA.f bR.f bB.f
 refine ⟨?_, ?_⟩
 · exact Ev.bind (Ev.bind0 (dright_eq 0 n) (Ev.pos (decide_eq_true hR) (Ev.pos rfl (Ev.bind h1 (Ev.bind0 (finite_eq _ _) (Ev.now _)))))) (Ev.now _)
 · exact Ev.bind (rdright_ev 0 n) (Ev.pos (decide_eq_true hR) (Ev.pos rfl (Ev.bind h2 (Ev.bind (rmade_ev _ _) (Ev.now _)))))
noncomputable def addR (v q d s : Int) : Int × Int × Int :=
 match shX (v / 86400000000) q with
 | none => (0, 0, 10)
 | some x => if DIn (x + d) ∧ I64 ((x + d) * 86400000000 + v % 86400000000 + s) ∧ DRS 0 ((x + d) * 86400000000 + v % 86400000000 + s) then (0, (x + d) * 86400000000 + v % 86400000000 + s, 0) else (0, 0, 10)
theorem stamp_fin {n v : Int} (h : DIn n) : stampD 0 n (v % 86400000000) = (0, n * 86400000000 + v % 86400000000, 0) := by
 unfold stampD
 have e : (n * 86400000000 + v % 86400000000) / 86400000000 = n := by omega
 rw [if_pos ⟨.inl ⟨rfl, h⟩, by omega, by omega⟩, if_pos rfl, e, if_pos h]
theorem addD_fin {n d : Int} (h : DIn n) : addD 0 n d = made (n + d) := by
 unfold addD
 rw [if_pos (show DR 0 n from .inl ⟨rfl, h⟩), if_pos rfl]
theorem stamp_i64 {n v : Int} (h : DIn n) : I64 (n * 86400000000 + v % 86400000000) := by
 unfold DIn at h; unfold I64; omega
theorem ofD_fin {v : Int} (h : DRS 0 v) : ofD 0 v = (0, v / 86400000000, v % 86400000000, 0) := by unfold ofD; rw [if_pos h, if_pos rfl]
theorem days_end {x v q d s : Int} (h : DIn x) (hd : I64 d) : Ev (fun k => zO.j1 k (v % 86400000000) 0 0 q d s 0 x) (if DIn (x + d) then (0, (x + d) * 86400000000 + v % 86400000000, 0) else (0, 0, 10)) := by
 refine Ev.succ ?_
 simp only [zO.j1, if_true]
 refine Ev.bind0 (addD_eq 0 x d hd) ?_
 rw [addD_fin h]
 unfold made
 by_cases g : DIn (x + d)
 · rw [if_pos g, if_pos g]
   exact Ev.pos rfl (Ev.bind (Ev.cast (stampD_ev 0 (x + d) (v % 86400000000)) (stamp_fin g)) (Ev.now _))
 · rw [if_neg g, if_neg g]
   exact Ev.neg (by decide) (Ev.now _)
theorem days_ev {v q d s : Int} (h : DRS 0 v) (hv : I64 v) (hd : I64 d) : Ev (fun k => zO.f k 0 v 0 q d s) (match shX (v / 86400000000) q with | none => (0, 0, 10) | some x => if DIn (x + d) then (0, (x + d) * 86400000000 + v % 86400000000, 0) else (0, 0, 10)) := by
 have hD := drs_fin.1 h
 unfold zO.f shX
 refine Ev.bind (ofD_ev 0 v hv) ?_
 rw [ofD_fin h]
 by_cases hq : q = 0
 · rw [if_pos hq]
   refine Ev.pos hq (Ev.succ ?_)
   simp only [zO.j0, Bool.false_eq_true, if_false]
   exact days_end hD hd
 · rw [if_neg hq]
   refine Ev.neg hq (Ev.succ ?_)
   simp only [zO.j0, beq_self_eq_true, if_true]
   refine Ev.bind (dsh_ev hD).1 ?_
   unfold shR
   by_cases g : MonthsOk q ∧ DIn (shN (v / 86400000000) q)
   · rw [if_pos g, if_pos g]
     exact days_end g.2 hd
   · rw [if_neg g, if_neg g]
     refine Ev.succ ?_
     simp only [zO.j1]
     exact Ev.neg (by decide) (Ev.now _)
theorem on_ev {w s : Int} (hw : I64 w) (hs : I64 s) : Ev (fun k => stamp_on.f k 0 w s) (if I64 (w + s) ∧ DRS 0 (w + s) then (0, w + s, 0) else (0, 0, 10)) := by
 unfold stamp_on.f
 refine Ev.bind0 (add_eq w s hw hs) ?_
 by_cases g : I64 (w + s)
 · rw [out_in g]
   refine Ev.pos rfl (Ev.bind (drightS_ev 0 (w + s) g) ?_)
   by_cases g2 : DRS 0 (w + s)
   · rw [if_pos (show I64 (w + s) ∧ DRS 0 (w + s) from ⟨g, g2⟩)]; exact Ev.pos (decide_eq_true g2) (Ev.now _)
   · rw [if_neg (show ¬ (I64 (w + s) ∧ DRS 0 (w + s)) from fun f => g2 f.2)]; exact Ev.neg (by simp [g2]) (Ev.now _)
 · rw [out_no g, if_neg (show ¬ (I64 (w + s) ∧ DRS 0 (w + s)) from fun f => g f.1)]
   exact Ev.neg (by decide) (Ev.now _)
theorem sadd_ev {v q d s : Int} (h : DRS 0 v) (hv : I64 v) (hd : I64 d) (hs : I64 s) (ho : SOk 0 q d s) : Ev (fun k => stamp_Add.f k 0 v 0 q d s) (addR v q d s) := by
 unfold stamp_Add.f
 refine Ev.bind (drightS_ev 0 v hv) (Ev.pos (decide_eq_true h) (Ev.bind0 (sright_eq 0 q d s hs) (Ev.pos (decide_eq_true ho) (Ev.neg (show ¬ wrap64 (0 * 0) < 0 by unfold wrap64; omega) (Ev.pos rfl (Ev.pos rfl (Ev.bind (days_ev h hv hd) ?_)))))))
 unfold addR
 rcases hx : shX (v / 86400000000) q with _ | x
 · simp only
   exact Ev.neg (by decide) (Ev.now _)
 · simp only
   by_cases g : DIn (x + d)
   · rw [if_pos g]
     refine Ev.pos rfl ?_
     refine Ev.cast (on_ev (stamp_i64 g) hs) ?_
     by_cases g2 : I64 ((x + d) * 86400000000 + v % 86400000000 + s) ∧ DRS 0 ((x + d) * 86400000000 + v % 86400000000 + s)
     · rw [if_pos g2, if_pos (show DIn (x + d) ∧ I64 ((x + d) * 86400000000 + v % 86400000000 + s) ∧ DRS 0 ((x + d) * 86400000000 + v % 86400000000 + s) from ⟨g, g2⟩)]
     · rw [if_neg g2, if_neg (show ¬ (DIn (x + d) ∧ I64 ((x + d) * 86400000000 + v % 86400000000 + s) ∧ DRS 0 ((x + d) * 86400000000 + v % 86400000000 + s)) from fun f => g2 f.2)]
   · rw [if_neg g, if_neg (show ¬ (DIn (x + d) ∧ I64 ((x + d) * 86400000000 + v % 86400000000 + s) ∧ DRS 0 ((x + d) * 86400000000 + v % 86400000000 + s)) from fun f => g f.1)]
     exact Ev.neg (by decide) (Ev.now _)
theorem rdate_end {x v q d s : Int} (h : DIn x) (hd : I64 d) : Ev (fun k => kX.j0 k (v % 86400000000) 0 q d s 0 x) (if DIn (x + d) then (0, (x + d) * 86400000000 + v % 86400000000, 0) else (0, 0, 10)) := by
 refine Ev.succ ?_
 simp only [kX.j0]
 refine Ev.bind (raddD_ev 0 x d hd) ?_
 rw [addD_fin h]
 unfold made
 by_cases g : DIn (x + d)
 · rw [if_pos g, if_pos g]
   exact Ev.pos rfl (Ev.bind (Ev.cast (rstampD_ev 0 (x + d) (v % 86400000000)) (stamp_fin g)) (Ev.now _))
 · rw [if_neg g, if_neg g]
   exact Ev.neg (by decide) (Ev.now _)
theorem rdate17_ev {v q d s : Int} (h : DRS 0 v) (hv : I64 v) (hd : I64 d) : Ev (fun k => kX.f k 0 v 0 q d s) (match shX (v / 86400000000) q with | none => (0, 0, 10) | some x => if DIn (x + d) then (0, (x + d) * 86400000000 + v % 86400000000, 0) else (0, 0, 10)) := by
 have hD := drs_fin.1 h
 unfold kX.f shX
 refine Ev.bind (rofD_ev 0 v hv) ?_
 rw [ofD_fin h]
 by_cases hq : q = 0
 · rw [if_pos hq]
   exact Ev.pos hq (rdate_end hD hd)
 · rw [if_neg hq]
   refine Ev.neg hq (Ev.bind (dsh_ev hD).2 ?_)
   unfold shR
   by_cases g : MonthsOk q ∧ DIn (shN (v / 86400000000) q)
   · rw [if_pos g, if_pos g]
     exact Ev.pos rfl (rdate_end g.2 hd)
   · rw [if_neg g, if_neg g]
     exact Ev.neg (by decide) (Ev.now _)
theorem rplus_ev {w s : Int} (hw : I64 w) (hs : I64 s) : Ev (fun k => bJ.f k 0 w 0 s) (if I64 (w + s) ∧ DRS 0 (w + s) then (0, w + s, 0) else (0, 0, 10)) := by
 unfold bJ.f
 refine Ev.bind (radd_ev w s hw hs) (Ev.pos rfl ?_)
 by_cases g : I64 (w + s)
 · rw [out_in g]
   refine Ev.pos rfl (Ev.bind (vH 0 (w + s) g) ?_)
   by_cases g2 : DRS 0 (w + s)
   · rw [if_pos (show I64 (w + s) ∧ DRS 0 (w + s) from ⟨g, g2⟩)]; exact Ev.pos (decide_eq_true g2) (Ev.now _)
   · rw [if_neg (show ¬ (I64 (w + s) ∧ DRS 0 (w + s)) from fun f => g2 f.2)]; exact Ev.neg (by simp [g2]) (Ev.now _)
 · rw [out_no g, if_neg (show ¬ (I64 (w + s) ∧ DRS 0 (w + s)) from fun f => g f.1)]
   exact Ev.neg (by decide) (Ev.now _)
theorem rplus_no {s : Int} (hs : I64 s) : Ev (fun k => bJ.f k 0 0 10 s) (0, 0, 10) := by
 unfold bJ.f
 exact Ev.bind (radd_ev 0 s (by unfold I64; omega) hs) (Ev.neg (by decide) (Ev.now _))
theorem radd17_ev {v q d s : Int} (h : DRS 0 v) (hv : I64 v) (hd : I64 d) (hs : I64 s) (ho : SOk 0 q d s) : Ev (fun k => jL.f k 0 v 0 q d s) (addR v q d s) := by
 unfold jL.f
 refine Ev.bind (vH 0 v hv) (Ev.pos (decide_eq_true h) (Ev.bind0 (rsright_eq 0 q d s) ?_))
 rw [decide_eq_true ho]
 refine Ev.succ ?_
 simp only [jL.j0, Bool.not_true, Bool.false_eq_true, if_false]
 have hi : Ev (fun k => kE.f k 0 v 0 q d s) (0, 0, 0, false) := by
  unfold kE.f
  refine Ev.pos rfl (Ev.succ ?_)
  simp only [kE.j0, beq_self_eq_true, if_true]
  exact Ev.now _
 refine Ev.bind hi (Ev.neg (by decide) (Ev.bind (rdate17_ev h hv hd) ?_))
 unfold addR
 rcases hx : shX (v / 86400000000) q with _ | x
 · exact Ev.bind (rplus_no hs) (Ev.now _)
 · simp only
   by_cases g : DIn (x + d)
   · rw [if_pos g]
     refine Ev.bind (rplus_ev (stamp_i64 g) hs) (Ev.cast (Ev.now _) ?_)
     by_cases g2 : I64 ((x + d) * 86400000000 + v % 86400000000 + s) ∧ DRS 0 ((x + d) * 86400000000 + v % 86400000000 + s)
     · rw [if_pos g2, if_pos (show DIn (x + d) ∧ I64 ((x + d) * 86400000000 + v % 86400000000 + s) ∧ DRS 0 ((x + d) * 86400000000 + v % 86400000000 + s) from ⟨g, g2⟩)]
     · rw [if_neg g2, if_neg (show ¬ (DIn (x + d) ∧ I64 ((x + d) * 86400000000 + v % 86400000000 + s) ∧ DRS 0 ((x + d) * 86400000000 + v % 86400000000 + s)) from fun f => g2 f.2)]
   · rw [if_neg g, if_neg (show ¬ (DIn (x + d) ∧ I64 ((x + d) * 86400000000 + v % 86400000000 + s) ∧ DRS 0 ((x + d) * 86400000000 + v % 86400000000 + s)) from fun f => g f.1)]
     exact Ev.bind (rplus_no hs) (Ev.now _)
def subR (i u j v : Int) : Int × Int × Int × Int × Int :=
 if DRS i u ∧ DRS j v then (if i ≠ 0 ∧ i = j then (0, 0, 0, 0, 10) else if i ≠ 0 then (i, 0, 0, 0, 0) else if j ≠ 0 then (-j, 0, 0, 0, 0) else
  if I64 (u - v) then (0, 0, wrap64 (Int.tdiv (u - v) 86400000000), Int.tmod (u - v) 86400000000, 0) else (0, 0, 0, 0, 10)) else (0, 0, 0, 0, 1)
theorem inf_bd {i u : Int} (h : DRS i u) : -1 ≤ i ∧ i ≤ 1 := by unfold DRS at h; omega
theorem sub17_ev {i u j v : Int} (hu : I64 u) (hv : I64 v) : Ev (fun k => jY.f k i u j v) (subR i u j v) := by
 unfold jY.f subR
 refine Ev.bind (drightS_ev i u hu) ?_
 by_cases h1 : DRS i u
 case neg => rw [if_neg (show ¬ (DRS i u ∧ DRS j v) from fun f => h1 f.1)]; exact Ev.neg (by simp [h1]) (Ev.now _)
 refine Ev.pos (decide_eq_true h1) (Ev.bind (drightS_ev j v hv) ?_)
 by_cases h2 : DRS j v
 case neg => rw [if_neg (show ¬ (DRS i u ∧ DRS j v) from fun f => h2 f.2)]; exact Ev.neg (by simp [h2]) (Ev.now _)
 rw [if_pos (show DRS i u ∧ DRS j v from ⟨h1, h2⟩)]
 refine Ev.pos (decide_eq_true h2) ?_
 have b1 := inf_bd h1
 have b2 := inf_bd h2
 have e1 : wrap64 (0 - j) = -j := by rw [w64 (by omega) (by omega)]; omega
 have hp : -1 ≤ i * -j ∧ i * -j ≤ 1 ∧ (i * -j < 0 ↔ i ≠ 0 ∧ i = j) := by
  have hi : i = -1 ∨ i = 0 ∨ i = 1 := by omega
  have hj : j = -1 ∨ j = 0 ∨ j = 1 := by omega
  rcases hi with rfl | rfl | rfl <;> rcases hj with rfl | rfl | rfl <;> decide
 rw [e1, w64 (x := i * -j) (by omega) (by omega)]
 by_cases h3 : i ≠ 0 ∧ i = j
 · rw [if_pos h3]; exact Ev.pos (hp.2.2.2 h3) (Ev.now _)
 rw [if_neg h3]
 refine Ev.neg (fun f => h3 (hp.2.2.1 f)) ?_
 by_cases h4 : i = 0
 case neg => rw [if_pos h4]; exact Ev.neg h4 (Ev.now _)
 rw [if_neg (show ¬ (i ≠ 0) by simpa using h4)]
 refine Ev.pos h4 ?_
 by_cases h5 : j = 0
 case neg => rw [if_pos h5]; exact Ev.neg (by omega) (Ev.now _)
 rw [if_neg (show ¬ (j ≠ 0) by simpa using h5)]
 refine Ev.pos (by omega) (Ev.bind0 (sub_eq u v hu hv) ?_)
 by_cases g : I64 (u - v)
 · rw [out_in g, if_pos g]; exact Ev.pos rfl (Ev.now _)
 · rw [out_no g, if_neg g]; exact Ev.neg (by decide) (Ev.now _)
theorem rsub17_ev {i u j v : Int} (hu : I64 u) (hv : I64 v) : Ev (fun k => kR.f k i u j v) (subR i u j v) := by
 unfold kR.f subR
 refine Ev.bind (vH i u hu) ?_
 by_cases h1 : DRS i u
 case neg =>
  rw [if_neg (show ¬ (DRS i u ∧ DRS j v) from fun f => h1 f.1)]
  refine Ev.neg (by simp [h1]) (Ev.succ ?_)
  simp only [kR.j0, if_true]
  exact Ev.now _
 refine Ev.pos (decide_eq_true h1) (Ev.bind (vH j v hv) ?_)
 by_cases h2 : DRS j v
 case neg =>
  rw [if_neg (show ¬ (DRS i u ∧ DRS j v) from fun f => h2 f.2), decide_eq_false h2]
  refine Ev.succ ?_
  simp only [kR.j0, Bool.not_false, if_true]
  exact Ev.now _
 rw [if_pos (show DRS i u ∧ DRS j v from ⟨h1, h2⟩), decide_eq_true h2]
 have b2 := inf_bd h2
 refine Ev.succ ?_
 simp only [kR.j0, Bool.not_true, Bool.false_eq_true, if_false]
 by_cases h4 : i = 0
 · subst h4
   rw [if_neg (show ¬ ((0 : Int) ≠ 0 ∧ (0 : Int) = j) by simp), if_neg (show ¬ ((0 : Int) ≠ 0) by simp)]
   refine Ev.pos rfl (Ev.succ ?_)
   simp only [kR.j1, Bool.false_eq_true, if_false, if_true]
   by_cases h5 : j = 0
   case neg =>
    rw [if_pos h5]
    refine Ev.neg h5 (Ev.cast (Ev.now _) ?_)
    rw [w64 (by omega) (by omega)]
   rw [if_neg (show ¬ (j ≠ 0) by simpa using h5)]
   refine Ev.pos h5 (Ev.bind (rsub_ev u v hu hv) ?_)
   by_cases g : I64 (u - v)
   · rw [out_in g, if_pos g]; exact Ev.pos rfl (Ev.now _)
   · rw [out_no g, if_neg g]; exact Ev.neg (by decide) (Ev.now _)
 · refine Ev.neg h4 (Ev.succ ?_)
   simp only [kR.j1]
   by_cases h5 : i = j
   · rw [if_pos (show i ≠ 0 ∧ i = j from ⟨h4, h5⟩)]
     exact Ev.pos (by simpa using h5) (Ev.now _)
   · rw [if_neg (show ¬ (i ≠ 0 ∧ i = j) from fun f => h5 f.2), if_pos h4]
     exact Ev.neg (by simpa using h5) (Ev.neg h4 (Ev.now _))
noncomputable def mix (n : Int) : Int := 12 * (ymd n).1 + (ymd n).2.1
theorem mix_mono {a b : Int} (h : a ≤ b) : mix a ≤ mix b := by
 have h1 := ymd_ok a
 have h2 := ymd_ok b
 have := h1.le_of h2 h
 have a1 := h1.m1; have a2 := h1.m12; have b1 := h2.m1; have b2 := h2.m12
 unfold mix
 omega
theorem mix_lt {a b : Int} (h : mix a < mix b) : a < b := by
 rcases Int.lt_or_le a b with g | g
 · exact g
 · have := mix_mono g; omega
theorem ymd_is {n y m d : Int} (h : IsDate n y m d) : ymd n = (y, m, d) := by
 obtain ⟨h1, h2, h3⟩ := (ymd_ok n).unique h
 rw [← h1, ← h2, ← h3]
theorem mix_shift (n q : Int) : mix (shN n q) = mix n + q := by
 unfold mix
 rw [ymd_is (shN_date n q)]
 simp only
 unfold shY shM
 omega
theorem mix_bd {n : Int} (h : DIn n) : -56543 ≤ mix n ∧ mix n ≤ 3531324 := by
 have hy := din_y h
 have hd := ymd_ok n
 have := hd.m1; have := hd.m12
 unfold mix; omega
theorem shX_mix {n q x : Int} (h : shX n q = some x) : mix x = mix n + q := by
 unfold shX at h
 split at h
 · rename_i hq; simp at h; subst h; omega
 · split at h
   · simp at h; subst h; exact mix_shift n q
   · cases h
theorem shX_din {n q x : Int} (hn : DIn n) (h : shX n q = some x) : DIn x := by
 unfold shX at h
 split at h
 · simp at h; subst h; exact hn
 · split at h
   · rename_i g; simp at h; subst h; exact g.2
   · cases h
theorem shX_some {n a q : Int} (hn : DIn n) (ha : DIn a) (h0 : 0 ≤ q) (h : mix n + q ≤ mix a) : ∃ x, shX n q = some x := by
 unfold shX
 by_cases hq : q = 0
 · exact ⟨_, if_pos hq⟩
 · have b1 := mix_bd hn
   have b2 := mix_bd ha
   have hs := shN_date n q
   have ym : -4712 ≤ shY (ymd n).1 (ymd n).2.1 q ∧ shY (ymd n).1 (ymd n).2.1 q ≤ 294276 := by
    have y1 := din_y hn
    have y2 := din_y ha
    have d1 := ymd_ok n
    have d2 := ymd_ok a
    have := d1.m1; have := d1.m12; have := d2.m1; have := d2.m12
    unfold mix at h
    unfold shY
    omega
   exact ⟨_, by rw [if_neg hq, if_pos (show MonthsOk q ∧ DIn (shN n q) from ⟨by unfold MonthsOk; omega, (din_year hs).1 ym⟩)]⟩
noncomputable def addX (v q : Int) : Option Int := (shX (v / 86400000000) q).bind fun x => some (x * 86400000000 + v % 86400000000)
theorem addR_months {v q : Int} (h : DRS 0 v) : addR v q 0 0 = match addX v q with | none => (0, 0, 10) | some x => (0, x, 0) := by
 unfold addR addX
 rcases hx : shX (v / 86400000000) q with _ | x
 · rfl
 · have hD := shX_din (drs_fin.1 h) hx
   have e0 : (x + 0) * 86400000000 + v % 86400000000 + 0 = x * 86400000000 + v % 86400000000 := by omega
   have e1 : (x * 86400000000 + v % 86400000000) / 86400000000 = x := by omega
   simp only [Option.bind_some]
   rw [e0, show x + 0 = x by omega, if_pos (show DIn x ∧ I64 (x * 86400000000 + v % 86400000000) ∧ DRS 0 (x * 86400000000 + v % 86400000000) from ⟨hD, stamp_i64 hD, drs_fin.2 (by rw [e1]; exact hD)⟩)]
theorem addX_facts {v q x : Int} (h : DRS 0 v) (hx : addX v q = some x) : DRS 0 x ∧ mix (x / 86400000000) = mix (v / 86400000000) + q ∧ I64 x ∧ x % 86400000000 = v % 86400000000 := by
 unfold addX at hx
 rcases hs : shX (v / 86400000000) q with _ | n
 · rw [hs] at hx; cases hx
 · rw [hs] at hx
   simp only [Option.bind_some, Option.some.injEq] at hx
   have hD := shX_din (drs_fin.1 h) hs
   have e1 : x / 86400000000 = n := by omega
   refine ⟨drs_fin.2 (by rw [e1]; exact hD), by rw [e1]; exact shX_mix hs, ?_, by omega⟩
   have := stamp_i64 (v := v) hD
   rw [← hx]; exact this
theorem addX_zero (v : Int) : addX v 0 = some v := by
 unfold addX shX
 rw [if_pos rfl]
 simp only [Option.bind_some]
 congr 1; omega
theorem addX_some {v u q : Int} (hv : DRS 0 v) (hu : DRS 0 u) (h0 : 0 ≤ q) (h : mix (v / 86400000000) + q ≤ mix (u / 86400000000)) : ∃ x, addX v q = some x := by
 obtain ⟨x, hx⟩ := shX_some (drs_fin.1 hv) (drs_fin.1 hu) h0 h
 exact ⟨_, by unfold addX; rw [hx]; rfl⟩
theorem mix_stamp {x u : Int} (h : mix (x / 86400000000) < mix (u / 86400000000)) : x < u := by
 have := mix_lt h; omega
noncomputable def gapM (u v : Int) : Int := mix (u / 86400000000) - mix (v / 86400000000)
theorem gapM_nonneg {u v : Int} (h : v ≤ u) : 0 ≤ gapM u v := by
 have := mix_mono (show v / 86400000000 ≤ u / 86400000000 by omega)
 unfold gapM; omega
structure Aged (u v : Int) (K x : Int) : Prop where
 k0 : 0 ≤ K
 gap : K = gapM u v ∨ K = gapM u v - 1
 at_ : addX v K = some x
 le : x ≤ u
 up : ∀ y, addX v (K + 1) = some y → y > u
theorem age_ex {u v : Int} (hu : DRS 0 u) (hv : DRS 0 v) (h : v ≤ u) : ∃ K x, Aged u v K x := by
 have g0 := gapM_nonneg h
 have beyond : ∀ q y, gapM u v < q → addX v q = some y → y > u := fun q y hq hy => by
  have := (addX_facts hv hy).2.1
  unfold gapM at hq
  exact mix_stamp (by omega)
 obtain ⟨xd, hd⟩ := addX_some hv hu g0 (by unfold gapM; omega)
 by_cases hx : xd ≤ u
 · exact ⟨gapM u v, xd, g0, .inl rfl, hd, hx, fun y hy => beyond _ y (by omega) hy⟩
 · have g1 : gapM u v ≠ 0 := fun e => by
    rw [e, addX_zero] at hd
    simp at hd; omega
   obtain ⟨x, hk⟩ := addX_some (q := gapM u v - 1) hv hu (by omega) (by unfold gapM; omega)
   have hl : x < u := by
    have := (addX_facts hv hk).2.1
    exact mix_stamp (by unfold gapM at this; omega)
   refine ⟨gapM u v - 1, x, by omega, .inr rfl, hk, by omega, fun y hy => ?_⟩
   rw [show gapM u v - 1 + 1 = gapM u v by omega, hd] at hy
   simp at hy; omega
theorem aged_near {u v K x : Int} (hu : DRS 0 u) (hv : DRS 0 v) (h : Aged u v K x) : 0 ≤ u - x ∧ u - x ≤ 100000000000000 := by
 have hf := (addX_facts hv h.at_).2.1
 have hm : mix (u / 86400000000) - 1 ≤ mix (x / 86400000000) := by
  rcases h.gap with e | e <;> unfold gapM at e <;> omega
 have d1 := ymd_ok (u / 86400000000)
 have d2 := ymd_ok (x / 86400000000)
 have y1 := d1.year
 have y2 := d2.year
 have := d1.m1; have := d1.m12; have := d2.m1; have := d2.m12
 unfold mix at hm
 have hy : (ymd (u / 86400000000)).1 - 1 ≤ (ymd (x / 86400000000)).1 := by omega
 have n1 := dby_near ((ymd (u / 86400000000)).1 - 1) ((ymd (u / 86400000000)).1 + 1) (by omega)
 have n2 : dby ((ymd (u / 86400000000)).1 - 1) ≤ dby (ymd (x / 86400000000)).1 := by
  have := dby_far ((ymd (u / 86400000000)).1 - 1) (ymd (x / 86400000000)).1 hy; omega
 have := h.le
 omega
def ageS (u K x : Int) : Int × Int × Int × Int × Int := (0, K, (u - x) / 86400000000, (u - x) % 86400000000, 0)
theorem sub_aged {u v K x : Int} (hu : DRS 0 u) (hv : DRS 0 v) (h : Aged u v K x) : subR 0 u 0 x = (0, 0, (u - x) / 86400000000, (u - x) % 86400000000, 0) := by
 have n := aged_near hu hv h
 have f := addX_facts hv h.at_
 unfold subR
 rw [if_pos (show DRS 0 u ∧ DRS 0 x from ⟨hu, f.1⟩), if_neg (show ¬ ((0 : Int) ≠ 0 ∧ (0 : Int) = 0) by simp), if_neg (show ¬ ((0 : Int) ≠ 0) by simp), if_neg (show ¬ ((0 : Int) ≠ 0) by simp), if_pos (show I64 (u - x) by unfold I64; omega), td_pos n.1, tm_pos n.1, w64 (by omega) (by omega)]
theorem gap_bd {u v : Int} (hu : DRS 0 u) (hv : DRS 0 v) : -3600000 ≤ gapM u v ∧ gapM u v ≤ 3600000 := by
 have b1 := mix_bd (drs_fin.1 hu)
 have b2 := mix_bd (drs_fin.1 hv)
 unfold gapM; omega
theorem drs_i64 {u : Int} (h : DRS 0 u) : I64 u := by
 have := drs_fin.1 h
 unfold DIn at this
 unfold I64; omega
theorem i64_0 : I64 0 := by unfold I64; omega
theorem sok_m {q : Int} (h : -4000000 ≤ q ∧ q ≤ 4000000) : SOk 0 q 0 0 := by unfold SOk; omega
theorem addm_ev {v q : Int} (hv : DRS 0 v) (h : -4000000 ≤ q ∧ q ≤ 4000000) : Ev (fun k => stamp_Add.f k 0 v 0 q 0 0) (match addX v q with | none => (0, 0, 10) | some x => (0, x, 0)) :=
 Ev.cast (sadd_ev hv (drs_i64 hv) i64_0 i64_0 (sok_m h)) (addR_months hv)
theorem raddm_ev {v q : Int} (hv : DRS 0 v) (h : -4000000 ≤ q ∧ q ≤ 4000000) : Ev (fun k => jL.f k 0 v 0 q 0 0) (match addX v q with | none => (0, 0, 10) | some x => (0, x, 0)) :=
 Ev.cast (radd17_ev hv (drs_i64 hv) i64_0 i64_0 (sok_m h)) (addR_months hv)
theorem aged_bd {u v K x : Int} (hu : DRS 0 u) (hv : DRS 0 v) (h : Aged u v K x) : 0 ≤ K ∧ K ≤ 3600000 := by
 have := gap_bd hu hv
 have := h.k0
 rcases h.gap with e | e <;> omega
theorem ageEnd_ev {u v K x : Int} (hu : DRS 0 u) (hv : DRS 0 v) (h : Aged u v K x) : Ev (fun k => stamp_AgeEnd k 0 u 0 v K) (ageS u K x) := by
 have hb := aged_bd hu hv h
 unfold stamp_AgeEnd
 have ha := addm_ev (q := K) hv (by omega)
 rw [h.at_] at ha
 refine Ev.bind ha (Ev.pos rfl (Ev.bind (sub17_ev (drs_i64 hu) (addX_facts hv h.at_).2.2.1) ?_))
 rw [sub_aged hu hv h]
 exact Ev.now _
theorem cmp_fin {a b : Int} (ha : DRS 0 a) (hb : DRS 0 b) : cmpT 0 a 0 b = sgn a b := by
 unfold cmpT
 rw [if_pos ⟨ha, hb⟩]
 unfold lex
 rw [if_pos (sgn_eq rfl)]
theorem ageRnd_stop {u v K x : Int} (hu : DRS 0 u) (hv : DRS 0 v) (h : Aged u v K x) {R : Nat → Option (Int × Int × Int × Int × Int)} : Ev (fun k => stamp_AgeRnd k 0 u 0 v K (R k)) (ageS u K x) := by
 have hb := aged_bd hu hv h
 unfold stamp_AgeRnd
 rw [w64 (x := K + 1) (by omega) (by omega)]
 have ha := addm_ev (q := K + 1) hv (by omega)
 refine Ev.bind ha ?_
 rcases hx : addX v (K + 1) with _ | y
 · exact Ev.neg (by decide) (ageEnd_ev hu hv h)
 · have f := addX_facts hv hx
   refine Ev.pos rfl (Ev.bind (cmpT_ev 0 y 0 u f.2.2.1 (drs_i64 hu)) (Ev.pos ?_ (ageEnd_ev hu hv h)))
   rw [cmp_fin f.1 hu, sgn_gt (h.up y hx)]; omega
theorem ageRnd_go {u v K x : Int} (hu : DRS 0 u) (hv : DRS 0 v) (h : Aged u v K x) {R : Nat → Option (Int × Int × Int × Int × Int)} {r : Int × Int × Int × Int × Int} (hR : Ev R r) : Ev (fun k => stamp_AgeRnd k 0 u 0 v (K - 1) (R k)) r := by
 have hb := aged_bd hu hv h
 unfold stamp_AgeRnd
 rw [show K - 1 + 1 = K by omega, w64 (x := K) (by omega) (by omega)]
 have ha := addm_ev (q := K) hv (by omega)
 rw [h.at_] at ha
 have f := addX_facts hv h.at_
 refine Ev.bind ha (Ev.pos rfl (Ev.bind (cmpT_ev 0 x 0 u f.2.2.1 (drs_i64 hu)) (Ev.neg ?_ hR)))
 rw [cmp_fin f.1 hu]
 have := h.le
 unfold sgn
 split
 · omega
 · rw [if_neg (by omega)]; omega
theorem parts_fin {n : Int} (h : DIn n) : vA.f 0 n = some ((ymd n).1, (ymd n).2.1, (ymd n).2.2, 0) := by
 unfold vA.f
 rw [dright_eq, decide_eq_true (show DR 0 n from .inl ⟨rfl, h⟩)]
 simp only [Option.bind_some, if_true]
 rw [date_eq (ymd_ok n) (din_can h)]; rfl
theorem month1_ev {u : Int} (hu : DRS 0 u) : Ev (fun k => vB.f k 0 u) (mix (u / 86400000000)) := by
 have hD := drs_fin.1 hu
 have b := mix_bd hD
 have hy := din_y hD
 have hd := ymd_ok (u / 86400000000)
 have := hd.m1; have := hd.m12
 unfold vB.f
 refine Ev.bind (Ev.cast (ofD_ev 0 u (drs_i64 hu)) (ofD_fin hu)) (Ev.bind0 (parts_fin hD) (Ev.cast (Ev.now _) ?_))
 simp only
 rw [w64 (x := 12 * (ymd (u / 86400000000)).1) (by omega) (by omega), w64 (by omega) (by omega)]
 rfl
theorem months_ev {u v : Int} (hu : DRS 0 u) (hv : DRS 0 v) : Ev (fun k => vE.f k 0 u 0 v) (if gapM u v - 1 > 0 then gapM u v - 1 else 0) := by
 have b := gap_bd hu hv
 unfold vE.f
 refine Ev.bind (month1_ev hu) (Ev.bind (month1_ev hv) (Ev.cast (Ev.now _) ?_))
 unfold gapM at b ⊢
 rw [w64 (x := mix (u / 86400000000) - mix (v / 86400000000)) (by omega) (by omega), w64 (by omega) (by omega)]
theorem ageUp_ev {u v K x : Int} (hu : DRS 0 u) (hv : DRS 0 v) (h : Aged u v K x) {R : Nat → Option (Int × Int × Int × Int × Int)} (hle : v ≤ u) : Ev (fun k => stamp_AgeG k 0 u 0 v (R k)) (ageS u K x) := by
 have g := gap_bd hu hv
 have hb := aged_bd hu hv h
 have hk := h.gap
 unfold stamp_AgeG
 refine Ev.bind (drightS_ev 0 u (drs_i64 hu)) (Ev.pos (decide_eq_true hu) (Ev.bind (drightS_ev 0 v (drs_i64 hv)) (Ev.pos (decide_eq_true hv) (Ev.pos rfl (Ev.pos rfl (Ev.bind (cmpT_ev 0 u 0 v (drs_i64 hu) (drs_i64 hv)) (Ev.neg ?_ (Ev.bind (months_ev hu hv) ?_))))))))
 · rw [cmp_fin hu hv]
   unfold sgn
   rw [if_neg (by omega)]
   split <;> omega
 · by_cases hs : K = (if gapM u v - 1 > 0 then gapM u v - 1 else 0)
   · rw [← hs]
     exact ageRnd_stop hu hv h
   · have e : (if gapM u v - 1 > 0 then gapM u v - 1 else 0) = K - 1 := by
      split at hs
      · rename_i q; rw [if_pos q]; omega
      · rename_i q; rw [if_neg q]; omega
     rw [e]
     refine ageRnd_go hu hv h ?_
     rw [show K - 1 + 1 = K by omega, w64 (x := K) (by omega) (by omega)]
     exact ageRnd_stop hu hv h (R := fun _ => none)
theorem rage_end {u v K x : Int} (hu : DRS 0 u) (hv : DRS 0 v) (h : Aged u v K x) : Ev (fun k => rageEnd k 0 u 0 v K) (ageS u K x) := by
 have hb := aged_bd hu hv h
 unfold rageEnd
 have ha := raddm_ev (q := K) hv (by omega)
 rw [h.at_] at ha
 refine Ev.bind ha (Ev.bind (rsub17_ev (drs_i64 hu) (addX_facts hv h.at_).2.2.1) ?_)
 rw [sub_aged hu hv h]
 exact Ev.pos rfl (Ev.now _)
theorem rage_hit {u v K x : Int} (hu : DRS 0 u) (hv : DRS 0 v) (h : Aged u v K x) {R : Nat → Option (Int × Int × Int × Int × Int)} : Ev (fun k => rageRnd k 0 u 0 v K (R k)) (ageS u K x) := by
 have hb := aged_bd hu hv h
 unfold rageRnd
 by_cases h0 : K > 0
 · have ha := raddm_ev (q := K) hv (by omega)
   rw [h.at_] at ha
   have f := addX_facts hv h.at_
   refine Ev.pos h0 (Ev.bind ha (Ev.pos rfl (Ev.bind (rcmpT_ev 0 x 0 u f.2.2.1 (drs_i64 hu)) (Ev.pos ?_ (rage_end hu hv h)))))
   rw [cmp_fin f.1 hu]
   have := h.le
   unfold sgn
   split
   · omega
   · rw [if_neg (by omega)]; omega
 · exact Ev.neg h0 (rage_end hu hv h)
theorem rage_miss {u v q : Int} (hu : DRS 0 u) (hv : DRS 0 v) (h0 : 0 < q) (h1 : q ≤ 3700000) (hq : ∀ y, addX v q = some y → y > u) {R : Nat → Option (Int × Int × Int × Int × Int)} {r : Int × Int × Int × Int × Int} (hr : Ev R r) : Ev (fun k => rageRnd k 0 u 0 v q (R k)) r := by
 unfold rageRnd
 have ha := raddm_ev (q := q) hv (by omega)
 refine Ev.pos h0 (Ev.bind ha ?_)
 rcases hx : addX v q with _ | y
 · exact Ev.neg (by decide) hr
 · have f := addX_facts hv hx
   refine Ev.pos rfl (Ev.bind (rcmpT_ev 0 y 0 u f.2.2.1 (drs_i64 hu)) (Ev.neg ?_ hr))
   rw [cmp_fin f.1 hu, sgn_gt (hq y hx)]; omega
theorem rage_up {u v K x : Int} (hu : DRS 0 u) (hv : DRS 0 v) (h : Aged u v K x) (hg : 0 ≤ gapM u v) : Ev (fun k => rageRnd k 0 u 0 v (gapM u v + 1) (rageRnd k 0 u 0 v (wrap64 (gapM u v + 1 - 1)) (rageRnd k 0 u 0 v (wrap64 (wrap64 (gapM u v + 1 - 1) - 1)) none))) (ageS u K x) := by
 have g := gap_bd hu hv
 have hb := aged_bd hu hv h
 have far : ∀ y, addX v (gapM u v + 1) = some y → y > u := fun y hy => by
  have := (addX_facts hv hy).2.1
  exact mix_stamp (by unfold gapM at this; omega)
 rw [show gapM u v + 1 - 1 = gapM u v by omega, w64 (x := gapM u v) (by omega) (by omega), w64 (x := gapM u v - 1) (by omega) (by omega)]
 refine rage_miss hu hv (by omega) (by omega) far ?_
 rcases h.gap with e | e
 · rw [← e]; exact rage_hit hu hv h (R := fun k => rageRnd k 0 u 0 v (K - 1) none)
 · refine rage_miss hu hv (by omega) (by omega) (fun y hy => h.up y (by rw [e, show gapM u v - 1 + 1 = gapM u v by omega]; exact hy)) ?_
   rw [← e]; exact rage_hit hu hv h (R := fun _ => none)
theorem rparts_fin {n : Int} (h : DIn n) : Ev (fun k => jM.f k 0 n) ((ymd n).1, (ymd n).2.1, (ymd n).2.2, 0) := by
 obtain ⟨r, h1, h2⟩ := dparts_ev 0 n
 rw [parts_fin h] at h1
 cases h1
 exact h2
theorem rageUp_ev {u v K x : Int} (hu : DRS 0 u) (hv : DRS 0 v) (h : Aged u v K x) {R : Nat → Option (Int × Int × Int × Int × Int)} (hle : v ≤ u) : Ev (fun k => rageG k 0 u 0 v (R k)) (ageS u K x) := by
 have g := gap_bd hu hv
 have y1 := din_y (drs_fin.1 hu)
 have y2 := din_y (drs_fin.1 hv)
 have d1 := ymd_ok (u / 86400000000)
 have d2 := ymd_ok (v / 86400000000)
 have := d1.m1; have := d1.m12; have := d2.m1; have := d2.m12
 unfold rageG
 refine Ev.bind (vH 0 u (drs_i64 hu)) (Ev.pos (decide_eq_true hu) (Ev.bind (vH 0 v (drs_i64 hv)) (Ev.pos (decide_eq_true hv) (Ev.pos rfl (Ev.pos rfl ?_)))))
 refine Ev.bind (rcmpT_ev 0 u 0 v (drs_i64 hu) (drs_i64 hv)) (Ev.neg ?_ (Ev.bind (Ev.cast (rofD_ev 0 u (drs_i64 hu)) (ofD_fin hu)) (Ev.bind (Ev.cast (rofD_ev 0 v (drs_i64 hv)) (ofD_fin hv)) (Ev.bind (rparts_fin (drs_fin.1 hu)) (Ev.bind (rparts_fin (drs_fin.1 hv)) ?_)))))
 · rw [cmp_fin hu hv]
   unfold sgn
   rw [if_neg (by omega)]
   split <;> omega
 · have e : wrap64 (wrap64 (wrap64 (wrap64 (12 * wrap64 ((ymd (u / 86400000000)).1 - (ymd (v / 86400000000)).1)) + (ymd (u / 86400000000)).2.1) - (ymd (v / 86400000000)).2.1) + 1) = gapM u v + 1 := by
    rw [w64 (x := (ymd (u / 86400000000)).1 - (ymd (v / 86400000000)).1) (by omega) (by omega), w64 (x := 12 * ((ymd (u / 86400000000)).1 - (ymd (v / 86400000000)).1)) (by omega) (by omega), w64 (x := 12 * ((ymd (u / 86400000000)).1 - (ymd (v / 86400000000)).1) + (ymd (u / 86400000000)).2.1) (by omega) (by omega), w64 (x := 12 * ((ymd (u / 86400000000)).1 - (ymd (v / 86400000000)).1) + (ymd (u / 86400000000)).2.1 - (ymd (v / 86400000000)).2.1) (by omega) (by omega), w64 (by omega) (by omega)]
    unfold gapM mix; omega
   simp only [e]
   exact rage_up hu hv h (gapM_nonneg hle)
end Go.Proofs.YtimgphlfaninnaaGreat.Civ
namespace Go.Proofs.YtimgphlfaninnaaGreat.Pure
set_option linter.unusedVariables false
set_option linter.unusedSimpArgs false
open Go.RowKit Go.Proofs.YtimgphlfaninnaaGreat.P Go.Proofs.YtimgphlfaninnaaGreatW.PrintWords Go.Proofs.YtimgphlfaninnaaGreatW.PrintLast Go.Proofs.YtimgphlfaninnaaGreat.Civ
theorem knownU : zU.f = some true := rfl
theorem age_sub {i u j v : Int} (hu : I64 u) (hv : I64 v) (h : ¬ (DRS i u ∧ DRS j v ∧ i = 0 ∧ j = 0)) {R : Nat → Option (Int × Int × Int × Int × Int)} : Ev (fun k => stamp_AgeG k i u j v (R k)) (subR i u j v) := by
 have hs := sub17_ev (i := i) (j := j) hu hv
 unfold stamp_AgeG
 refine Ev.bind (drightS_ev i u hu) ?_
 by_cases h1 : DRS i u
 case neg => exact Ev.neg (by simp [h1]) hs
 refine Ev.pos (decide_eq_true h1) (Ev.bind (drightS_ev j v hv) ?_)
 by_cases h2 : DRS j v
 case neg => exact Ev.neg (by simp [h2]) hs
 refine Ev.pos (decide_eq_true h2) ?_
 by_cases h3 : i = 0
 case neg => exact Ev.neg h3 hs
 refine Ev.pos h3 ?_
 by_cases h4 : j = 0
 · exact (h ⟨h1, h2, h3, h4⟩).elim
 · exact Ev.neg h4 hs
theorem rage_sub {i u j v : Int} (hu : I64 u) (hv : I64 v) (h : ¬ (DRS i u ∧ DRS j v ∧ i = 0 ∧ j = 0)) {R : Nat → Option (Int × Int × Int × Int × Int)} : Ev (fun k => rageG k i u j v (R k)) (subR i u j v) := by
 have hs := rsub17_ev (i := i) (j := j) hu hv
 unfold rageG
 refine Ev.bind (vH i u hu) ?_
 by_cases h1 : DRS i u
 case neg => exact Ev.neg (by simp [h1]) hs
 refine Ev.pos (decide_eq_true h1) (Ev.bind (vH j v hv) ?_)
 by_cases h2 : DRS j v
 case neg => exact Ev.neg (by simp [h2]) hs
 refine Ev.pos (decide_eq_true h2) ?_
 by_cases h3 : i = 0
 case neg => exact Ev.neg h3 hs
 refine Ev.pos h3 ?_
 by_cases h4 : j = 0
 · exact (h ⟨h1, h2, h3, h4⟩).elim
 · exact Ev.neg h4 hs
def negR (m d u : Int) : Int × Int × Int × Int × Int := if SOk 0 m d u then (wrap64 (-0), wrap64 (-m), wrap64 (-d), wrap64 (-u), 0) else (0, 0, 0, 0, 1)
theorem neg_ev (m d u : Int) (hu : I64 u) : Ev (fun _ => span_Neg.f 0 m d u) (negR m d u) ∧ Ev (fun _ => zL.f 0 m d u) (negR m d u) := by
 unfold span_Neg.f zL.f negR
 rw [sright_eq 0 m d u hu, rsright_eq]
 simp only [Option.bind_some]
 by_cases h : SOk 0 m d u
 · rw [if_pos h]; exact ⟨Ev.pos (decide_eq_true h) (Ev.now _), Ev.pos (decide_eq_true h) (Ev.now _)⟩
 · rw [if_neg h]; exact ⟨Ev.neg (by simp [h]) (Ev.now _), Ev.neg (by simp [h]) (Ev.now _)⟩
theorem age_same {i u j v : Int} (hu : I64 u) (hv : I64 v) : ∃ r, Ev (fun k => qQ.f k i u j v) r ∧ Ev (fun k => jH.f k i u j v) r := by
 by_cases h : DRS i u ∧ DRS j v ∧ i = 0 ∧ j = 0
 case neg => exact ⟨_, age_sub hu hv h, rage_sub hu hv h⟩
 obtain ⟨h1, h2, rfl, rfl⟩ := h
 by_cases hle : v ≤ u
 · obtain ⟨K, x, h⟩ := age_ex h1 h2 hle
   exact ⟨_, ageUp_ev h1 h2 h hle, rageUp_ev h1 h2 h hle⟩
 · obtain ⟨K, x, h⟩ := age_ex h2 h1 (show u ≤ v by omega)
   have n := neg_ev K ((v - x) / 86400000000) ((v - x) % 86400000000) (by unfold I64; omega)
   refine ⟨negR K ((v - x) / 86400000000) ((v - x) % 86400000000), ?_, ?_⟩
   · unfold qQ.f stamp_AgeG
     refine Ev.bind (drightS_ev 0 u hu) (Ev.pos (decide_eq_true h1) (Ev.bind (drightS_ev 0 v hv) (Ev.pos (decide_eq_true h2) (Ev.pos rfl (Ev.pos rfl (Ev.bind (cmpT_ev 0 u 0 v hu hv) (Ev.pos ?_ (Ev.bind (ageUp_ev h2 h1 h (by omega)) (Ev.pos rfl n.1)))))))))
     rw [cmp_fin h1 h2, sgn_lt (by omega)]; omega
   · unfold jH.f rageG
     refine Ev.bind (vH 0 u hu) (Ev.pos (decide_eq_true h1) (Ev.bind (vH 0 v hv) (Ev.pos (decide_eq_true h2) (Ev.pos rfl (Ev.pos rfl (Ev.bind (rcmpT_ev 0 u 0 v hu hv) (Ev.pos ?_ (Ev.bind (rageUp_ev h2 h1 h (by omega)) (Ev.pos rfl n.2)))))))))
     rw [cmp_fin h1 h2, sgn_lt (by omega)]; omega
theorem StampSubs : jX.Pure := by
 intro i u j v _ hu _ hv
 have hu := i64_of_wf hu
 have hv := i64_of_wf hv
 refine Ev.rounds ?_
 obtain ⟨r, h1, h2⟩ := age_same (i := i) (j := j) hu hv
 unfold jX.f
 refine Ev.bind (sub17_ev hu hv) (Ev.bind (rsub17_ev hu hv) (Ev.bind h1 (Ev.bind h2 ?_)))
 refine Ev.pos (by simp) (Ev.pos rfl (Ev.pos (by simp) (Ev.pos rfl ?_)))
 rw [knownU]
 exact Ev.now _
end Go.Proofs.YtimgphlfaninnaaGreat.Pure
