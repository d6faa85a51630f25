import Derived.Test.YtimgphlfaninnaaGreatQjnpockodeo
import Derived.Test.YtimgphlfaninnaaGreatQmljkdhalhg
import Derived.Test.YtimgphlfaninnaaGreatQdnpmmldpid
import Derived.Test.YtimgphlfaninnaaGreatQciogboaici
import Derived.Test.YtimgphlfaninnaaGreatQcijmomcihd
import Derived.Test.YtimgphlfaninnaaGreatQdfoehbdgao
import Derived.Lib.SmallJoins
import Derived.SizedLaws
import Derived.Test.YtimgphlfaninnaaGreatQjhnpenaine
namespace Go.Proofs.YtimgphlfaninnaaGreat.Civ
set_option linter.unusedVariables false
set_option linter.unusedSimpArgs false
open Go.RowKit Go.Proofs.YtimgphlfaninnaaGreat.P Go.Proofs.YtimgphlfaninnaaGreatW.PrintWords Go.Proofs.YtimgphlfaninnaaGreatW.PrintLast Go.Proofs.YtimgphlfaninnaaGreatW.PrintMore
theorem ymd_ex (n : Int) : ∃ t : Int × Int × Int, IsDate n t.1 t.2.1 t.2.2 := by
 obtain ⟨y, m, d, h⟩ := date_of n
 exact ⟨(y, m, d), h⟩
noncomputable def ymd (n : Int) : Int × Int × Int := Classical.choose (ymd_ex n)
theorem ymd_ok (n : Int) : IsDate n (ymd n).1 (ymd n).2.1 (ymd n).2.2 := Classical.choose_spec (ymd_ex n)
noncomputable def shN (n q : Int) : Int := dnum (shY (ymd n).1 (ymd n).2.1 q) (shM (ymd n).1 (ymd n).2.1 q) (shD (ymd n).1 (ymd n).2.1 (ymd n).2.2 q)
theorem shN_date (n q : Int) : IsDate (shN n q) (shY (ymd n).1 (ymd n).2.1 q) (shM (ymd n).1 (ymd n).2.1 q) (shD (ymd n).1 (ymd n).2.1 (ymd n).2.2 q) := by
 have h := ymd_ok n
 have b := shM_bd (ymd n).1 (ymd n).2.1 q
 have ml := mlen_bd (shY (ymd n).1 (ymd n).2.1 q) (shM (ymd n).1 (ymd n).2.1 q) b.1 b.2
 have d1 := h.d1
 refine ⟨b.1, b.2, ?_, ?_, rfl⟩ <;> unfold shD <;> split <;> omega
noncomputable def shX (n q : Int) : Option Int := if q = 0 then some n else if MonthsOk q ∧ DIn (shN n q) then some (shN n q) else none
noncomputable def shR (n q : Int) : Int × Int × Int := if MonthsOk q ∧ DIn (shN n q) then (0, shN n q, 0) else (0, 0, 10)
theorem shR_val {n q : Int} (h : DIn n) : ∃ r : Int × Int, Ev (fun k => bH.f k n q) r ∧ Ev (fun k => kJ.f k n q) r ∧ madeE r.1 r.2 = shR n q := by
 have hd := ymd_ok n
 have hs := shN_date n q
 by_cases hk : MonthsOk q
 · have e := shift_eq hd (din_can h) hk
   refine ⟨_, Ev.at1 (fun k => e k), rshift_ev hd (din_can h) hk, ?_⟩
   unfold shR
   by_cases g : DateOk (shY (ymd n).1 (ymd n).2.1 q) (shM (ymd n).1 (ymd n).2.1 q) (shD (ymd n).1 (ymd n).2.1 (ymd n).2.2 q)
   · rw [if_pos g]
     have e1 : madeE (dnum (shY (ymd n).1 (ymd n).2.1 q) (shM (ymd n).1 (ymd n).2.1 q) (shD (ymd n).1 (ymd n).2.1 (ymd n).2.2 q), (0 : Int)).1 (dnum (shY (ymd n).1 (ymd n).2.1 q) (shM (ymd n).1 (ymd n).2.1 q) (shD (ymd n).1 (ymd n).2.1 (ymd n).2.2 q), (0 : Int)).2 = made (shN n q) := rfl
     rw [e1]
     unfold made
     by_cases g2 : DIn (shN n q)
     · rw [if_pos g2, if_pos (show MonthsOk q ∧ DIn (shN n q) from ⟨hk, g2⟩)]
     · rw [if_neg g2, if_neg (show ¬ (MonthsOk q ∧ DIn (shN n q)) from fun f => g2 f.2)]
   · rw [if_neg g, if_neg (show ¬ (MonthsOk q ∧ DIn (shN n q)) from ?_)]
     · rfl
     · intro f
       have hy := (din_year hs).2 f.2
       exact g ⟨by omega, by omega, hs.m1, hs.m12, hs.d1, hs.dl⟩
 · refine ⟨_, Ev.at1 (fun k => shift_no (.inr hk) k), rshift_no (.inr hk), ?_⟩
   unfold shR
   rw [if_neg (show ¬ (MonthsOk q ∧ DIn (shN n q)) from fun f => hk f.1)]
   rfl
theorem dsh_ev {n q : Int} (h : DIn n) : Ev (fun k => bV.f k 0 n q) (shR n q) ∧ Ev (fun k => kQ.f k 0 n q) (shR n q) := by
 obtain ⟨r, h1, h2, h3⟩ := shR_val (q := q) h
 have hR : DR 0 n := .inl ⟨rfl, h⟩
 rw [← h3]
 unfold bV.f bD.f kQ.f
 refine ⟨?_, ?_⟩
 · exact Ev.bind (Ev.bind0 (dright_eq 0 n) (Ev.pos (decide_eq_true hR) (Ev.pos rfl (Ev.bind h1 (Ev.bind0 (finite_eq _ _) (Ev.now _)))))) (Ev.now _)
 · exact Ev.bind (rdright_ev 0 n) (Ev.pos (decide_eq_true hR) (Ev.pos rfl (Ev.bind h2 (Ev.bind (rmade_ev _ _) (Ev.now _)))))
theorem stamp_fin {n v : Int} (h : DIn n) : stampD 0 n (v % 86400000000) = (0, n * 86400000000 + v % 86400000000, 0) := by
 unfold stampD
 have e : (n * 86400000000 + v % 86400000000) / 86400000000 = n := by omega
 rw [if_pos ⟨.inl ⟨rfl, h⟩, by omega, by omega⟩, if_pos rfl, e, if_pos h]
theorem addD_fin {n d : Int} (h : DIn n) : addD 0 n d = made (n + d) := by
 unfold addD
 rw [if_pos (show DR 0 n from .inl ⟨rfl, h⟩), if_pos rfl]
theorem stamp_i64 {n v : Int} (h : DIn n) : I64 (n * 86400000000 + v % 86400000000) := by
 unfold DIn at h; unfold I64; omega
theorem ofD_fin {v : Int} (h : DRS 0 v) : ofD 0 v = (0, v / 86400000000, v % 86400000000, 0) := by unfold ofD; rw [if_pos h, if_pos rfl]
theorem days_end {x v q d s : Int} (h : DIn x) (hd : I64 d) : Ev (fun k => jR.j1 k (v % 86400000000) 0 0 q d s 0 x) (if DIn (x + d) then (0, (x + d) * 86400000000 + v % 86400000000, 0) else (0, 0, 10)) := by
 refine Ev.succ ?_
 simp only [jR.j1, if_true]
 refine Ev.bind0 (addD_eq 0 x d hd) ?_
 rw [addD_fin h]
 unfold made
 by_cases g : DIn (x + d)
 · rw [if_pos g, if_pos g]
   exact Ev.pos rfl (Ev.bind (Ev.cast (stampD_ev 0 (x + d) (v % 86400000000)) (stamp_fin g)) (Ev.now _))
 · rw [if_neg g, if_neg g]
   exact Ev.neg (by decide) (Ev.now _)
theorem days_ev {v q d s : Int} (h : DRS 0 v) (hv : I64 v) (hd : I64 d) : Ev (fun k => jR.f k 0 v 0 q d s) (match shX (v / 86400000000) q with | none => (0, 0, 10) | some x => if DIn (x + d) then (0, (x + d) * 86400000000 + v % 86400000000, 0) else (0, 0, 10)) := by
 have hD := drs_fin.1 h
 unfold jR.f shX
 refine Ev.bind (ofD_ev 0 v hv) ?_
 rw [ofD_fin h]
 by_cases hq : q = 0
 · rw [if_pos hq]
   refine Ev.pos hq (Ev.succ ?_)
   simp only [jR.j0, Bool.false_eq_true, if_false]
   exact days_end hD hd
 · rw [if_neg hq]
   refine Ev.neg hq (Ev.succ ?_)
   simp only [jR.j0, beq_self_eq_true, if_true]
   refine Ev.bind (dsh_ev hD).1 ?_
   unfold shR
   by_cases g : MonthsOk q ∧ DIn (shN (v / 86400000000) q)
   · rw [if_pos g, if_pos g]
     exact days_end g.2 hd
   · rw [if_neg g, if_neg g]
     refine Ev.succ ?_
     simp only [jR.j1]
     exact Ev.neg (by decide) (Ev.now _)
theorem rdate_end {x v q d s : Int} (h : DIn x) (hd : I64 d) : Ev (fun k => jA.j0 k (v % 86400000000) 0 q d s 0 x) (if DIn (x + d) then (0, (x + d) * 86400000000 + v % 86400000000, 0) else (0, 0, 10)) := by
 refine Ev.succ ?_
 simp only [jA.j0]
 refine Ev.bind (raddD_ev 0 x d hd) ?_
 rw [addD_fin h]
 unfold made
 by_cases g : DIn (x + d)
 · rw [if_pos g, if_pos g]
   exact Ev.pos rfl (Ev.bind (Ev.cast (rstampD_ev 0 (x + d) (v % 86400000000)) (stamp_fin g)) (Ev.now _))
 · rw [if_neg g, if_neg g]
   exact Ev.neg (by decide) (Ev.now _)
theorem rdate17_ev {v q d s : Int} (h : DRS 0 v) (hv : I64 v) (hd : I64 d) : Ev (fun k => jA.f k 0 v 0 q d s) (match shX (v / 86400000000) q with | none => (0, 0, 10) | some x => if DIn (x + d) then (0, (x + d) * 86400000000 + v % 86400000000, 0) else (0, 0, 10)) := by
 have hD := drs_fin.1 h
 unfold jA.f shX
 refine Ev.bind (rofD_ev 0 v hv) ?_
 rw [ofD_fin h]
 by_cases hq : q = 0
 · rw [if_pos hq]
   exact Ev.pos hq (rdate_end hD hd)
 · rw [if_neg hq]
   refine Ev.neg hq (Ev.bind (dsh_ev hD).2 ?_)
   unfold shR
   by_cases g : MonthsOk q ∧ DIn (shN (v / 86400000000) q)
   · rw [if_pos g, if_pos g]
     exact Ev.pos rfl (rdate_end g.2 hd)
   · rw [if_neg g, if_neg g]
     exact Ev.neg (by decide) (Ev.now _)
end Go.Proofs.YtimgphlfaninnaaGreat.Civ
namespace Go.Proofs.YtimgphlfaninnaaGreat.P
open Go.RowKit Go.Proofs.YtimgphlfaninnaaGreat.Civ Go.Proofs.YtimgphlfaninnaaGreat.Ft Go.Proofs.YtimgphlfaninnaaGreat.Zn
set_option linter.unusedVariables false
set_option linter.unusedSimpArgs false
open A
def secOf (u : Int) : Int := u / 1000000 + 946684800
noncomputable def daysR (v q d : Int) : Int × Int × Int := match shX (v / 86400000000) q with
 | none => (0, 0, 10)
 | some x => if DIn (x + d) then (0, (x + d) * 86400000000 + v % 86400000000, 0) else (0, 0, 10)
def onR (w s : Int) : Int × Int × Int := if I64 (w + s) ∧ DRS 0 (w + s) then (0, w + s, 0) else (0, 0, 10)
def joinR (s us : Int) : Int × Int × Int := if I64 ((s - 946684800) * 1000000) then onR ((s - 946684800) * 1000000) us else (0, 0, 10)
noncomputable def offE (z : Zt) (i u : Int) : Int := if ZtOk z ∧ DRS i u then (if i = 0 then zErr z (secOf u) else 10) else 1
noncomputable def offT (z : Zt) (i u : Int) : Tr := if offE z i u = 0 then atZ z (secOf u) else ⟨0, 0, false, ⟨#[]⟩⟩
noncomputable def locR (z : Zt) (i u : Int) : Int × Int × Int := if ZtOk z ∧ DRS i u then (if i = 0 then (if zErr z (secOf u) = 0 then onR u ((atZ z (secOf u)).off * 1000000) else (0, 0, zErr z (secOf u))) else (i, u, 0)) else (0, 0, 1)
noncomputable def insF (z : Zt) (x : Int × Int) (us : Int) : Int × Int × Int × Int := if (joinR x.1 us).2.2 = 0 then ((joinR x.1 us).1, (joinR x.1 us).2.1, x.2, 0) else (0, 0, 0, (joinR x.1 us).2.2)
noncomputable def insR (z : Zt) (i u : Int) : Int × Int × Int × Int := if ZtOk z ∧ DRS i u then (if i = 0 then (if iErr z (secOf u) = 0 then insF z (instE z (secOf u)) (u % 1000000) else (0, 0, 0, iErr z (secOf u))) else (i, u, 0, 0)) else (0, 0, 0, 1)
def thenOn (x : Int × Int × Int) (s : Int) : Int × Int × Int := if x.2.2 = 0 then onR x.2.1 s else (0, 0, x.2.2)
def infR (i j : Int) (r : Int × Int × Int) : Int × Int × Int := if i * j < 0 then (0, 0, 10) else if i ≠ 0 then (i, 0, 0) else if j ≠ 0 then (j, 0, 0) else r
noncomputable def plusR (i u j q d s : Int) : Int × Int × Int := if DRS i u ∧ SOk j q d s then infR i j (thenOn (daysR u q d) s) else (0, 0, 1)
noncomputable def movD (z : Zt) (x : Int × Int × Int) : Int × Int × Int := if x.2.2 = 0 then ((insR z x.1 x.2.1).1, (insR z x.1 x.2.1).2.1, (insR z x.1 x.2.1).2.2.2) else (0, 0, x.2.2)
noncomputable def movR (z : Zt) (u q d : Int) : Int × Int × Int := if q = 0 ∧ d = 0 then (0, u, 0) else if (locR z 0 u).2.2 = 0 then movD z (daysR (locR z 0 u).2.1 q d) else (0, 0, (locR z 0 u).2.2)
noncomputable def tzR (z : Zt) (i u j q d s : Int) : Int × Int × Int := if ZtOk z ∧ DRS i u ∧ SOk j q d s then infR i j (thenOn (movR z u q d) s) else (0, 0, 1)
noncomputable def csRS : Con
 | [.agg [.int .i64 i, .int .i64 u]] => some (decide (I64 u), .bool (decide (DRS i u)))
 | _ => none
noncomputable def csSp : Con
 | [.agg [.int .i64 i, .int .i64 m, .int .i64 d, .int .i64 u]] => some (decide (I64 u), .bool (decide (SOk i m d u)))
 | _ => none
noncomputable def csDiv : Con
 | [.int .i64 a, .int .i64 b] => some (b == 1000000 && decide (I64 a), .tup [.int .i64 (a / 1000000), .int .i64 0])
 | _ => none
noncomputable def csMod : Con
 | [.int .i64 a, .int .i64 b] => some (b == 1000000 && decide (I64 a), .tup [.int .i64 (a % 1000000), .int .i64 0])
 | _ => none
noncomputable def csMul : Con
 | [.int .i64 a, .int .i64 b] => some (decide (I64 a ∧ I64 b), .tup [.int .i64 (out (a * b)).1, .int .i64 (out (a * b)).2])
 | _ => none
noncomputable def csAdd : Con
 | [.int .i64 a, .int .i64 b] => some (decide (I64 a ∧ I64 b), .tup [.int .i64 (out (a + b)).1, .int .i64 (out (a + b)).2])
 | _ => none
def avS (x : Int × Int × Int) : AV := .tup [.agg [.int .i64 x.1, .int .i64 x.2.1], .int .i64 x.2.2]
noncomputable def csDays : Con
 | [.agg [.int .i64 i, .int .i64 v], .agg [.int .i64 j, .int .i64 q, .int .i64 d, .int .i64 s]] => some (decide (I64 v ∧ I64 d ∧ DRS i v ∧ i = (0 : Int) ∧ j = (0 : Int)), avS (daysR v q d))
 | _ => none
noncomputable def csOn : Con
 | [.agg [.int .i64 i, .int .i64 w], .int .i64 s] => some (decide (I64 w ∧ I64 s), avS (onR w s))
 | _ => none
noncomputable def csJoin : Con
 | [.int .i64 s, .int .i64 us] => some (decide (I64 (s - 946684800) ∧ I64 us), avS (joinR s us))
 | _ => none
noncomputable def csOff : Con
 | [.agg l, .agg [.int .i64 i, .int .i64 u]] => match rdZ l with
  | some (p, z) => some (p && decide (I64 u), .tup [.agg (avT (offT z i u)), .int .i64 (offE z i u)])
  | none => none
 | _ => none
noncomputable def csLoc : Con
 | [.agg l, .agg [.int .i64 i, .int .i64 u]] => match rdZ l with
  | some (p, z) => some (p && decide (I64 u), avS (locR z i u))
  | none => none
 | _ => none
noncomputable def csIns : Con
 | [.agg l, .agg [.int .i64 i, .int .i64 u]] => match rdZ l with
  | some (p, z) => some (p && decide (I64 u), .tup [.agg [.int .i64 (insR z i u).1, .int .i64 (insR z i u).2.1], .int .i64 (insR z i u).2.2.1, .int .i64 (insR z i u).2.2.2])
  | none => none
 | _ => none
noncomputable def csTz : Con
 | [.agg l, .agg [.int .i64 i, .int .i64 u], .agg [.int .i64 j, .int .i64 q, .int .i64 d, .int .i64 s]] => match rdZ l with
  | some (p, z) => some (p && decide (I64 u ∧ I64 d ∧ I64 s), avS (tzR z i u j q d s))
  | none => none
 | _ => none
noncomputable def csPlus : Con
 | [.agg [.int .i64 i, .int .i64 u], .agg [.int .i64 j, .int .i64 q, .int .i64 d, .int .i64 s]] => some (decide (I64 u ∧ I64 d ∧ I64 s), avS (plusR i u j q d s))
 | _ => none
def avZn (z : Zt) : List AV := [.str z.nm, .int .i64 z.at0, .int .i64 z.off0, .bool z.d0, .str z.b0, .nv 4 z.n (znRow z), .bool z.F.z, .int .i64 z.F.fr, .int .i64 z.F.off, .int .i64 z.F.a.m, .int .i64 z.F.a.k, .int .i64 z.F.a.w, .int .i64 z.F.a.n, .int .i64 z.F.a.s, .int .u8 z.F.a.c, .int .i64 z.F.a.v, .str z.F.a.ab, .int .i64 z.F.b.m, .int .i64 z.F.b.k, .int .i64 z.F.b.w, .int .i64 z.F.b.n, .int .i64 z.F.b.s, .int .u8 z.F.b.c, .int .i64 z.F.b.v, .str z.F.b.ab]
noncomputable def csGiv : Con
 | [.agg l] => match rdZ l with
  | some (p, z) => some (p && roomB z.n 40, .agg (avZn z))
  | none => none
 | _ => none
theorem csRS_ok : COk Tryz.prog 51 csRS := by
 intro args p v hc hp w A hA
 unfold csRS at hc
 split at hc
 case h_2 => cases hc
 rename_i i u
 simp only [Option.some.injEq, Prod.mk.injEq] at hc
 obtain ⟨rfl, rfl⟩ := hc
 obtain rfl : A = [.agg #[.int .i64 i, .int .i64 u]] := by simpa [kG, kL, kM, kV] using hA
 obtain ⟨K, hK⟩ := drightS_ev i u (of_decide_eq_true hp)
 exact kK (fn := Tryz.f51) Tryz.func51 (by kernel_rfl) (by kernel_rfl) (kX.calls K _ _ _ w (hK K (Nat.le_refl _))) (fun _ => by simp [kN]) (fun _ h => by first | exact h | exact h.below)
theorem csSp_ok : COk Tryz.prog 27 csSp := by
 intro args p v hc hp w A hA
 unfold csSp at hc
 split at hc
 case h_2 => cases hc
 rename_i i m d u
 simp only [Option.some.injEq, Prod.mk.injEq] at hc
 obtain ⟨rfl, rfl⟩ := hc
 obtain rfl : A = [.agg #[.int .i64 i, .int .i64 m, .int .i64 d, .int .i64 u]] := by simpa [kG, kL, kM, kV] using hA
 exact kK (fn := Tryz.f27) Tryz.func27 (by kernel_rfl) (by kernel_rfl) (span_Right.calls _ _ _ _ _ w (sright_eq i m d u (of_decide_eq_true hp))) (fun _ => by simp [kN]) (fun _ h => by first | exact h | exact h.below)
theorem csDiv_ok : COk Tryz.prog 74 csDiv := by
 intro args p v hc hp w A hA
 unfold csDiv at hc
 split at hc
 case h_2 => cases hc
 rename_i a b
 simp only [Option.some.injEq, Prod.mk.injEq] at hc
 obtain ⟨rfl, rfl⟩ := hc
 rw [Bool.and_eq_true] at hp
 have h1 := of_decide_eq_true hp.2
 obtain rfl : b = 1000000 := by simpa using hp.1
 obtain rfl : A = [.int .i64 a, .int .i64 1000000] := by simpa [kG, kL, kM] using hA
 have hf := div_eq 0 a 1000000 h1 (by unfold I64; omega) (by omega)
 rw [fl_pos (by omega), out_in (ediv_i64 h1 (by omega))] at hf
 exact kK (fn := Tryz.f74) Tryz.func74 (by kernel_rfl) (by kernel_rfl) (num_Div.calls _ _ _ _ _ w hf) (fun _ => by simp [kG, kL, kM, bK]) (fun _ h => by first | exact h | exact h.below)
theorem csMod_ok : COk Tryz.prog 75 csMod := by
 intro args p v hc hp w A hA
 unfold csMod at hc
 split at hc
 case h_2 => cases hc
 rename_i a b
 simp only [Option.some.injEq, Prod.mk.injEq] at hc
 obtain ⟨rfl, rfl⟩ := hc
 rw [Bool.and_eq_true] at hp
 have h1 := of_decide_eq_true hp.2
 obtain rfl : b = 1000000 := by simpa using hp.1
 obtain rfl : A = [.int .i64 a, .int .i64 1000000] := by simpa [kG, kL, kM] using hA
 have hf := mod_eq a 1000000 h1 (by unfold I64; omega) (by omega)
 rw [md_pos (by omega)] at hf
 exact kK (fn := Tryz.f75) Tryz.func75 (by kernel_rfl) (by kernel_rfl) (num_Mod.calls _ _ _ _ w hf) (fun _ => by simp [kG, kL, kM, bK]) (fun _ h => by first | exact h | exact h.below)
theorem csMul_ok : COk Tryz.prog 78 csMul := by
 intro args p v hc hp w A hA
 unfold csMul at hc
 split at hc
 case h_2 => cases hc
 rename_i a b
 simp only [Option.some.injEq, Prod.mk.injEq] at hc
 obtain ⟨rfl, rfl⟩ := hc
 obtain ⟨h1, h2⟩ := of_decide_eq_true hp
 obtain rfl : A = [.int .i64 a, .int .i64 b] := by simpa [kG, kL, kM] using hA
 exact kK (fn := Tryz.f78) Tryz.func78 (by kernel_rfl) (by kernel_rfl) (jO.calls _ _ _ _ _ w (show jO.f 1 a b = some ((out (a * b)).1, (out (a * b)).2) from mul_eq 0 a b h1 h2)) (fun _ => by simp [kG, kL, kM, bK]) (fun _ h => by first | exact h | exact h.below)
theorem csAdd_ok : COk Tryz.prog 67 csAdd := by
 intro args p v hc hp w A hA
 unfold csAdd at hc
 split at hc
 case h_2 => cases hc
 rename_i a b
 simp only [Option.some.injEq, Prod.mk.injEq] at hc
 obtain ⟨rfl, rfl⟩ := hc
 obtain ⟨h1, h2⟩ := of_decide_eq_true hp
 obtain rfl : A = [.int .i64 a, .int .i64 b] := by simpa [kG, kL, kM] using hA
 exact kK (fn := Tryz.f67) Tryz.func67 (by kernel_rfl) (by kernel_rfl) (zL.calls _ _ _ _ w (show zL.f a b = some ((out (a + b)).1, (out (a + b)).2) from add_eq a b h1 h2)) (fun _ => by simp [kG, kL, kM, bK]) (fun _ h => by first | exact h | exact h.below)
theorem csDays_ok : COk Tryz.prog 44 csDays := by
 intro args p v hc hp w A hA
 unfold csDays at hc
 split at hc
 case h_2 => cases hc
 rename_i i v j q d s
 simp only [Option.some.injEq, Prod.mk.injEq] at hc
 obtain ⟨rfl, rfl⟩ := hc
 obtain ⟨h1, h2, h3, rfl, rfl⟩ := of_decide_eq_true hp
 obtain rfl : A = [.agg #[.int .i64 0, .int .i64 v], .agg #[.int .i64 0, .int .i64 q, .int .i64 d, .int .i64 s]] := by simpa [kG, kL, kM, kV] using hA
 obtain ⟨K, hK⟩ := days_ev (v := v) (q := q) (d := d) (s := s) h3 h1 h2
 have hf : jR.f K 0 v 0 q d s = some ((daysR v q d).1, (daysR v q d).2.1, (daysR v q d).2.2) := hK K (Nat.le_refl _)
 exact kK (fn := Tryz.f44) Tryz.func44 (by kernel_rfl) (by kernel_rfl) (jR.calls K _ _ _ _ _ _ _ _ _ w hf) (fun _ => by simp [avS, kG, kL, kM, bK, kV]) (fun _ h => by first | exact h | exact h.below)
theorem resS {x : Int × Int × Int} {a b c : Int} (h : x = (a, b, c)) : Res (avS x) (.tup [.agg [.int .i64 a, .int .i64 b], .int .i64 c]) := by rw [h]; exact zN rfl
theorem res3 (x : Int × Int × Int) : Res (avS x) (.tup [.agg [.int .i64 x.1, .int .i64 x.2.1], .int .i64 x.2.2]) := zN rfl
set_option maxRecDepth 100000 in
theorem ston_vc (i w s : Int) (K : AV → Prop) : AFL (tab [(67, csAdd), (51, csRS)]) (noLoops) 4 29 [.agg [.int .i64 i, .int .i64 w], .int .i64 s] K =
 (brc (decide (I64 w ∧ I64 s)) (∀ m0 : Int, m0 = Prod.fst (out (w + s)) → ∀ m1 : Int, m1 = Prod.snd (out (w + s)) → brc (m1 != 0) (K (AV.tup [.agg [.int .i64 0, .int .i64 0], .int .i64 10])) (brc (decide (I64 m0)) (∀ m2 : Bool, m2 = decide (DRS 0 m0) → brc (!m2) (K (AV.tup [.agg [.int .i64 0, .int .i64 0], .int .i64 10])) (K (AV.tup [.agg [.int .i64 0, .int .i64 m0], .int .i64 0]))) False)) False) := by kernel_rfl
theorem ston_ok {i w s : Int} (hw : I64 w) (hs : I64 s) : AFL (tab [(67, csAdd), (51, csRS)]) noLoops 4 29 [.agg [.int .i64 i, .int .i64 w], .int .i64 s] (Res (avS (onR w s))) := by
 rw [ston_vc]
 refine brcT (decide_eq_true ⟨hw, hs⟩) ?_
 rintro _ rfl _ rfl
 by_cases h : I64 (w + s)
 · rw [out_in h]
   refine brcF rfl (brcT (decide_eq_true h) ?_)
   rintro _ rfl
   refine kB (fun a => ?_) fun a => ?_
   · exact resS (by unfold onR; rw [if_neg (fun q => by simp [q.2] at a)])
   · exact resS (by unfold onR; rw [if_pos ⟨h, by simpa using a⟩])
 · rw [out_no h]
   exact brcT rfl (resS (by unfold onR; rw [if_neg (fun q => h q.1)]))
theorem csOn_ok : COk Tryz.prog 29 csOn := afl_con (kD csAdd_ok (kD csRS_ok bE)) (by kernel_rfl) fun args p v hc hp => by
 unfold csOn at hc
 split at hc
 case h_2 => cases hc
 simp only [Option.some.injEq, Prod.mk.injEq] at hc
 obtain ⟨rfl, rfl⟩ := hc
 obtain ⟨h1, h2⟩ := of_decide_eq_true hp
 exact ⟨_, _, _, fun w A hA => hA, zI _ _, ston_ok h1 h2⟩
set_option maxRecDepth 100000 in
theorem stjoin_vc (s us : Int) (K : AV → Prop) : AFL (tab [(78, csMul), (29, csOn)]) (noLoops) 4 37 [.int .i64 s, .int .i64 us] K =
 (brc (decide (I64 (IntKind.wrap .i64 (s - 946684800)) ∧ I64 1000000)) (∀ m0 : Int, m0 = Prod.fst (out (IntKind.wrap .i64 (s - 946684800) * 1000000)) → ∀ m1 : Int, m1 = Prod.snd (out (IntKind.wrap .i64 (s - 946684800) * 1000000)) → brc (m1 != 0) (K (AV.tup [.agg [.int .i64 0, .int .i64 0], .int .i64 m1])) (brc (decide (I64 m0 ∧ I64 us)) (∀ m2 : Int, m2 = Prod.fst (onR m0 us) → ∀ m3 : Int, m3 = Prod.fst (Prod.snd (onR m0 us)) → ∀ m4 : Int, m4 = Prod.snd (Prod.snd (onR m0 us)) → K (AV.tup [.agg [.int .i64 m2, .int .i64 m3], .int .i64 m4])) False)) False) := by kernel_rfl
theorem stjoin_ok {s us : Int} (hw : I64 (s - 946684800)) (hs : I64 us) : AFL (tab [(78, csMul), (29, csOn)]) noLoops 4 37 [.int .i64 s, .int .i64 us] (Res (avS (joinR s us))) := by
 rw [stjoin_vc, show IntKind.wrap .i64 (s - 946684800) = s - 946684800 from jU (by unfold I64 at hw; omega)]
 refine brcT (decide_eq_true ⟨hw, by unfold I64; omega⟩) ?_
 rintro _ rfl _ rfl
 by_cases h : I64 ((s - 946684800) * 1000000)
 · rw [out_in h]
   refine brcF rfl (brcT (decide_eq_true ⟨h, hs⟩) ?_)
   rintro _ rfl _ rfl _ rfl
   have e : joinR s us = onR ((s - 946684800) * 1000000) us := by unfold joinR; rw [if_pos h]
   rw [e]
   exact res3 _
 · rw [out_no h]
   exact brcT rfl (resS (by unfold joinR; rw [if_neg h]))
theorem csJoin_ok : COk Tryz.prog 37 csJoin := afl_con (kD csMul_ok (kD csOn_ok bE)) (by kernel_rfl) fun args p v hc hp => by
 unfold csJoin at hc
 split at hc
 case h_2 => cases hc
 simp only [Option.some.injEq, Prod.mk.injEq] at hc
 obtain ⟨rfl, rfl⟩ := hc
 obtain ⟨h1, h2⟩ := of_decide_eq_true hp
 exact ⟨_, _, _, fun w A hA => hA, zI _ _, stjoin_ok h1 h2⟩
theorem sec_bd {u : Int} (h : I64 u) : -9223372036854775808 ≤ u / 1000000 + 946684800 ∧ u / 1000000 + 946684800 ≤ 9223372036854775807 := by unfold I64 at h; omega
set_option maxRecDepth 100000 in
theorem stoff_vc (z : Zt) (i u : Int) (K : AV → Prop) : AFL (tab [(49, zyRight), (51, csRS), (74, csDiv), (75, csMod), (39, zyAt)]) (noLoops) 6 14 [.agg (avZ z), .agg [.int .i64 i, .int .i64 u]] K =
 (brc (tyR (Zt.n z) (znRow z) && bdZ (Zt.F z)) (∀ m0 : Bool, m0 = decide (ZtOk z) → brc (!m0) (K (AV.tup [.agg [.int .i64 0, .int .i64 0, .bool false, .str (ByteArray.mk #[])], .int .i64 1])) (brc (decide (I64 u)) (∀ m1 : Bool, m1 = decide (DRS i u) → brc (!m1) (K (AV.tup [.agg [.int .i64 0, .int .i64 0, .bool false, .str (ByteArray.mk #[])], .int .i64 1])) (brc (i != 0) (K (AV.tup [.agg [.int .i64 0, .int .i64 0, .bool false, .str (ByteArray.mk #[])], .int .i64 10])) (brc (decide (I64 u)) (∀ m2 : Int, m2 = u / 1000000 → ∀ m3 : Int, m3 = 0 → brc (decide (I64 u)) (∀ m4 : Int, m4 = u % 1000000 → ∀ m5 : Int, m5 = 0 → brc (tyR (Zt.n z) (znRow z) && bdZ (Zt.F z) && decide (-9223372036854775808 ≤ IntKind.wrap .i64 (m2 + 946684800) ∧ IntKind.wrap .i64 (m2 + 946684800) ≤ 9223372036854775807)) (∀ m6 : Int, m6 = Tr.t (atE z (IntKind.wrap .i64 (m2 + 946684800))) → ∀ m7 : Int, m7 = Tr.off (atE z (IntKind.wrap .i64 (m2 + 946684800))) → ∀ m8 : Bool, m8 = Tr.dst (atE z (IntKind.wrap .i64 (m2 + 946684800))) → ∀ m9 : Int, m9 = zErr z (IntKind.wrap .i64 (m2 + 946684800)) → K (AV.tup [.agg [.int .i64 m6, .int .i64 m7, .bool m8, .str (Tr.ab (atE z (IntKind.wrap .i64 (m2 + 946684800))))], .int .i64 m9])) False) False) False))) False)) False) := by kernel_rfl
theorem stoff_ok {z : Zt} {i u : Int} (hb : bdZ z.F = true) (hu : I64 u) : AFL (tab [(49, zyRight), (51, csRS), (74, csDiv), (75, csMod), (39, zyAt)]) noLoops 6 14 [.agg (avZ z), .agg [.int .i64 i, .int .i64 u]] (Res (.tup [.agg (avT (offT z i u)), .int .i64 (offE z i u)])) := by
 rw [stoff_vc]
 have no : ∀ e : Int, offE z i u = e → e ≠ 0 → Res (.tup [.agg (avT (offT z i u)), .int .i64 (offE z i u)]) (AV.tup [.agg [.int .i64 0, .int .i64 0, .bool false, .str (ByteArray.mk #[])], .int .i64 e]) := fun e he h => by
  have : offT z i u = ⟨0, 0, false, ⟨#[]⟩⟩ := by unfold offT; rw [if_neg (by rw [he]; exact h)]
  rw [this, he]; exact zN rfl
 refine brcT (tyZ z hb) ?_
 rintro _ rfl
 refine kB (fun a => ?_) fun a => ?_
 · exact no 1 (by unfold offE; rw [if_neg (fun q => by simp [q.1] at a)]) (by omega)
 have hz : ZtOk z := by simpa using a
 refine brcT (decide_eq_true hu) ?_
 rintro _ rfl
 refine kB (fun b => ?_) fun b => ?_
 · exact no 1 (by unfold offE; rw [if_neg (fun q => by simp [q.2] at b)]) (by omega)
 have hd : DRS i u := by simpa using b
 refine kB (fun c => ?_) fun c => ?_
 · exact no 10 (by unfold offE; rw [if_pos ⟨hz, hd⟩, if_neg (by simpa using c)]) (by omega)
 have hi : i = 0 := by simpa using c
 refine brcT (decide_eq_true hu) ?_
 rintro _ rfl _ rfl
 refine brcT (decide_eq_true hu) ?_
 rintro _ rfl _ rfl
 have hs := sec_bd hu
 rw [show IntKind.wrap .i64 (u / 1000000 + 946684800) = secOf u from jU hs]
 refine brcT (by rw [tyZ z hb, decide_eq_true (show -9223372036854775808 ≤ secOf u ∧ secOf u ≤ 9223372036854775807 from hs)]; rfl) ?_
 rintro _ rfl _ rfl _ rfl _ rfl
 have ee : offE z i u = zErr z (secOf u) := by unfold offE; rw [if_pos ⟨hz, hd⟩, if_pos hi]
 have et : offT z i u = atE z (secOf u) := by
  unfold offT
  rw [ee]
  by_cases h : zErr z (secOf u) = 0
  · rw [if_pos h]; unfold atE; simp only [h, if_true]
  · rw [if_neg h, atE_no h]
 rw [ee, et]
 exact zN rfl
theorem csOff_ok : COk Tryz.prog 14 csOff := afl_con (kD zyRight_ok (kD csRS_ok (kD csDiv_ok (kD csMod_ok (kD zyAt_ok bE))))) (by kernel_rfl) fun args p v hc hp => by
 unfold csOff at hc
 split at hc
 case h_2 => cases hc
 split at hc
 case h_2 => cases hc
 rename_i i u _ q z hl
 simp only [Option.some.injEq, Prod.mk.injEq] at hc
 obtain ⟨rfl, rfl⟩ := hc
 rw [Bool.and_eq_true] at hp
 obtain ⟨rfl, hq⟩ := hp
 obtain ⟨k1, k2⟩ := rdZ_move hl
 exact ⟨_, _, _, fun w A hA => rl_1 (fun V h => k2 h) hA, zI _ _, stoff_ok k1 (of_decide_eq_true hq)⟩
set_option maxRecDepth 100000 in
theorem stloc_vc (z : Zt) (i u : Int) (K : AV → Prop) : AFL (tab [(14, csOff), (29, csOn)]) (noLoops) 6 10 [.agg (avZ z), .agg [.int .i64 i, .int .i64 u]] K =
 (brc (tyR (Zt.n z) (znRow z) && bdZ (Zt.F z) && decide (I64 u)) (∀ m0 : Int, m0 = Tr.t (offT z i u) → ∀ m1 : Int, m1 = Tr.off (offT z i u) → ∀ m2 : Bool, m2 = Tr.dst (offT z i u) → ∀ m3 : Int, m3 = offE z i u → brc (m3 == 1) (K (AV.tup [.agg [.int .i64 0, .int .i64 0], .int .i64 m3])) (brc (i != 0) (K (AV.tup [.agg [.int .i64 i, .int .i64 u], .int .i64 0])) (brc (m3 != 0) (K (AV.tup [.agg [.int .i64 0, .int .i64 0], .int .i64 m3])) (brc (decide (I64 u ∧ I64 (IntKind.wrap .i64 (m1 * 1000000)))) (∀ m4 : Int, m4 = Prod.fst (onR u (IntKind.wrap .i64 (m1 * 1000000))) → ∀ m5 : Int, m5 = Prod.fst (Prod.snd (onR u (IntKind.wrap .i64 (m1 * 1000000)))) → ∀ m6 : Int, m6 = Prod.snd (Prod.snd (onR u (IntKind.wrap .i64 (m1 * 1000000)))) → K (AV.tup [.agg [.int .i64 m4, .int .i64 m5], .int .i64 m6])) False)))) False) := by kernel_rfl
theorem zErr_or {z : Zt} {u : Int} (h : ZtOk z) : zErr z u = 0 ∨ zErr z u = 10 := by unfold zErr; rw [if_pos h]; split <;> simp
theorem stloc_ok {z : Zt} {i u : Int} (hb : bdZ z.F = true) (hu : I64 u) : AFL (tab [(14, csOff), (29, csOn)]) noLoops 6 10 [.agg (avZ z), .agg [.int .i64 i, .int .i64 u]] (Res (avS (locR z i u))) := by
 rw [stloc_vc]
 refine brcT (by rw [tyZ z hb, decide_eq_true hu]; rfl) ?_
 rintro _ rfl _ rfl _ rfl _ rfl
 by_cases h : ZtOk z ∧ DRS i u
 · by_cases hi : i = 0
   · have ee : offE z i u = zErr z (secOf u) := by unfold offE; rw [if_pos h, if_pos hi]
     rw [ee]
     have el : locR z i u = if zErr z (secOf u) = 0 then onR u ((atZ z (secOf u)).off * 1000000) else (0, 0, zErr z (secOf u)) := by unfold locR; rw [if_pos h, if_pos hi]
     have ho := zErr_or (z := z) (u := secOf u) h.1
     refine brcF (by simp; omega) (brcF (by simpa using hi) ?_)
     refine kB (fun c => ?_) fun c => ?_
     · have c : ¬ zErr z (secOf u) = 0 := by simpa using c
       exact resS (by rw [el, if_neg c])
     · have c : zErr z (secOf u) = 0 := by simpa using c
       have et : offT z i u = atZ z (secOf u) := by unfold offT; rw [if_pos (by rw [ee]; exact c)]
       have hf := atZ_off h.1 (secOf u)
       rw [et, show IntKind.wrap .i64 ((atZ z (secOf u)).off * 1000000) = (atZ z (secOf u)).off * 1000000 from jU (by omega)]
       refine brcT (decide_eq_true ⟨hu, by unfold I64; omega⟩) ?_
       rintro _ rfl _ rfl _ rfl
       rw [el, if_pos c]
       exact res3 _
   · have ee : offE z i u = 10 := by unfold offE; rw [if_pos h, if_neg hi]
     rw [ee]
     refine brcF rfl (brcT (by simpa using hi) ?_)
     exact resS (by unfold locR; rw [if_pos h, if_neg hi])
 · have ee : offE z i u = 1 := by unfold offE; rw [if_neg h]
   rw [ee]
   exact brcT rfl (resS (by unfold locR; rw [if_neg h]))
theorem csLoc_ok : COk Tryz.prog 10 csLoc := afl_con (kD csOff_ok (kD csOn_ok bE)) (by kernel_rfl) fun args p v hc hp => by
 unfold csLoc at hc
 split at hc
 case h_2 => cases hc
 split at hc
 case h_2 => cases hc
 rename_i i u _ q z hl
 simp only [Option.some.injEq, Prod.mk.injEq] at hc
 obtain ⟨rfl, rfl⟩ := hc
 rw [Bool.and_eq_true] at hp
 obtain ⟨rfl, hq⟩ := hp
 obtain ⟨k1, k2⟩ := rdZ_move hl
 exact ⟨_, _, _, fun w A hA => rl_1 (fun V h => k2 h) hA, zI _ _, stloc_ok k1 (of_decide_eq_true hq)⟩
set_option maxRecDepth 100000 in
theorem stins_vc (z : Zt) (i u : Int) (K : AV → Prop) : AFL (tab [(49, zyRight), (51, csRS), (74, csDiv), (75, csMod), (36, zyInst), (37, csJoin)]) (noLoops) 6 12 [.agg (avZ z), .agg [.int .i64 i, .int .i64 u]] K =
 (brc (tyR (Zt.n z) (znRow z) && bdZ (Zt.F z)) (∀ m0 : Bool, m0 = decide (ZtOk z) → brc (!m0) (K (AV.tup [.agg [.int .i64 0, .int .i64 0], .int .i64 0, .int .i64 1])) (brc (decide (I64 u)) (∀ m1 : Bool, m1 = decide (DRS i u) → brc (!m1) (K (AV.tup [.agg [.int .i64 0, .int .i64 0], .int .i64 0, .int .i64 1])) (brc (i != 0) (K (AV.tup [.agg [.int .i64 i, .int .i64 u], .int .i64 0, .int .i64 0])) (brc (decide (I64 u)) (∀ m2 : Int, m2 = u / 1000000 → ∀ m3 : Int, m3 = 0 → brc (decide (I64 u)) (∀ m4 : Int, m4 = u % 1000000 → ∀ m5 : Int, m5 = 0 → brc (tyR (Zt.n z) (znRow z) && bdZ (Zt.F z) && decide (-9223372036854775808 ≤ IntKind.wrap .i64 (m2 + 946684800) ∧ IntKind.wrap .i64 (m2 + 946684800) ≤ 9223372036854775807)) (∀ m6 : Int, m6 = Prod.fst (instE z (IntKind.wrap .i64 (m2 + 946684800))) → ∀ m7 : Int, m7 = Prod.snd (instE z (IntKind.wrap .i64 (m2 + 946684800))) → ∀ m8 : Int, m8 = iErr z (IntKind.wrap .i64 (m2 + 946684800)) → brc (m8 == 0) (brc (decide (I64 (m6 - 946684800) ∧ I64 m4)) (∀ m9 : Int, m9 = Prod.fst (joinR m6 m4) → ∀ m10 : Int, m10 = Prod.fst (Prod.snd (joinR m6 m4)) → ∀ m11 : Int, m11 = Prod.snd (Prod.snd (joinR m6 m4)) → brc (m11 != 0) (K (AV.tup [.agg [.int .i64 0, .int .i64 0], .int .i64 0, .int .i64 m11])) (K (AV.tup [.agg [.int .i64 m9, .int .i64 m10], .int .i64 m7, .int .i64 0]))) False) (brc (m8 != 0) (K (AV.tup [.agg [.int .i64 0, .int .i64 0], .int .i64 0, .int .i64 m8])) (K (AV.tup [.agg [.int .i64 0, .int .i64 0], .int .i64 m7, .int .i64 0])))) False) False) False))) False)) False) := by kernel_rfl
theorem off_zero {z : Zt} {u : Int} (h : ZtOk z) : iErr z u = 0 ∨ iErr z u = 10 := by unfold iErr; rw [if_pos h]; split <;> simp
theorem resI4 {x : Int × Int × Int × Int} {a b c e : Int} (h : x = (a, b, c, e)) : Res (.tup [.agg [.int .i64 x.1, .int .i64 x.2.1], .int .i64 x.2.2.1, .int .i64 x.2.2.2]) (.tup [.agg [.int .i64 a, .int .i64 b], .int .i64 c, .int .i64 e]) := by rw [h]; exact zN rfl
theorem acS_bd {z : Zt} {u : Int} (hb : bdZ z.F = true) (h : iErr z u = 0) : u - 57600 ≤ (instE z u).1 ∧ (instE z u).1 ≤ u + 57600 := (inst_law ⟨hb, h⟩).1
theorem stins_ok {z : Zt} {i u : Int} (hb : bdZ z.F = true) (hu : I64 u) : AFL (tab [(49, zyRight), (51, csRS), (74, csDiv), (75, csMod), (36, zyInst), (37, csJoin)]) noLoops 6 12 [.agg (avZ z), .agg [.int .i64 i, .int .i64 u]] (Res (.tup [.agg [.int .i64 (insR z i u).1, .int .i64 (insR z i u).2.1], .int .i64 (insR z i u).2.2.1, .int .i64 (insR z i u).2.2.2])) := by
 rw [stins_vc]
 refine brcT (tyZ z hb) ?_
 rintro _ rfl
 refine kB (fun a => ?_) fun a => ?_
 · exact resI4 (by unfold insR; rw [if_neg (fun q => by simp [q.1] at a)])
 have hz : ZtOk z := by simpa using a
 refine brcT (decide_eq_true hu) ?_
 rintro _ rfl
 refine kB (fun b => ?_) fun b => ?_
 · exact resI4 (by unfold insR; rw [if_neg (fun q => by simp [q.2] at b)])
 have hd : DRS i u := by simpa using b
 refine kB (fun c => ?_) fun c => ?_
 · exact resI4 (by unfold insR; rw [if_pos ⟨hz, hd⟩, if_neg (by simpa using c)])
 have hi : i = 0 := by simpa using c
 refine brcT (decide_eq_true hu) ?_
 rintro _ rfl _ rfl
 refine brcT (decide_eq_true hu) ?_
 rintro _ rfl _ rfl
 have hs := sec_bd hu
 rw [show IntKind.wrap .i64 (u / 1000000 + 946684800) = secOf u from jU hs]
 refine brcT (by rw [tyZ z hb, decide_eq_true (show -9223372036854775808 ≤ secOf u ∧ secOf u ≤ 9223372036854775807 from hs)]; rfl) ?_
 rintro _ rfl _ rfl _ rfl
 have el : insR z i u = if iErr z (secOf u) = 0 then insF z (instE z (secOf u)) (u % 1000000) else (0, 0, 0, iErr z (secOf u)) := by unfold insR; rw [if_pos ⟨hz, hd⟩, if_pos hi]
 rw [el]
 refine kB (fun c => ?_) fun c => ?_
 · have c : iErr z (secOf u) = 0 := by simpa using c
   rw [if_pos c]
   have bd := acS_bd hb c
   have su : secOf u = u / 1000000 + 946684800 := rfl
   refine brcT (decide_eq_true ⟨by unfold I64 at *; omega, by unfold I64; omega⟩) ?_
   rintro _ rfl _ rfl _ rfl
   refine kB (fun d => ?_) fun d => ?_
   · have d : ¬ (joinR (instE z (secOf u)).1 (u % 1000000)).2.2 = 0 := by simpa using d
     exact resI4 (by unfold insF; rw [if_neg d])
   · have d : (joinR (instE z (secOf u)).1 (u % 1000000)).2.2 = 0 := by simpa using d
     exact resI4 (by unfold insF; rw [if_pos d])
 · have c : ¬ iErr z (secOf u) = 0 := by simpa using c
   rw [if_neg c]
   exact brcT (by simpa using c) (resI4 rfl)
theorem csIns_ok : COk Tryz.prog 12 csIns := afl_con (kD zyRight_ok (kD csRS_ok (kD csDiv_ok (kD csMod_ok (kD zyInst_ok (kD csJoin_ok bE)))))) (by kernel_rfl) fun args p v hc hp => by
 unfold csIns at hc
 split at hc
 case h_2 => cases hc
 split at hc
 case h_2 => cases hc
 rename_i i u _ q z hl
 simp only [Option.some.injEq, Prod.mk.injEq] at hc
 obtain ⟨rfl, rfl⟩ := hc
 rw [Bool.and_eq_true] at hp
 obtain ⟨rfl, hq⟩ := hp
 obtain ⟨k1, k2⟩ := rdZ_move hl
 exact ⟨_, _, _, fun w A hA => rl_1 (fun V h => k2 h) hA, zI _ _, stins_ok k1 (of_decide_eq_true hq)⟩
theorem i64_0 : I64 0 := by unfold I64; omega
def Made (x : Int × Int × Int) : Prop := x.1 = 0 ∧ I64 x.2.1 ∧ (x.2.2 = 0 → DRS 0 x.2.1) ∧ (x.2.2 = 0 ∨ x.2.2 = 10 ∨ x.2.2 = 1) ∧ (x.2.2 ≠ 0 → x.2.1 = 0)
theorem made_no {e : Int} (h : e = 10 ∨ e = 1) : Made (0, 0, e) := ⟨rfl, i64_0, fun q => by simp only at q; omega, .inr h, fun _ => rfl⟩
theorem made_is (x : Int) (h : I64 x) (g : DRS 0 x) : Made (0, x, 0) := ⟨rfl, h, fun _ => g, .inl rfl, fun q => (q rfl).elim⟩
theorem onR_made (w s : Int) : Made (onR w s) := by
 unfold onR
 split
 · rename_i h; exact made_is _ h.1 h.2
 · exact made_no (.inl rfl)
theorem joinR_made (w s : Int) : Made (joinR w s) := by
 unfold joinR
 split
 · exact onR_made _ _
 · exact made_no (.inl rfl)
theorem daysR_made (v q d : Int) : Made (daysR v q d) := by
 unfold daysR
 split
 · exact made_no (.inl rfl)
 · split
   · rename_i x _ h
     refine made_is _ (stamp_i64 h) ?_
     rw [drs_fin]
     have : ((x + d) * 86400000000 + v % 86400000000) / 86400000000 = x + d := by omega
     rw [this]; exact h
   · exact made_no (.inl rfl)
theorem zErr_e {z : Zt} {u : Int} (h : ZtOk z) (q : ¬ zErr z u = 0) : zErr z u = 10 := by rcases zErr_or (u := u) h with e | e; exact (q e).elim; exact e
theorem iErr_e {z : Zt} {u : Int} (h : ZtOk z) (q : ¬ iErr z u = 0) : iErr z u = 10 := by rcases off_zero (u := u) h with e | e; exact (q e).elim; exact e
theorem locR_made (z : Zt) (u : Int) : Made (locR z 0 u) := by
 unfold locR
 split
 · rename_i h
   rw [if_pos rfl]
   split
   · exact onR_made _ _
   · rename_i g; rw [zErr_e h.1 g]; exact made_no (.inl rfl)
 · exact made_no (.inr rfl)
theorem insR_made (z : Zt) (u : Int) : Made ((insR z 0 u).1, (insR z 0 u).2.1, (insR z 0 u).2.2.2) := by
 unfold insR
 split
 · rename_i h
   rw [if_pos rfl]
   split
   · unfold insF
     have hj := joinR_made (instE z (secOf u)).1 (u % 1000000)
     split
     · rename_i g
       refine ⟨hj.1, hj.2.1, fun _ => hj.2.2.1 g, .inl rfl, fun q => (q rfl).elim⟩
     · rename_i g
       have k : (joinR (instE z (secOf u)).1 (u % 1000000)).2.2 = 10 ∨ (joinR (instE z (secOf u)).1 (u % 1000000)).2.2 = 1 := by have := hj.2.2.2.1; omega
       exact made_no k
   · rename_i g; rw [iErr_e h.1 g]; exact made_no (.inl rfl)
 · exact made_no (.inr rfl)
theorem drs_bd {i u : Int} (h : DRS i u) : -1 ≤ i ∧ i ≤ 1 := by unfold DRS at h; omega
theorem sok_bd {i m d u : Int} (h : SOk i m d u) : -1 ≤ i ∧ i ≤ 1 := by unfold SOk at h; omega
theorem ij_wrap {i j : Int} (hi : -1 ≤ i ∧ i ≤ 1) (hj : -1 ≤ j ∧ j ≤ 1) : IntKind.wrap .i64 (i * j) = i * j := by
 have : i = -1 ∨ i = 0 ∨ i = 1 := by omega
 rcases this with rfl | rfl | rfl <;> exact jU (by omega)
set_option maxRecDepth 100000 in
theorem stplus_vc (i u j q d s : Int) (K : AV → Prop) : AFL (tab [(51, csRS), (27, csSp), (44, csDays), (29, csOn)]) (noLoops) 8 17 [.agg [.int .i64 i, .int .i64 u], .agg [.int .i64 j, .int .i64 q, .int .i64 d, .int .i64 s]] K =
 (brc (decide (I64 u)) (∀ m0 : Bool, m0 = decide (DRS i u) → brc (!m0) (K (AV.tup [.agg [.int .i64 0, .int .i64 0], .int .i64 1])) (brc (decide (I64 s)) (∀ m1 : Bool, m1 = decide (SOk j q d s) → brc (!m1) (K (AV.tup [.agg [.int .i64 0, .int .i64 0], .int .i64 1])) (brc (decide (IntKind.wrap .i64 (i * j) < 0)) (K (AV.tup [.agg [.int .i64 0, .int .i64 0], .int .i64 10])) (brc (i != 0) (K (AV.tup [.agg [.int .i64 i, .int .i64 0], .int .i64 0])) (brc (j != 0) (K (AV.tup [.agg [.int .i64 j, .int .i64 0], .int .i64 0])) (brc (decide (I64 u ∧ I64 d ∧ DRS i u ∧ i = 0 ∧ j = 0)) (∀ m2 : Int, m2 = Prod.fst (daysR u q d) → ∀ m3 : Int, m3 = Prod.fst (Prod.snd (daysR u q d)) → ∀ m4 : Int, m4 = Prod.snd (Prod.snd (daysR u q d)) → brc (m4 != 0) (K (AV.tup [.agg [.int .i64 0, .int .i64 0], .int .i64 m4])) (brc (decide (I64 m3 ∧ I64 s)) (∀ m5 : Int, m5 = Prod.fst (onR m3 s) → ∀ m6 : Int, m6 = Prod.fst (Prod.snd (onR m3 s)) → ∀ m7 : Int, m7 = Prod.snd (Prod.snd (onR m3 s)) → K (AV.tup [.agg [.int .i64 m5, .int .i64 m6], .int .i64 m7])) False)) False))))) False)) False) := by kernel_rfl
theorem stplus_ok {i u j q d s : Int} (hu : I64 u) (hd : I64 d) (hs : I64 s) : AFL (tab [(51, csRS), (27, csSp), (44, csDays), (29, csOn)]) noLoops 8 17 [.agg [.int .i64 i, .int .i64 u], .agg [.int .i64 j, .int .i64 q, .int .i64 d, .int .i64 s]] (Res (avS (plusR i u j q d s))) := by
 rw [stplus_vc]
 refine brcT (decide_eq_true hu) ?_
 rintro _ rfl
 refine kB (fun a => ?_) fun a => ?_
 · exact resS (by unfold plusR; rw [if_neg (fun q => by simp [q.1] at a)])
 have ha : DRS i u := by simpa using a
 refine brcT (decide_eq_true hs) ?_
 rintro _ rfl
 refine kB (fun b => ?_) fun b => ?_
 · exact resS (by unfold plusR; rw [if_neg (fun q => by simp [q.2] at b)])
 have hb : SOk j q d s := by simpa using b
 have e : plusR i u j q d s = infR i j (thenOn (daysR u q d) s) := by unfold plusR; rw [if_pos ⟨ha, hb⟩]
 rw [e, ij_wrap (drs_bd ha) (sok_bd hb)]
 unfold infR
 refine kB (fun c => ?_) fun c => ?_
 · rw [if_pos (of_decide_eq_true c)]; exact resS rfl
 rw [if_neg (of_decide_eq_false c)]
 refine kB (fun c => ?_) fun c => ?_
 · rw [if_pos (by simpa using c)]; exact resS rfl
 have hi : i = 0 := by simpa using c
 rw [if_neg (by omega)]
 refine kB (fun c => ?_) fun c => ?_
 · rw [if_pos (by simpa using c)]; exact resS rfl
 have hj : j = 0 := by simpa using c
 rw [if_neg (by omega)]
 refine brcT (decide_eq_true ⟨hu, hd, ha, hi, hj⟩) ?_
 rintro _ rfl _ rfl _ rfl
 have hm := daysR_made u q d
 unfold thenOn
 refine kB (fun c => ?_) fun c => ?_
 · rw [if_neg (by simpa using c)]; exact resS rfl
 rw [if_pos (by simpa using c)]
 refine brcT (decide_eq_true ⟨hm.2.1, hs⟩) ?_
 rintro _ rfl _ rfl _ rfl
 exact res3 _
theorem csPlus_ok : COk Tryz.prog 17 csPlus := afl_con (kD csRS_ok (kD csSp_ok (kD csDays_ok (kD csOn_ok bE)))) (by kernel_rfl) fun args p v hc hp => by
 unfold csPlus at hc
 split at hc
 case h_2 => cases hc
 simp only [Option.some.injEq, Prod.mk.injEq] at hc
 obtain ⟨rfl, rfl⟩ := hc
 obtain ⟨h1, h2, h3⟩ := of_decide_eq_true hp
 exact ⟨_, _, _, fun w A hA => hA, zI _ _, stplus_ok h1 h2 h3⟩
set_option maxRecDepth 100000 in
theorem sttz_vc (z : Zt) (i u j q d s : Int) (K : AV → Prop) : AFL (tab [(49, zyRight), (51, csRS), (27, csSp), (10, csLoc), (44, csDays), (12, csIns), (29, csOn)]) (noLoops) 8 19 [.agg (avZ z), .agg [.int .i64 i, .int .i64 u], .agg [.int .i64 j, .int .i64 q, .int .i64 d, .int .i64 s]] K =
 (brc (tyR (Zt.n z) (znRow z) && bdZ (Zt.F z)) (∀ m0 : Bool, m0 = decide (ZtOk z) → brc (!m0) (K (AV.tup [.agg [.int .i64 0, .int .i64 0], .int .i64 1])) (brc (decide (I64 u)) (∀ m1 : Bool, m1 = decide (DRS i u) → brc (!m1) (K (AV.tup [.agg [.int .i64 0, .int .i64 0], .int .i64 1])) (brc (decide (I64 s)) (∀ m2 : Bool, m2 = decide (SOk j q d s) → brc (!m2) (K (AV.tup [.agg [.int .i64 0, .int .i64 0], .int .i64 1])) (brc (decide (IntKind.wrap .i64 (i * j) < 0)) (K (AV.tup [.agg [.int .i64 0, .int .i64 0], .int .i64 10])) (brc (i != 0) (K (AV.tup [.agg [.int .i64 i, .int .i64 0], .int .i64 0])) (brc (j != 0) (K (AV.tup [.agg [.int .i64 j, .int .i64 0], .int .i64 0])) (brc (q == 0) (brc (d == 0) (brc (decide (I64 u ∧ I64 s)) (∀ m3 : Int, m3 = Prod.fst (onR u s) → ∀ m4 : Int, m4 = Prod.fst (Prod.snd (onR u s)) → ∀ m5 : Int, m5 = Prod.snd (Prod.snd (onR u s)) → K (AV.tup [.agg [.int .i64 m3, .int .i64 m4], .int .i64 m5])) False) (brc (tyR (Zt.n z) (znRow z) && bdZ (Zt.F z) && decide (I64 u)) (∀ m3 : Int, m3 = Prod.fst (locR z i u) → ∀ m4 : Int, m4 = Prod.fst (Prod.snd (locR z i u)) → ∀ m5 : Int, m5 = Prod.snd (Prod.snd (locR z i u)) → brc (m5 == 0) (brc (decide (I64 m4 ∧ I64 d ∧ DRS m3 m4 ∧ m3 = 0 ∧ j = 0)) (∀ m6 : Int, m6 = Prod.fst (daysR m4 q d) → ∀ m7 : Int, m7 = Prod.fst (Prod.snd (daysR m4 q d)) → ∀ m8 : Int, m8 = Prod.snd (Prod.snd (daysR m4 q d)) → brc (m8 != 0) (brc (m8 != 0) (K (AV.tup [.agg [.int .i64 0, .int .i64 0], .int .i64 m8])) (brc (decide (I64 0 ∧ I64 s)) (∀ m9 : Int, m9 = Prod.fst (onR 0 s) → ∀ m10 : Int, m10 = Prod.fst (Prod.snd (onR 0 s)) → ∀ m11 : Int, m11 = Prod.snd (Prod.snd (onR 0 s)) → K (AV.tup [.agg [.int .i64 m9, .int .i64 m10], .int .i64 m11])) False)) (brc (tyR (Zt.n z) (znRow z) && bdZ (Zt.F z) && decide (I64 m7)) (∀ m9 : Int, m9 = Prod.fst (insR z m6 m7) → ∀ m10 : Int, m10 = Prod.fst (Prod.snd (insR z m6 m7)) → ∀ m11 : Int, m11 = Prod.fst (Prod.snd (Prod.snd (insR z m6 m7))) → ∀ m12 : Int, m12 = Prod.snd (Prod.snd (Prod.snd (insR z m6 m7))) → brc (m12 != 0) (K (AV.tup [.agg [.int .i64 0, .int .i64 0], .int .i64 m12])) (brc (decide (I64 m10 ∧ I64 s)) (∀ m13 : Int, m13 = Prod.fst (onR m10 s) → ∀ m14 : Int, m14 = Prod.fst (Prod.snd (onR m10 s)) → ∀ m15 : Int, m15 = Prod.snd (Prod.snd (onR m10 s)) → K (AV.tup [.agg [.int .i64 m13, .int .i64 m14], .int .i64 m15])) False)) False)) False) (brc (m5 != 0) (brc (m5 != 0) (K (AV.tup [.agg [.int .i64 0, .int .i64 0], .int .i64 m5])) (brc (decide (I64 0 ∧ I64 s)) (∀ m6 : Int, m6 = Prod.fst (onR 0 s) → ∀ m7 : Int, m7 = Prod.fst (Prod.snd (onR 0 s)) → ∀ m8 : Int, m8 = Prod.snd (Prod.snd (onR 0 s)) → K (AV.tup [.agg [.int .i64 m6, .int .i64 m7], .int .i64 m8])) False)) (brc (tyR (Zt.n z) (znRow z) && bdZ (Zt.F z) && decide (I64 m4)) (∀ m6 : Int, m6 = Prod.fst (insR z m3 m4) → ∀ m7 : Int, m7 = Prod.fst (Prod.snd (insR z m3 m4)) → ∀ m8 : Int, m8 = Prod.fst (Prod.snd (Prod.snd (insR z m3 m4))) → ∀ m9 : Int, m9 = Prod.snd (Prod.snd (Prod.snd (insR z m3 m4))) → brc (m9 != 0) (K (AV.tup [.agg [.int .i64 0, .int .i64 0], .int .i64 m9])) (brc (decide (I64 m7 ∧ I64 s)) (∀ m10 : Int, m10 = Prod.fst (onR m7 s) → ∀ m11 : Int, m11 = Prod.fst (Prod.snd (onR m7 s)) → ∀ m12 : Int, m12 = Prod.snd (Prod.snd (onR m7 s)) → K (AV.tup [.agg [.int .i64 m10, .int .i64 m11], .int .i64 m12])) False)) False))) False)) (brc (tyR (Zt.n z) (znRow z) && bdZ (Zt.F z) && decide (I64 u)) (∀ m3 : Int, m3 = Prod.fst (locR z i u) → ∀ m4 : Int, m4 = Prod.fst (Prod.snd (locR z i u)) → ∀ m5 : Int, m5 = Prod.snd (Prod.snd (locR z i u)) → brc (m5 == 0) (brc (decide (I64 m4 ∧ I64 d ∧ DRS m3 m4 ∧ m3 = 0 ∧ j = 0)) (∀ m6 : Int, m6 = Prod.fst (daysR m4 q d) → ∀ m7 : Int, m7 = Prod.fst (Prod.snd (daysR m4 q d)) → ∀ m8 : Int, m8 = Prod.snd (Prod.snd (daysR m4 q d)) → brc (m8 != 0) (brc (m8 != 0) (K (AV.tup [.agg [.int .i64 0, .int .i64 0], .int .i64 m8])) (brc (decide (I64 0 ∧ I64 s)) (∀ m9 : Int, m9 = Prod.fst (onR 0 s) → ∀ m10 : Int, m10 = Prod.fst (Prod.snd (onR 0 s)) → ∀ m11 : Int, m11 = Prod.snd (Prod.snd (onR 0 s)) → K (AV.tup [.agg [.int .i64 m9, .int .i64 m10], .int .i64 m11])) False)) (brc (tyR (Zt.n z) (znRow z) && bdZ (Zt.F z) && decide (I64 m7)) (∀ m9 : Int, m9 = Prod.fst (insR z m6 m7) → ∀ m10 : Int, m10 = Prod.fst (Prod.snd (insR z m6 m7)) → ∀ m11 : Int, m11 = Prod.fst (Prod.snd (Prod.snd (insR z m6 m7))) → ∀ m12 : Int, m12 = Prod.snd (Prod.snd (Prod.snd (insR z m6 m7))) → brc (m12 != 0) (K (AV.tup [.agg [.int .i64 0, .int .i64 0], .int .i64 m12])) (brc (decide (I64 m10 ∧ I64 s)) (∀ m13 : Int, m13 = Prod.fst (onR m10 s) → ∀ m14 : Int, m14 = Prod.fst (Prod.snd (onR m10 s)) → ∀ m15 : Int, m15 = Prod.snd (Prod.snd (onR m10 s)) → K (AV.tup [.agg [.int .i64 m13, .int .i64 m14], .int .i64 m15])) False)) False)) False) (brc (m5 != 0) (brc (m5 != 0) (K (AV.tup [.agg [.int .i64 0, .int .i64 0], .int .i64 m5])) (brc (decide (I64 0 ∧ I64 s)) (∀ m6 : Int, m6 = Prod.fst (onR 0 s) → ∀ m7 : Int, m7 = Prod.fst (Prod.snd (onR 0 s)) → ∀ m8 : Int, m8 = Prod.snd (Prod.snd (onR 0 s)) → K (AV.tup [.agg [.int .i64 m6, .int .i64 m7], .int .i64 m8])) False)) (brc (tyR (Zt.n z) (znRow z) && bdZ (Zt.F z) && decide (I64 m4)) (∀ m6 : Int, m6 = Prod.fst (insR z m3 m4) → ∀ m7 : Int, m7 = Prod.fst (Prod.snd (insR z m3 m4)) → ∀ m8 : Int, m8 = Prod.fst (Prod.snd (Prod.snd (insR z m3 m4))) → ∀ m9 : Int, m9 = Prod.snd (Prod.snd (Prod.snd (insR z m3 m4))) → brc (m9 != 0) (K (AV.tup [.agg [.int .i64 0, .int .i64 0], .int .i64 m9])) (brc (decide (I64 m7 ∧ I64 s)) (∀ m10 : Int, m10 = Prod.fst (onR m7 s) → ∀ m11 : Int, m11 = Prod.fst (Prod.snd (onR m7 s)) → ∀ m12 : Int, m12 = Prod.snd (Prod.snd (onR m7 s)) → K (AV.tup [.agg [.int .i64 m10, .int .i64 m11], .int .i64 m12])) False)) False))) False)))))) False)) False)) False) := by kernel_rfl
theorem sttz_ok {z : Zt} {i u j q d s : Int} (hbd : bdZ z.F = true) (hu : I64 u) (hd : I64 d) (hs : I64 s) : AFL (tab [(49, zyRight), (51, csRS), (27, csSp), (10, csLoc), (44, csDays), (12, csIns), (29, csOn)]) noLoops 8 19 [.agg (avZ z), .agg [.int .i64 i, .int .i64 u], .agg [.int .i64 j, .int .i64 q, .int .i64 d, .int .i64 s]] (Res (avS (tzR z i u j q d s))) := by
 rw [sttz_vc]
 refine brcT (tyZ z hbd) ?_
 rintro _ rfl
 refine kB (fun a => ?_) fun a => ?_
 · exact resS (by unfold tzR; rw [if_neg (fun q => by simp [q.1] at a)])
 have hz : ZtOk z := by simpa using a
 refine brcT (decide_eq_true hu) ?_
 rintro _ rfl
 refine kB (fun a => ?_) fun a => ?_
 · exact resS (by unfold tzR; rw [if_neg (fun q => by simp [q.2.1] at a)])
 have ha : DRS i u := by simpa using a
 refine brcT (decide_eq_true hs) ?_
 rintro _ rfl
 refine kB (fun b => ?_) fun b => ?_
 · exact resS (by unfold tzR; rw [if_neg (fun q => by simp [q.2.2] at b)])
 have hb : SOk j q d s := by simpa using b
 have e : tzR z i u j q d s = infR i j (thenOn (movR z u q d) s) := by unfold tzR; rw [if_pos ⟨hz, ha, hb⟩]
 rw [e, ij_wrap (drs_bd ha) (sok_bd hb)]
 unfold infR
 refine kB (fun c => ?_) fun c => ?_
 · rw [if_pos (of_decide_eq_true c)]; exact resS rfl
 rw [if_neg (of_decide_eq_false c)]
 refine kB (fun c => ?_) fun c => ?_
 · rw [if_pos (by simpa using c)]; exact resS rfl
 have hi : i = 0 := by simpa using c
 rw [if_neg (by omega)]
 refine kB (fun c => ?_) fun c => ?_
 · rw [if_pos (by simpa using c)]; exact resS rfl
 have hj : j = 0 := by simpa using c
 rw [if_neg (by omega)]
 subst hi
 have hl := locR_made z u
 refine kB (fun a => kB (fun b => ?_) fun b => ?_) fun a => ?_
 · have em : movR z u q d = (0, u, 0) := by unfold movR; rw [if_pos ⟨by simpa using a, by simpa using b⟩]
   rw [em]
   refine brcT (decide_eq_true ⟨hu, hs⟩) ?_
   rintro _ rfl _ rfl _ rfl
   exact res3 _
 all_goals
  have em : movR z u q d = if (locR z 0 u).2.2 = 0 then movD z (daysR (locR z 0 u).2.1 q d) else (0, 0, (locR z 0 u).2.2) := by
   unfold movR; rw [if_neg (by rintro ⟨x, y⟩; simp_all)]
  rw [em]
  refine brcT (by rw [tyZ z hbd, decide_eq_true hu]; rfl) ?_
  rintro _ rfl _ rfl _ rfl
  refine kB (fun c => ?_) fun c => ?_
  · have c : (locR z 0 u).2.2 = 0 := by simpa using c
    rw [if_pos c]
    have hr := hl.2.2.1 c
    have hm := daysR_made (locR z 0 u).2.1 q d
    refine brcT (decide_eq_true ⟨hl.2.1, hd, by rw [hl.1]; exact hr, hl.1, hj⟩) ?_
    rintro _ rfl _ rfl _ rfl
    unfold movD
    refine kB (fun g => ?_) fun g => ?_
    · refine brcT g ?_
      have g : ¬ (daysR (locR z 0 u).2.1 q d).2.2 = 0 := by simpa using g
      rw [if_neg g]
      exact resS (by unfold thenOn; rw [if_neg g])
    · have g : (daysR (locR z 0 u).2.1 q d).2.2 = 0 := by simpa using g
      rw [if_pos g]
      refine brcT (by rw [tyZ z hbd, decide_eq_true hm.2.1]; rfl) ?_
      rintro _ rfl _ rfl _ rfl _ rfl
      rw [hm.1]
      have hn := insR_made z (daysR (locR z 0 u).2.1 q d).2.1
      refine kB (fun k => ?_) fun k => ?_
      · have k : ¬ (insR z 0 (daysR (locR z 0 u).2.1 q d).2.1).2.2.2 = 0 := by simpa using k
        exact resS (by unfold thenOn; rw [if_neg k])
      · have k : (insR z 0 (daysR (locR z 0 u).2.1 q d).2.1).2.2.2 = 0 := by simpa using k
        refine brcT (decide_eq_true ⟨hn.2.1, hs⟩) ?_
        rintro _ rfl _ rfl _ rfl
        have et : thenOn ((insR z 0 (daysR (locR z 0 u).2.1 q d).2.1).1, (insR z 0 (daysR (locR z 0 u).2.1 q d).2.1).2.1, (insR z 0 (daysR (locR z 0 u).2.1 q d).2.1).2.2.2) s = onR (insR z 0 (daysR (locR z 0 u).2.1 q d).2.1).2.1 s := by unfold thenOn; rw [if_pos k]
        rw [et]
        exact res3 _
  · have c : ¬ (locR z 0 u).2.2 = 0 := by simpa using c
    rw [if_neg c]
    refine brcT (by simpa using c) (brcT (by simpa using c) ?_)
    exact resS (by unfold thenOn; rw [if_neg c])
theorem csTz_ok : COk Tryz.prog 19 csTz := afl_con (kD zyRight_ok (kD csRS_ok (kD csSp_ok (kD csLoc_ok (kD csDays_ok (kD csIns_ok (kD csOn_ok bE))))))) (by kernel_rfl) fun args p v hc hp => by
 unfold csTz at hc
 split at hc
 case h_2 => cases hc
 split at hc
 case h_2 => cases hc
 rename_i i u j q d s _ r z hl
 simp only [Option.some.injEq, Prod.mk.injEq] at hc
 obtain ⟨rfl, rfl⟩ := hc
 rw [Bool.and_eq_true] at hp
 obtain ⟨rfl, hq⟩ := hp
 obtain ⟨h1, h2, h3⟩ := of_decide_eq_true hq
 obtain ⟨k1, k2⟩ := rdZ_move hl
 exact ⟨_, _, _, fun w A hA => rl_1 (fun V h => k2 h) hA, zI _ _, sttz_ok k1 h1 h2 h3⟩
set_option maxRecDepth 100000 in
theorem half17_vc (h : Hf) (K : AV → Prop) : AF (tab []) 6 28 [.agg (avH h)] K =
 (K (AV.agg [.int .i64 (Hf.m h), .int .i64 (Hf.k h), .int .i64 (Hf.w h), .int .i64 (Hf.n h), .int .i64 (Hf.s h), .int .u8 (Hf.c h), .int .i64 (Hf.v h), .str (Hf.ab h)])) := by kernel_rfl
theorem cyHalf17_ok : COk Tryz.prog 28 cyHalf := af_con bE (by kernel_rfl) fun args p v hc hp => by
 unfold cyHalf at hc
 split at hc
 case h_2 => cases hc
 split at hc
 case h_2 => cases hc
 rename_i h hl
 simp only [Option.some.injEq, Prod.mk.injEq] at hc
 obtain ⟨_, rfl⟩ := hc
 rw [rdH_ok hl]
 refine ⟨rfl, 6, ?_⟩
 rw [half17_vc]
 rfl
theorem cyKnown17_ok : COk Tryz.prog 16 cyKnown := by
 intro args p v hc hp w A hA
 unfold cyKnown at hc
 split at hc
 case h_2 => cases hc
 simp only [Option.some.injEq, Prod.mk.injEq] at hc
 obtain ⟨rfl, rfl⟩ := hc
 exact runC_ok mixed 450 (runT_ok mixed 450 TK5_ok 8) _ _ true _ known_run rfl w A hA
theorem oneC_row (z : Zt) : oneC 4 z.n (znRow z) = true := @decide_eq_true _ (Classical.propDecidable _) fun i j _ hj => by
 match j, hj with
 | 0, _ => rfl
 | 1, _ => rfl
 | 2, _ => rfl
 | 3, _ => rfl
theorem room_z (z : Zt) : (Nat.ble (0 + z.n) z.n && true && true) = true := by simp
end Go.Proofs.YtimgphlfaninnaaGreat.P
namespace Go.Proofs.YtimgphlfaninnaaGreat.P
open Go Go.RowKit Go.ChangeShapes Go.WideShapes Go.Proofs.YtimgphlfaninnaaGreat.Civ Go.Proofs.YtimgphlfaninnaaGreat.Ft
set_option linter.unusedVariables false
set_option linter.unusedSimpArgs false
set_option maxHeartbeats 2000000
def vH (h : Hf) : List Value := [.int .i64 h.m, .int .i64 h.k, .int .i64 h.w, .int .i64 h.n, .int .i64 h.s, .int .u8 h.c, .int .i64 h.v, .string h.ab]
def vF (F : Ft) : List Value := [.bool F.z, .int .i64 F.fr, .int .i64 F.off, .int .i64 F.a.m, .int .i64 F.a.k, .int .i64 F.a.w, .int .i64 F.a.n, .int .i64 F.a.s, .int .u8 F.a.c, .int .i64 F.a.v, .string F.a.ab, .int .i64 F.b.m, .int .i64 F.b.k, .int .i64 F.b.w, .int .i64 F.b.n, .int .i64 F.b.s, .int .u8 F.b.c, .int .i64 F.b.v, .string F.b.ab]
theorem cz_k : Tryz.prog.cellsOf 3 = 1 := by kernel_rfl
theorem cz_i : Tryz.prog.cellsOf 2 = 1 := by kernel_rfl
theorem cz_u : Tryz.prog.cellsOf 5 = 1 := by kernel_rfl
theorem cz_b : Tryz.prog.cellsOf 4 = 1 := by kernel_rfl
theorem cz_s : Tryz.prog.cellsOf 9 = 1 := by kernel_rfl
theorem cz_o : Tryz.prog.cellsOf 26 = 3 := by kernel_rfl
theorem cz_a : Tryz.prog.cellsOf 28 = 2 := by kernel_rfl
theorem cz_h : Tryz.prog.cellsOf 30 = 8 := by kernel_rfl
section
variable {H : Type} {enc : TypeId × Value → H} {w : World} {base : Nat} {spare : Nat → Bool} {held : Bool}
theorem list3 {α : Type} {l : List α} (h : l.length = 3) : ∃ a b c, l = [a, b, c] := by
 match l, h with
 | [a, b, c], _ => exact ⟨a, b, c, rfl⟩
theorem list2 {α : Type} {l : List α} (h : l.length = 2) : ∃ a b, l = [a, b] := by
 match l, h with
 | [a, b], _ => exact ⟨a, b, rfl⟩
theorem list5 {α : Type} {l : List α} (h : l.length = 5) : ∃ a b c d e, l = [a, b, c, d, e] := by
 match l, h with
 | [a, b, c, d, e], _ => exact ⟨a, b, c, d, e, rfl⟩
theorem list8 {α : Type} {l : List α} (h : l.length = 8) : ∃ a b c d e f g i, l = [a, b, c, d, e, f, g, i] := by
 match l, h with
 | [a, b, c, d, e, f, g, i], _ => exact ⟨a, b, c, d, e, f, g, i, rfl⟩
theorem list19 {α : Type} {l : List α} (h : l.length = 19) : ∃ a b c d e f g i j k m n o p q r s t u, l = [a, b, c, d, e, f, g, i, j, k, m, n, o, p, q, r, s, t, u] := by
 match l, h with
 | [a, b, c, d, e, f, g, i, j, k, m, n, o, p, q, r, s, t, u], _ => exact ⟨a, b, c, d, e, f, g, i, j, k, m, n, o, p, q, r, s, t, u, rfl⟩
theorem int_of {fuel : Nat} {t : TypeId} {c : Value} {k : IntKind} {x : Option (DataW H × List MemPlace)} {y : DataW H × List MemPlace} (ht : Tryz.prog.underlying t = some (.int k)) (h : DataW.trod enc Tryz.prog w base spare held fuel t [c] = x) (hx : x = some y) : ∃ n, c = .int k n ∧ (Lit.int k n).wf = true := by
 subst hx
 obtain ⟨n, e, _, h3⟩ := DataW.trod_int ht h
 exact ⟨n, (List.cons.inj e).1, h3⟩
theorem on_of {fuel : Nat} {cs : List Value} {y : DataW H × List MemPlace} (h : DataW.trod enc Tryz.prog w base spare held fuel 26 cs = some y) : ∃ k n m, cs = [.int .i64 k, .int .i64 n, .int .i64 m] := by
 obtain ⟨xs, n, _, _, hl, hlen, hf⟩ := DataW.trod_struct Tryz.underlying26 h
 obtain ⟨a, b, c, rfl⟩ := list3 (hl.trans (by kernel_rfl))
 obtain ⟨x, y, z, rfl⟩ := list3 hlen
 obtain ⟨k0, rfl, _⟩ := int_of (c := a) Tryz.underlying3 (by simpa [cz_k, cz_i, cz_u, cz_b, cz_s, cz_o, cz_a, cz_h] using hf 0 _ rfl) rfl
 obtain ⟨k1, rfl, _⟩ := int_of (c := b) Tryz.underlying2 (by simpa [cz_k, cz_i, cz_u, cz_b, cz_s, cz_o, cz_a, cz_h] using hf 1 _ rfl) rfl
 obtain ⟨k2, rfl, _⟩ := int_of (c := c) Tryz.underlying2 (by simpa [cz_k, cz_i, cz_u, cz_b, cz_s, cz_o, cz_a, cz_h] using hf 2 _ rfl) rfl
 exact ⟨_, _, _, rfl⟩
theorem at_of {fuel : Nat} {cs : List Value} {y : DataW H × List MemPlace} (h : DataW.trod enc Tryz.prog w base spare held fuel 28 cs = some y) : ∃ k n, cs = [.int .i64 k, .int .u8 n] := by
 obtain ⟨xs, n, _, _, hl, hlen, hf⟩ := DataW.trod_struct Tryz.underlying28 h
 obtain ⟨a, b, rfl⟩ := list2 (hl.trans (by kernel_rfl))
 obtain ⟨x, y, rfl⟩ := list2 hlen
 obtain ⟨k0, rfl, _⟩ := int_of (c := a) Tryz.underlying2 (by simpa [cz_k, cz_i, cz_u, cz_b, cz_s, cz_o, cz_a, cz_h] using hf 0 _ rfl) rfl
 obtain ⟨k1, rfl, _⟩ := int_of (c := b) Tryz.underlying5 (by simpa [cz_k, cz_i, cz_u, cz_b, cz_s, cz_o, cz_a, cz_h] using hf 1 _ rfl) rfl
 exact ⟨_, _, rfl⟩
theorem half_of {fuel : Nat} {cs : List Value} {y : DataW H × List MemPlace} (h : DataW.trod enc Tryz.prog w base spare held fuel 30 cs = some y) : ∃ h : Hf, cs = vH h ∧ (Lit.int .i64 h.m).wf = true := by
 obtain ⟨xs, n, _, _, hl, hlen, hf⟩ := DataW.trod_struct Tryz.underlying30 h
 obtain ⟨a, b, c, d, e, f, g, i, rfl⟩ := list8 (hl.trans (by kernel_rfl))
 obtain ⟨x0, x1, x2, x3, x4, rfl⟩ := list5 hlen
 obtain ⟨m, rfl, hm⟩ := int_of (c := a) Tryz.underlying2 (by simpa [cz_k, cz_i, cz_u, cz_b, cz_s, cz_o, cz_a, cz_h] using hf 0 _ rfl) rfl
 obtain ⟨k, wd, nn, e1⟩ := on_of (cs := [b, c, d]) (by simpa [cz_k, cz_i, cz_u, cz_b, cz_s, cz_o, cz_a, cz_h] using hf 1 _ rfl)
 obtain ⟨s, c0, e2⟩ := at_of (cs := [e, f]) (by simpa [cz_k, cz_i, cz_u, cz_b, cz_s, cz_o, cz_a, cz_h] using hf 2 _ rfl)
 obtain ⟨v, rfl, _⟩ := int_of (c := g) Tryz.underlying2 (by simpa [cz_k, cz_i, cz_u, cz_b, cz_s, cz_o, cz_a, cz_h] using hf 3 _ rfl) rfl
 obtain ⟨ab, e3, _⟩ := DataW.trod_string (cs := [i]) Tryz.underlying9 (by simpa [cz_k, cz_i, cz_u, cz_b, cz_s, cz_o, cz_a, cz_h] using hf 4 _ rfl)
 have e1 : [b, c, d] = [Value.int .i64 k, .int .i64 wd, .int .i64 nn] := e1
 have e2 : [e, f] = [Value.int .i64 s, .int .u8 c0] := e2
 have e3 : [i] = [Value.string ab] := e3
 simp only [List.cons.injEq, and_true] at e1 e2 e3
 obtain ⟨rfl, rfl, rfl⟩ := e1
 obtain ⟨rfl, rfl⟩ := e2
 subst e3
 exact ⟨⟨m, k, wd, nn, s, c0, v, ab⟩, rfl, hm⟩
theorem foot_of {fuel : Nat} {cs : List Value} {y : DataW H × List MemPlace} (h : DataW.trod enc Tryz.prog w base spare held fuel 32 cs = some y) : ∃ F : Ft, cs = vF F ∧ (Lit.int .i64 F.a.m).wf = true ∧ (Lit.int .i64 F.b.m).wf = true := by
 obtain ⟨xs, n, _, _, hl, hlen, hf⟩ := DataW.trod_struct Tryz.underlying32 h
 obtain ⟨a, b, c, d, e, f, g, i, j, k, m, nn, o, p, q, r, s, t, u, rfl⟩ := list19 (hl.trans (by kernel_rfl))
 obtain ⟨x0, x1, x2, x3, x4, rfl⟩ := list5 hlen
 obtain ⟨z, e0, _⟩ := DataW.trod_bool (cs := [a]) Tryz.underlying4 (by simpa [cz_k, cz_i, cz_u, cz_b, cz_s, cz_o, cz_a, cz_h] using hf 0 _ rfl)
 obtain ⟨fr, rfl, _⟩ := int_of (c := b) Tryz.underlying2 (by simpa [cz_k, cz_i, cz_u, cz_b, cz_s, cz_o, cz_a, cz_h] using hf 1 _ rfl) rfl
 obtain ⟨off, rfl, _⟩ := int_of (c := c) Tryz.underlying2 (by simpa [cz_k, cz_i, cz_u, cz_b, cz_s, cz_o, cz_a, cz_h] using hf 2 _ rfl) rfl
 obtain ⟨A, e1, h1⟩ := half_of (cs := [d, e, f, g, i, j, k, m]) (by simpa [cz_k, cz_i, cz_u, cz_b, cz_s, cz_o, cz_a, cz_h] using hf 3 _ rfl)
 obtain ⟨B, e2, h2⟩ := half_of (cs := [nn, o, p, q, r, s, t, u]) (by simpa [cz_k, cz_i, cz_u, cz_b, cz_s, cz_o, cz_a, cz_h] using hf 4 _ rfl)
 have e0 : [a] = [Value.bool z] := e0
 have e1 : [d, e, f, g, i, j, k, m] = vH A := e1
 have e2 : [nn, o, p, q, r, s, t, u] = vH B := e2
 unfold vH at e1 e2
 simp only [List.cons.injEq, and_true] at e0 e1 e2
 obtain ⟨rfl, rfl, rfl, rfl, rfl, rfl, rfl, rfl⟩ := e1
 obtain ⟨rfl, rfl, rfl, rfl, rfl, rfl, rfl, rfl⟩ := e2
 subst e0
 exact ⟨⟨z, fr, off, A, B⟩, rfl, h1, h2⟩
open A in
theorem rl_half (h : Hf) : RL noNames w (avH h) (vH h) :=
 .cons (.int _ _) (.cons (.int _ _) (.cons (.int _ _) (.cons (.int _ _) (.cons (.int _ _) (.cons (.int _ _) (.cons (.int _ _) (.cons (.str _) .nil)))))))
open A in
theorem rl_foot (F : Ft) : RL noNames w (avF F) (vF F) := by
 have h : RL noNames w ([.bool F.z, .int .i64 F.fr, .int .i64 F.off] ++ (avH F.a ++ avH F.b)) ([.bool F.z, .int .i64 F.fr, .int .i64 F.off] ++ (vH F.a ++ vH F.b)) :=
  RL.append (.cons (.bool _) (.cons (.int _ _) (.cons (.int _ _) .nil))) (RL.append (rl_half _) (rl_half _))
 exact h
end
end Go.Proofs.YtimgphlfaninnaaGreat.P
namespace Go.Proofs.YtimgphlfaninnaaGreat.P
open Go Go.RowKit Go.ChangeShapes Go.WideShapes Go.Proofs.YtimgphlfaninnaaGreat.Civ Go.Proofs.YtimgphlfaninnaaGreat.Ft Go.Proofs.YtimgphlfaninnaaGreat.Zn
set_option linter.unusedVariables false
set_option linter.unusedSimpArgs false
set_option maxHeartbeats 2000000
theorem tz_n : Tryz.prog.cellsOf 9 = 1 := by kernel_rfl
theorem tz_t : Tryz.prog.cellsOf 23 = 4 := by kernel_rfl
theorem tz_s : Tryz.prog.cellsOf 24 = 1 := by kernel_rfl
theorem tz_f : Tryz.prog.cellsOf 32 = 19 := by kernel_rfl
theorem tz_b : Tryz.prog.bytesOf 23 = 40 := by kernel_rfl
section
variable {H : Type} {enc : TypeId × Value → H} {w : World} {base : Nat} {spare : Nat → Bool} {held : Bool}
theorem list4 {α : Type} {l : List α} (h : l.length = 4) : ∃ a b c d, l = [a, b, c, d] := by
 match l, h with
 | [a, b, c, d], _ => exact ⟨a, b, c, d, rfl⟩
theorem list25 {α : Type} {l : List α} (h : l.length = 25) : ∃ a b c d e f r, l = a :: b :: c :: d :: e :: f :: r ∧ r.length = 19 := by
 match l, h with
 | a :: b :: c :: d :: e :: f :: r, h => exact ⟨a, b, c, d, e, f, r, rfl, by simpa using h⟩
theorem tran_of {fuel : Nat} {cs : List Value} {y : DataW H × List MemPlace} (h : DataW.trod enc Tryz.prog w base spare held fuel 23 cs = some y) : ∃ t : Int × Int × Bool × ByteArray, cs = [.int .i64 t.1, .int .i64 t.2.1, .bool t.2.2.1, .string t.2.2.2] := by
 obtain ⟨xs, n, _, _, hl, hlen, hf⟩ := DataW.trod_struct Tryz.underlying23 h
 obtain ⟨a, b, c, d, rfl⟩ := list4 (hl.trans (by kernel_rfl))
 obtain ⟨x, y, z, u, rfl⟩ := list4 hlen
 obtain ⟨k0, rfl, _⟩ := int_of (c := a) Tryz.underlying2 (by simpa [cz_k, cz_i, cz_u, cz_b, cz_s, cz_o, cz_a, cz_h] using hf 0 _ rfl) rfl
 obtain ⟨k1, rfl, _⟩ := int_of (c := b) Tryz.underlying2 (by simpa [cz_k, cz_i, cz_u, cz_b, cz_s, cz_o, cz_a, cz_h] using hf 1 _ rfl) rfl
 obtain ⟨k2, e2, _⟩ := DataW.trod_bool (cs := [c]) Tryz.underlying4 (by simpa [cz_k, cz_i, cz_u, cz_b, cz_s, cz_o, cz_a, cz_h] using hf 2 _ rfl)
 obtain ⟨k3, e3, _⟩ := DataW.trod_string (cs := [d]) Tryz.underlying9 (by simpa [cz_k, cz_i, cz_u, cz_b, cz_s, cz_o, cz_a, cz_h] using hf 3 _ rfl)
 have e2 : [c] = [Value.bool k2] := e2
 have e3 : [d] = [Value.string k3] := e3
 simp only [List.cons.injEq, and_true] at e2 e3
 subst e2 e3
 exact ⟨(k0, k1, k2, k3), rfl⟩
theorem foot_fr {fuel : Nat} {F : Ft} {y : DataW H × List MemPlace} (h : DataW.trod enc Tryz.prog w base spare held fuel 32 (vF F) = some y) : (Lit.int .i64 F.fr).wf = true := by
 obtain ⟨xs, n, _, _, hl, hlen, hf⟩ := DataW.trod_struct Tryz.underlying32 h
 obtain ⟨x0, x1, x2, x3, x4, rfl⟩ := list5 hlen
 obtain ⟨fr, e, hw⟩ := int_of (c := .int .i64 F.fr) Tryz.underlying2 (by simpa [vF, cz_k, cz_i, cz_u, cz_b, cz_s, cz_o, cz_a, cz_h] using hf 1 _ rfl) rfl
 cases e
 exact hw
theorem add_add {a : Addr} (h : a.spot = none) (m n : Nat) : a.add (m + n) = (a.add m).add n := by
 have e : ∀ k, a.add k = ⟨a.block, a.off + k, none⟩ := fun k => by
  unfold Addr.add
  split
  · rename_i q; subst q; cases a; simp only at h; subst h; rfl
  · rfl
 rw [e, e]
 unfold Addr.add
 split
 · rename_i q; subst q; rfl
 · simp only [Addr.mk.injEq, and_true, true_and]; omega
theorem row_of {fuel : Nat} {s : Value} {y : DataW H × List MemPlace} (hz : (y.1.weights Tryz.prog 24).all (· ≤ reachBytes) = true)
 (hsp : ∀ a len cap, s = .slice (some a) len cap → a.spot = none ∧ a.block < w.heap.size)
 (h : DataW.trod enc Tryz.prog w base spare held fuel 24 [s] = some y) :
 ∃ (n : Nat) (f : Nat → Int × Int × Bool × ByteArray), A.RV A.noNames w (.csl 4 n fun i k => match k with | 0 => .int .i64 (f i).1 | 1 => .int .i64 (f i).2.1 | 2 => .bool (f i).2.2.1 | _ => .str (f i).2.2.2) s ∧ A.roomB n 40 = true := by
 rcases DataW.trod_slice Tryz.underlying24 h with ⟨e, _⟩ | ⟨a, len, cap, elems, rest, m, rfl, e, rfl, hb, hl, hc, hlen, hel, _⟩
 · simp only [List.cons.injEq, and_true] at e
   subst e
   exact ⟨0, fun _ => (0, 0, false, ⟨#[]⟩), .csl0 _ _, by decide +kernel⟩
 · simp only [List.cons.injEq, and_true] at e
   subst e
   obtain ⟨hs, hbk⟩ := hsp a len cap rfl
   have each : ∀ i, ∃ t : Int × Int × Bool × ByteArray, i < len → ∀ j, j < 4 → w.cell? (a.add (i * 4 + j)) = [Value.int .i64 t.1, .int .i64 t.2.1, .bool t.2.2.1, .string t.2.2.2][j]? := by
    intro i
    by_cases hi : i < len
    · have h1 := hel i hi
      rw [tz_t, List.getElem?_eq_getElem (by omega), Option.bind_eq_some_iff] at h1
      obtain ⟨cs, h2, h3⟩ := h1
      obtain ⟨t, rfl⟩ := tran_of h3
      obtain ⟨_, _, h4⟩ := World.cells?_some h2
      refine ⟨t, fun _ j hj => ?_⟩
      rw [← h4 j hj]
      exact congrArg w.cell? (add_add hs (i * 4) j)
    · exact ⟨(0, 0, false, ⟨#[]⟩), fun q => (hi q).elim⟩
   obtain ⟨f, hf⟩ := Classical.axiomOfChoice each
   obtain ⟨b, o, sp⟩ := a
   obtain rfl : sp = none := hs
   refine ⟨len, f, .csl 4 len cap _ (fun i k => match k with | 0 => .int .i64 (f i).1 | 1 => .int .i64 (f i).2.1 | 2 => .bool (f i).2.2.1 | _ => .string (f i).2.2.2) hbk hl ?_ ?_, ?_⟩
   · intro i j hi hj
     have := hf i hi j hj
     have ea : (Addr.add ⟨b, o, none⟩ (i * 4 + j)) = ⟨b, o + (i * 4 + j), none⟩ := by
      unfold Addr.add
      split
      · rename_i q; simp [q]
      · rfl
     rw [ea] at this
     rw [this]
     match j, hj with
     | 0, _ => rfl
     | 1, _ => rfl
     | 2, _ => rfl
     | 3, _ => rfl
   · intro i j hi hj
     match j, hj with
     | 0, _ => exact .int _ _
     | 1, _ => exact .int _ _
     | 2, _ => exact .bool _
     | 3, _ => exact .str _
   · have h1 := List.all_eq_true.1 hz ((elems.length + rest.length) * Tryz.prog.bytesOf 23) (by
      have hu := Tryz.underlying24
      unfold DataW.weights
      rw [hu]
      simp)
     have h1 := of_decide_eq_true h1
     rw [tz_b] at h1
     have hr := reachBytes_lt
     unfold A.roomB
     rw [Bool.and_eq_true]
     refine ⟨Nat.ble_eq_true_of_le (Nat.le_trans hl hc), Nat.ble_eq_true_of_le ?_⟩
     have : len ≤ elems.length + rest.length := by omega
     have := Nat.mul_le_mul_right 40 this
     omega
set_option maxRecDepth 100000 in
theorem open_table {b0 : Nat} {v : Value} {d : DataW H} {p : List MemPlace} (hv : Value.okWide Tryz.prog w .any b0 34 v) (h : DataW.Trod enc Tryz.prog w base spare held 34 v d p) (hz : ∀ n ∈ d.weights Tryz.prog 34, n ≤ reachBytes) : ∃ z : Zt, A.RV A.noNames w (.agg (avZ z)) v ∧ bdZ z.F = true ∧ A.roomB z.n 40 = true := by
 have hs := Tryz.underlying34
 have hrow : ∃ cs, v = .agg cs ∧ cs.size = Tryz.prog.cellsOf 34 ∧ Row.okWide Tryz.prog w .any b0 34 cs := by
  have := hv
  simp only [Value.okWide, hs] at this
  exact this
 obtain ⟨cs, rfl, hsz, ts, hts, _, hcell⟩ := hrow
 have hk : (Tryz.prog.cellTypes Tryz.prog.depth 34).map (fun l => (l.length, l[5]?)) = some (25, some 24) := by kernel_rfl
 rw [hts] at hk
 simp only [Option.map_some, Option.some.injEq, Prod.mk.injEq] at hk
 obtain ⟨k1, k2⟩ := hk
 obtain ⟨fuel, hf⟩ := h
 have hf : DataW.trod enc Tryz.prog w base spare held fuel 34 cs.toList = some (d, p) := hf
 obtain ⟨xs, n, _, hd, hl, hlen, hfl⟩ := DataW.trod_struct hs hf
 obtain ⟨a, b, c, e, f, s, r, hcs, hr⟩ := list25 (hl.trans (by kernel_rfl))
 obtain ⟨x0, x1, x2, x3, rfl⟩ := list4 hlen
 have hsl : ∀ a len cap, s = .slice (some a) len cap → a.spot = none ∧ a.block < w.heap.size := by
  intro a len cap es
  have h5 : cs[5]? = some s := by rw [← Array.getElem?_toList, hcs]; rfl
  obtain ⟨u, hu, hok⟩ := hcell 5 s h5
  rw [k1, show 5 % 25 = 5 from rfl, k2, Option.some.injEq] at hu
  subst hu es
  have hu := Tryz.underlying24
  simp only [Cell.okWide, Cell.ok, hu] at hok
  obtain ⟨_, _, _, h6, row, cells, h7, _⟩ := hok
  refine ⟨h6, ?_⟩
  unfold World.shape? at h7
  rcases Nat.lt_or_ge a.block w.heap.size with q | q
  · exact q
  · rw [Array.getElem?_eq_none q] at h7
    cases h7
 rw [hcs] at hfl
 have hg := hfl 0 _ rfl
 obtain ⟨nm, e0, _⟩ := DataW.trod_string (cs := [a]) Tryz.underlying9 (by simpa [tz_n, cz_s] using hfl 0 _ rfl)
 obtain ⟨t, e1⟩ := tran_of (cs := [b, c, e, f]) (by simpa [tz_t] using hfl 1 _ rfl)
 have hrw := hfl 2 _ rfl
 have hft := hfl 3 _ rfl
 have hrw : DataW.trod enc Tryz.prog w base spare held n 24 [s] = some x2 := by simpa [tz_s] using hrw
 have hft : DataW.trod enc Tryz.prog w base spare held n 32 r = some x3 := by
  have e : r.take 19 = r := List.take_of_length_le (by omega)
  simpa [tz_f, e] using hft
 obtain ⟨F, rfl, h1, h2⟩ := foot_of hft
 have h0 := foot_fr hft
 have e0 : [a] = [Value.string nm] := e0
 simp only [List.cons.injEq, and_true] at e0 e1
 obtain ⟨rfl, rfl, rfl, rfl⟩ := e1
 subst e0
 have hw : (x2.1.weights Tryz.prog 24).all (· ≤ reachBytes) = true := by
  refine List.all_eq_true.2 fun q hq => decide_eq_true (hz q ?_)
  have hd1 : d = .agg [x0.1, x1.1, x2.1, x3.1] := congrArg Prod.fst hd
  rw [hd1]
  unfold DataW.weights
  rw [hs]
  exact DataW.weights_mem_each (j := 2) (t := 24) (d := x2.1) rfl rfl q hq
 obtain ⟨m, g, hrv, hroom⟩ := row_of hw hsl hrw
 refine ⟨⟨nm, t.1, t.2.1, t.2.2.1, t.2.2.2, m, fun i => (g i).1, fun i => (g i).2.1, fun i => (g i).2.2.1, fun i => (g i).2.2.2, F⟩, ?_, ?_, hroom⟩
 · have e : cs = (Value.string nm :: Value.int .i64 t.1 :: .int .i64 t.2.1 :: .bool t.2.2.1 :: .string t.2.2.2 :: s :: vF F).toArray := by rw [← hcs]
   rw [e]
   exact .agg (.cons (.str _) (.cons (.int _ _) (.cons (.int _ _) (.cons (.bool _) (.cons (.str _) (.cons hrv (rl_foot F)))))))
 · exact decide_eq_true ⟨(i64_of_wf h0).1, (i64_of_wf h0).2, (i64_of_wf h1).1, (i64_of_wf h1).2, (i64_of_wf h2).1, (i64_of_wf h2).2⟩
end
end Go.Proofs.YtimgphlfaninnaaGreat.P
namespace Go.Proofs.YtimgphlfaninnaaGreat.P
open Go Go.RowKit Go.Proofs.YtimgphlfaninnaaGreat.Civ Go.Proofs.YtimgphlfaninnaaGreat.Ft Go.Proofs.YtimgphlfaninnaaGreat.Zn
set_option linter.unusedVariables false
set_option linter.unusedSimpArgs false
open A
theorem afl_calls {T : Tab} (hT : TabOk Tryz.prog T) {n g : Nat} {LT : LTab Prop} (hL : LtOk Tryz.prog g LT) {args : List AV} (h : AFL T LT n g args fun u => u = .bool true) {w : World} {A : List Value} (hA : RL noNames w args A) : Calls Tryz.prog g A.toArray w fun e w' => e = .returned (.bool true) ∧ Below w.heap.size w w' := by
 unfold AFL at h
 have h2 := afn_ok (P := Tryz.prog) (T := T) (n := n) (g := g) (LT := LT) (args := args) (K := fun u h => nuK h u fun u => u = .bool true) mixed hT hL (by with_reducible exact h) hA
 refine h2.mono fun e w' he => ?_
 obtain ⟨V, g1, ρ', u, h', g2, g3, g5⟩ := he
 obtain ⟨c1, g4⟩ := brc_false.1 g5
 obtain ⟨k1, _⟩ := toNu_ok g3 4 g2 (by rw [g4]; rfl) c1
 rw [g4, kN] at k1
 exact ⟨by rw [g1, k1], g3.bel⟩
theorem i64_wf {n : Int} (h : (Lit.int .i64 n).wf = true) : I64 n := ⟨(i64_of_wf h).1, (i64_of_wf h).2⟩
end Go.Proofs.YtimgphlfaninnaaGreat.P
namespace Go.Proofs.YtimgphlfaninnaaGreat.P
open Go.RowKit Go.Proofs.YtimgphlfaninnaaGreat.Ft Go.Proofs.YtimgphlfaninnaaGreat.Zn
set_option linter.unusedVariables false
set_option linter.unusedSimpArgs false
open A
abbrev ChF := Option (Nat × (Nat → Nat → AV))
def chT (a b p o o9 o10 : Option AV) : List (Option AV) := none :: a :: b :: p :: none :: none :: none :: none :: o :: o9 :: o10 :: none :: none :: none :: n10 (n10 (n10 (n10 (n10 (n10 (n10 (n10 (n10 (n10 (n10 (n10 [])))))))))))
def chA (a b : Int) (o o9 o10 : Option AV) : List (Option AV) := chT (some (.int .i64 a)) (some (.int .i64 b)) (some (.ptr 0 0 0 0)) o o9 o10
def chO : ChF → AV
 | none => .nilsl
 | some (n, _) => .gs 1 1 n
def chR : ChF → Heap
 | none => []
 | some (n, c) => [some (.vec 2 1 n c)]
noncomputable def chH1 (z : Zt) (a b k : Int) (f : ChF) : St := ⟨chA a b (some (chO f)) (some (.int .i64 k)) none, some (.cells (avZ z)) :: chR f, []⟩
noncomputable def chX (z : Zt) (a b : Int) (f : ChF) : St := ⟨chA a b (some (chO f)) none none, some (.cells (avZ z)) :: chR f, []⟩
noncomputable def chH2 (z : Zt) (a b y : Int) (f : ChF) : St := ⟨chA a b (some (chO f)) none (some (.int .i64 y)), some (.cells (avZ z)) :: chR f, []⟩
noncomputable def chY (z : Zt) (f : ChF) : St := ⟨chT none none none (some (chO f)) none none, some (.cells (avZ z)) :: chR f, []⟩
noncomputable def chH3 (z : Zt) (a b y : Int) (n : Nat) (c : Nat → Nat → AV) : St := ⟨chA a b (some (.gs 2 1 n)) none (some (.int .i64 y)), [some (.cells (avZ z)), some .dead, some (.vec 2 1 n c)], []⟩
noncomputable def chZ (z : Zt) (n : Nat) (c : Nat → Nat → AV) : St := ⟨chT none none none (some (.gs 2 1 n)) none none, [some (.cells (avZ z)), some .dead, some (.vec 2 1 n c)], []⟩
def chK : List Bool := ((((List.replicate 134 false).set 1 true).set 2 true).set 3 true).set 8 true
def chCS1 : CS := { m := 1, keep := chK.set 9 true, roots := [8] }
def chCSX : CS := { m := 1, keep := chK, roots := [8] }
def chCS2 : CS := { m := 1, keep := chK.set 10 true, roots := [8] }
def chCSY : CS := { m := 1, keep := (List.replicate 134 false).set 8 true, roots := [8] }
def chCS3 : CS := { m := 2, keep := chK.set 10 true, roots := [8], mv := [1] }
def chCSZ : CS := { m := 2, keep := (List.replicate 134 false).set 8 true, roots := [8], mv := [1] }
def chOf (st : St) : Nat × (Nat → Nat → AV) := match st.h with
 | _ :: some (.vec _ _ n c) :: _ => (n, c)
 | _ => (0, fun _ _ => .undef)
def chPush (f : ChF) (w : Int) (K : ChF → Prop) : Prop := match f with
 | none => K (some (1, fun _ _ => .int .i64 w))
 | some (n, c) => brc (Nat.beq n n && roomB (n + 1) 8) (K (some (n + 1, fun i _ => aite (decide (i < n)) (c i 0) (.int .i64 w)))) False
def chVC1 (z : Zt) (a b k : Int) (f : ChF) (R : Option St → Prop) (Q : Ex → Option St → Prop) : Prop :=
 brc (decide (k < z.n)) (brc (decide (0 ≤ k) && decide (k < z.n)) (brc (decide (z.ta (Int.toNat k) > a)) (brc (decide (0 ≤ k) && decide (k < z.n)) (brc (decide (z.ta (Int.toNat k) ≤ b)) (brc (decide (0 ≤ k) && decide (k < z.n)) (chPush f (z.ta (Int.toNat k)) fun f' => R (some (chH1 z a b (IntKind.wrap .i64 (k + 1)) f'))) False) (R (some (chH1 z a b (IntKind.wrap .i64 (k + 1)) f)))) False) (R (some (chH1 z a b (IntKind.wrap .i64 (k + 1)) f)))) False) (Q (.exit 0) (some (chX z a b f)))
def chIn (z : Zt) (a b m : Int) (X Y : Prop) : Prop := brc (decide (m > a)) (brc (decide (m ≤ b)) (brc (decide (m ≥ z.F.fr)) X Y) Y) Y
def chTwo (z : Zt) (a b p q : Int) (f : ChF) (R : ChF → Prop) : Prop := match f with
 | none => chIn z a b p (chIn z a b q (R (some (2, listC 1 [.int .i64 p, .int .i64 q]))) (R (some (1, fun _ _ => .int .i64 p)))) (chIn z a b q (R (some (1, fun _ _ => .int .i64 q))) (R none))
 | some f => chIn z a b p (chPush (some f) p fun g => chIn z a b q (chPush g q R) (R g)) (chIn z a b q (chPush (some f) q R) (R (some f)))
def chVC2 (z : Zt) (a b k : Int) (f : ChF) (R : ChF → Prop) (Q : Prop) : Prop :=
 brc (decide (-9223372036854775808 ≤ b ∧ b ≤ 9223372036854775807)) (∀ m0 : Int, m0 = yAt b → brc (decide (k ≤ IntKind.wrap .i64 (m0 + 1))) (brc (decide (FtOk z.F ∧ -4718 < k ∧ k < 294282))
  (∀ m1 : Int, m1 = 0 → ∀ m2 : Int, m2 = (tr z.F true k).t → ∀ m3 : Int, m3 = (tr z.F true k).off → ∀ m4 : Bool, m4 = (tr z.F true k).dst → ∀ m5 : Int, m5 = (tr z.F false k).t → ∀ m6 : Int, m6 = (tr z.F false k).off → ∀ m7 : Bool, m7 = (tr z.F false k).dst → chTwo z a b m2 m5 f R) False) Q) False
def chGet (o : ChF) (K : Nat → (Nat → Nat → AV) → Prop) : Prop := match o with
 | some (n, c) => K n c
 | none => False
set_option maxRecDepth 100000 in
theorem ch_round1a (z : Zt) (a b k : Int) (R : Option St → Prop) (Q : Ex → Option St → Prop) : aroundN PA Tryz.prog (tab []) noLoops 12 (loopOf Tryz.prog 79 0) (chH1 z a b k none) (fun st => R (canon chCS1 st)) (fun e st => Q e (canon chCSX st)) = chVC1 z a b k none R Q := by kernel_rfl
set_option maxRecDepth 100000 in
theorem ch_round1b (z : Zt) (a b k : Int) (n : Nat) (c : Nat → Nat → AV) (R : Option St → Prop) (Q : Ex → Option St → Prop) : aroundN PA Tryz.prog (tab []) noLoops 12 (loopOf Tryz.prog 79 0) (chH1 z a b k (some (n, c))) (fun st => R (canon chCS1 st)) (fun e st => Q e (canon chCSX st)) = chVC1 z a b k (some (n, c)) R Q := by kernel_rfl
set_option maxRecDepth 100000 in
theorem ch_round2a (z : Zt) (a b k : Int) (R : Option St → Prop) (Q : Ex → Option St → Prop) : aroundN PA Tryz.prog (tab [(63, cyYear), (118, cyRyear)]) noLoops 12 (loopOf Tryz.prog 79 1) (chH2 z a b k none) (fun st => R (canon chCS2 st)) (fun e st => Q e (canon chCSY st)) = chVC2 z a b k none (fun f => R (some (chH2 z a b (IntKind.wrap .i64 (k + 1)) f))) (Q (.exit 2) (some (chY z none))) := by kernel_rfl
set_option maxRecDepth 100000 in
theorem ch_round2b (z : Zt) (a b k : Int) (n : Nat) (c : Nat → Nat → AV) (R : Option St → Prop) (Q : Ex → Option St → Prop) : aroundN PA Tryz.prog (tab [(63, cyYear), (118, cyRyear)]) noLoops 12 (loopOf Tryz.prog 79 1) (chH2 z a b k (some (n, c))) (fun st => R (canon chCS2 st)) (fun e st => Q e (canon chCSY st)) = chVC2 z a b k (some (n, c)) (fun f => R (some (chH2 z a b (IntKind.wrap .i64 (k + 1)) f))) (Q (.exit 2) (some (chY z (some (n, c))))) := by kernel_rfl
set_option maxRecDepth 100000 in
theorem ch_round3 (z : Zt) (a b k : Int) (n : Nat) (c : Nat → Nat → AV) (R : Option St → Prop) (Q : Ex → Option St → Prop) : aroundN PA Tryz.prog (tab [(63, cyYear), (118, cyRyear)]) noLoops 12 (loopOf Tryz.prog 79 1) (chH3 z a b k n c) (fun st => R (canon chCS3 st)) (fun e st => Q e (canon chCSZ st)) = chVC2 z a b k (some (n, c)) (fun f => chGet f fun n c => R (some (chH3 z a b (IntKind.wrap .i64 (k + 1)) n c))) (Q (.exit 2) (some (chZ z n c))) := by kernel_rfl
end Go.Proofs.YtimgphlfaninnaaGreat.P
namespace Go.Proofs.YtimgphlfaninnaaGreat.P
open Go.RowKit Go.Proofs.YtimgphlfaninnaaGreat.Civ Go.Proofs.YtimgphlfaninnaaGreat.Ft Go.Proofs.YtimgphlfaninnaaGreat.Zn
set_option linter.unusedVariables false
set_option linter.unusedSimpArgs false
open A
def fCur (z : Zt) (a : Int) : Int := if z.F.fr - 1 > a then z.F.fr - 1 else a
def nR (z : Zt) (a b : Int) : Nat := kz z b z.n - kz z a z.n
noncomputable def nF (z : Zt) (a b : Int) : Nat := if z.F.z = true then (ix z.F b - ix z.F (fCur z a)).toNat else 0
noncomputable def chC (z : Zt) (a b : Int) (j : Nat) : Int := if j < nR z a b then z.ta (kz z a z.n + j) else (sI z.F (ix z.F (fCur z a) + 1 + ((j - nR z a b : Nat) : Int))).t
noncomputable def chN (z : Zt) (a b : Int) : Nat := nR z a b + nF z a b
def ChIs (z : Zt) (a b : Int) : ChF → Nat → Prop
 | none, m => m = 0
 | some (n, c), m => n = m ∧ 0 < m ∧ ∀ i, i < m → c i 0 = .int .i64 (chC z a b i)
theorem chPush_ok {z : Zt} {a b : Int} {f : ChF} {m : Nat} {w : Int} (h : ChIs z a b f m) (hw : w = chC z a b m) (hm : m ≤ 10000) {K : ChF → Prop} (hK : ∀ f', ChIs z a b f' (m + 1) → K f') : chPush f w K := by
 subst hw
 cases f with
 | none =>
  have h : m = 0 := h
  subst h
  exact hK _ ⟨rfl, by omega, fun i hi => by rw [show i = 0 by omega]⟩
 | some p =>
  obtain ⟨n, c⟩ := p
  obtain ⟨rfl, h0, hc⟩ := h
  unfold chPush
  refine brcT ?_ (hK _ ⟨rfl, by omega, fun i hi => ?_⟩)
  · rw [show Nat.beq n n = true from Nat.beq_refl n]
    unfold roomB
    rw [Nat.ble_eq_true_of_le (show n + 1 ≤ maxLen by unfold maxLen; omega), Nat.ble_eq_true_of_le (show (n + 1) * 8 ≤ 140737488355328 by omega)]
    rfl
  · show aite (decide (i < n)) (c i 0) _ = _
    rcases Nat.lt_or_ge i n with q | q
    · rw [decide_eq_true q, aite_t]
      exact hc i q
    · rw [decide_eq_false (by omega), aite_f, show i = n by omega]
def cnt1 (z : Zt) (a b : Int) (k : Nat) : Nat := min k (kz z b z.n) - kz z a z.n
noncomputable def chHx1 (z : Zt) (a b : Int) (x : Nat × ChF) : St := chH1 z a b (x.1 : Int) x.2
def chMu1 (z : Zt) (x : Nat × ChF) : Nat := z.n - x.1
noncomputable def chG1 (z : Zt) (a b : Int) (x : Nat × ChF) (Q : Ex → St → Prop) : Prop :=
 (ZtOk z ∧ a ≤ b ∧ x.1 ≤ z.n ∧ ChIs z a b x.2 (cnt1 z a b x.1)) ∧
 ((ChIs z a b none (nR z a b) → Q (.exit 0) (chX z a b none)) ∧ ∀ n c, ChIs z a b (some (n, c)) (nR z a b) → Q (.exit 0) (chX z a b (some (n, c))))
theorem ch_vc1 {z : Zt} {a b : Int} {x : Nat × ChF} {Q : Ex → St → Prop} (hG : chG1 z a b x Q) : chVC1 z a b x.1 x.2 (again (chHx1 z a b) (chMu1 z) (chG1 z a b) x Q) (left Q) := by
 obtain ⟨k, f⟩ := x
 obtain ⟨⟨hz, hab, hk, hf⟩, q1, q2⟩ := hG
 simp only at hk hf
 have hn := hz.2.2.1
 have ka := kz_le z a z.n
 have kb := kz_le z b z.n
 have km := kz_mono z hab z.n
 have iffa : k < z.n → (k < kz z a z.n ↔ z.ta k ≤ a) := kz_iff hz.rows a z.n k (Nat.le_refl _)
 have iffb : k < z.n → (k < kz z b z.n ↔ z.ta k ≤ b) := kz_iff hz.rows b z.n k (Nat.le_refl _)
 unfold chVC1
 simp only
 rw [show Int.toNat (k : Int) = k by omega]
 have nx : ∀ f', k < z.n → ChIs z a b f' (cnt1 z a b (k + 1)) → again (chHx1 z a b) (chMu1 z) (chG1 z a b) (k, f) Q (some (chH1 z a b (IntKind.wrap .i64 ((k : Int) + 1)) f')) := fun f' h1 h2 => by
  refine ⟨(k + 1, f'), by unfold chMu1; simp only; omega, ⟨⟨hz, hab, h1, h2⟩, q1, q2⟩, ?_⟩
  rw [jU (by omega)]; rfl
 refine kB (fun c1 => ?_) fun c1 => ?_
 · have c1 : k < z.n := by have := of_decide_eq_true c1; omega
   have ib : (decide (0 ≤ (k : Int)) && decide ((k : Int) < z.n)) = true := by simp; omega
   have same : ¬ (kz z a z.n ≤ k ∧ k < kz z b z.n) → ChIs z a b f (cnt1 z a b (k + 1)) := fun q => by
    have e : cnt1 z a b (k + 1) = cnt1 z a b k := by unfold cnt1; omega
    rw [e]; exact hf
   refine brcT ib (kB (fun c2 => brcT ib (kB (fun c3 => brcT ib ?_) fun c3 => nx _ c1 (same fun q => ?_))) fun c2 => nx _ c1 (same fun q => ?_))
   · have c2 := of_decide_eq_true c2
     have c3 := of_decide_eq_true c3
     have h1 : kz z a z.n ≤ k := by have := iffa c1; omega
     have h2 : k < kz z b z.n := (iffb c1).2 c3
     have e : cnt1 z a b (k + 1) = cnt1 z a b k + 1 := by unfold cnt1; omega
     refine chPush_ok hf ?_ (by unfold cnt1; omega) fun f' h => nx f' c1 (e ▸ h)
     unfold chC
     rw [if_pos (by unfold cnt1 nR; omega), show kz z a z.n + cnt1 z a b k = k by unfold cnt1; omega]
   · have c3 := of_decide_eq_false c3
     exact c3 ((iffb c1).1 q.2)
   · have c2 := of_decide_eq_false c2
     have := (iffa c1).2 (by omega)
     omega
 · have e : k = z.n := by have := of_decide_eq_false c1; omega
   have e2 : cnt1 z a b k = nR z a b := by unfold cnt1 nR; omega
   rw [e2] at hf
   cases f with
   | none => exact ⟨_, rfl, q1 hf⟩
   | some p => obtain ⟨n, c⟩ := p; exact ⟨_, rfl, q2 n c hf⟩
structure ChC (z : Zt) (a b y : Int) : Prop where
 ok : ZtOk z
 bd : bdZ z.F = true
 ft : z.F.z = true
 ab : a ≤ b
 aska : Asked a
 askb : Asked b
 near : b ≤ a + 4194304
 lo : yAt a - 1 ≤ y
 hi : y ≤ yAt b + 2
theorem ChC.foot {z : Zt} {a b y : Int} (h : ChC z a b y) : FtOk z.F := (h.ok.foot h.ft).1.1
theorem yAt_mono {a b : Int} (ha : Asked a) (hb : Asked b) (h : a ≤ b) : yAt a ≤ yAt b := by
 obtain ⟨a0, a1, a2⟩ := yAt_in (u := a) (by have := ha.1; omega) (by have := ha.2; omega)
 obtain ⟨b0, b1, b2⟩ := yAt_in (u := b) (by have := hb.1; omega) (by have := hb.2; omega)
 rw [a0, b0]
 exact yOf_mono (by unfold dOf; omega)
theorem ix_near {F : Ft} (h : FtOk F) {u : Int} (hu : Asked u) : 2 * yAt u - 3 ≤ ix F u ∧ ix F u ≤ 2 * yAt u + 3 := by
 obtain ⟨a0, a1, a2⟩ := yAt_in (u := u) (by have := hu.1; omega) (by have := hu.2; omega)
 rw [a0]
 exact ix_bd h u
theorem ix_in {F : Ft} (h : FtOk F) (i u : Int) : (sI F i).t ≤ u ↔ i ≤ ix F u := by
 obtain ⟨a1, a2⟩ := ix_spec h u
 constructor
 · intro q
   rcases Int.lt_or_le (ix F u) i with g | g
   · have := sI_le h (i := ix F u + 1) (j := i) (by omega); omega
   · exact g
 · intro q
   have := sI_le h q
   omega
theorem in_iff {z : Zt} {a b : Int} (h : FtOk z.F) (i : Int) : ((sI z.F i).t > a ∧ (sI z.F i).t ≤ b ∧ (sI z.F i).t ≥ z.F.fr) ↔ (ix z.F (fCur z a) < i ∧ i ≤ ix z.F b) := by
 have h1 := ix_in h i (fCur z a)
 have h2 := ix_in h i b
 have e : (sI z.F i).t ≤ fCur z a ↔ ¬ ((sI z.F i).t > a ∧ (sI z.F i).t ≥ z.F.fr) := by
  unfold fCur
  split <;> omega
 rw [← h2]
 have : ix z.F (fCur z a) < i ↔ ¬ (sI z.F i).t ≤ fCur z a := by rw [h1]; omega
 rw [this, e]
 constructor
 · intro q; exact ⟨fun k => k ⟨q.1, q.2.2⟩, q.2.1⟩
 · intro q
   have : (sI z.F i).t > a ∧ (sI z.F i).t ≥ z.F.fr := Classical.byContradiction q.1
   exact ⟨this.1, q.2, this.2⟩
theorem chIn_ok {z : Zt} {a b : Int} (h : FtOk z.F) (i : Int) {X Y : Prop} (hX : ix z.F (fCur z a) < i → i ≤ ix z.F b → X) (hY : ¬ (ix z.F (fCur z a) < i ∧ i ≤ ix z.F b) → Y) : chIn z a b (sI z.F i).t X Y := by
 have k := in_iff (z := z) (a := a) (b := b) h i
 unfold chIn
 refine kB (fun c1 => kB (fun c2 => kB (fun c3 => ?_) fun c3 => ?_) fun c2 => ?_) fun c1 => ?_
 · have := k.1 ⟨of_decide_eq_true c1, of_decide_eq_true c2, of_decide_eq_true c3⟩
   exact hX this.1 this.2
 · exact hY fun q => of_decide_eq_false c3 (k.2 q).2.2
 · exact hY fun q => of_decide_eq_false c2 (k.2 q).2.1
 · exact hY fun q => of_decide_eq_false c1 (k.2 q).1
noncomputable def cntI (z : Zt) (a b i : Int) : Nat := nR z a b + (min i (ix z.F b + 1) - (ix z.F (fCur z a) + 1)).toNat
theorem cntI_in {z : Zt} {a b i : Int} (h1 : ix z.F (fCur z a) < i) (h2 : i ≤ ix z.F b) : cntI z a b (i + 1) = cntI z a b i + 1 ∧ chC z a b (cntI z a b i) = (sI z.F i).t := by
 refine ⟨by unfold cntI; omega, ?_⟩
 unfold chC cntI
 rw [if_neg (by omega)]
 congr 2
 omega
theorem cntI_out {z : Zt} {a b i : Int} (h : ¬ (ix z.F (fCur z a) < i ∧ i ≤ ix z.F b)) : cntI z a b (i + 1) = cntI z a b i := by unfold cntI; omega
theorem fCur_ge (z : Zt) (a : Int) : a ≤ fCur z a := by unfold fCur; split <;> omega
theorem ChC.cnt {z : Zt} {a b y : Int} (h : ChC z a b y) (i : Int) : cntI z a b i ≤ 9000 := by
 have hn := h.ok.2.2.1
 have ka := kz_le z a z.n
 have kb := kz_le z b z.n
 have h1 := ix_mono h.foot (fCur_ge z a)
 have h2 := (ix_near h.foot h.aska).1
 have h3 := (ix_near h.foot h.askb).2
 have h4 : yAt b ≤ yAt a + 100 := by
  obtain ⟨a0, a1, a2⟩ := yAt_in (u := a) (by have := h.aska.1; omega) (by have := h.aska.2; omega)
  obtain ⟨b0, b1, b2⟩ := yAt_in (u := b) (by have := h.askb.1; omega) (by have := h.askb.2; omega)
  have ha := yOf_spec (dOf a)
  have hb := yOf_spec (dOf b)
  have hnear := h.near
  have hd : dOf b ≤ dOf a + 50 := by unfold dOf; omega
  rcases Int.lt_or_le (yAt a + 100) (yAt b) with g | g
  · have := dby_far (yOf (dOf a) + 1) (yOf (dOf b)) (by omega)
    omega
  · exact g
 unfold cntI nR
 omega
theorem chTwo_ok {z : Zt} {a b y : Int} (h : ChC z a b y) {f : ChF} (hf : ChIs z a b f (cntI z a b (2 * y))) {R : ChF → Prop} (hR : ∀ f', ChIs z a b f' (cntI z a b (2 * (y + 1))) → R f') : chTwo z a b (tr z.F true y).t (tr z.F false y).t f R := by
 have hF := h.foot
 rw [← sI_even, ← sI_odd]
 have e2 : 2 * (y + 1) = 2 * y + 1 + 1 := by omega
 rw [e2] at hR
 have c0 := h.cnt (2 * y)
 have c1 := h.cnt (2 * y + 1)
 cases f with
 | none =>
  have hf : cntI z a b (2 * y) = 0 := hf
  have last : ChIs z a b none (cntI z a b (2 * y + 1)) → chIn z a b (sI z.F (2 * y + 1)).t (R (some (1, fun _ _ => .int .i64 (sI z.F (2 * y + 1)).t))) (R none) := fun g => by
   have g : cntI z a b (2 * y + 1) = 0 := g
   refine chIn_ok hF _ (fun k1 k2 => hR _ ?_) fun k => hR _ ?_
   · obtain ⟨e, g2⟩ := cntI_in k1 k2
     rw [e, g]
     rw [g] at g2
     exact ⟨rfl, by omega, fun i hi => by rw [show i = 0 by omega, g2]⟩
   · rw [cntI_out k]; exact g
  refine chIn_ok hF _ (fun k1 k2 => ?_) fun k => last ?_
  · obtain ⟨e, g⟩ := cntI_in k1 k2
    rw [hf] at e g
    refine chIn_ok hF _ (fun l1 l2 => hR _ ?_) fun l => hR _ ?_
    · obtain ⟨e3, g3⟩ := cntI_in l1 l2
      rw [e] at g3
      rw [e3, e]
      refine ⟨rfl, by omega, fun i hi => ?_⟩
      match i, hi with
      | 0, _ => rw [g]; rfl
      | 1, _ => rw [g3]; rfl
    · rw [cntI_out l, e]
      exact ⟨rfl, by omega, fun i hi => by rw [show i = 0 by omega, g]⟩
  · rw [cntI_out k]; exact hf
 | some p =>
  have last : ∀ g, ChIs z a b g (cntI z a b (2 * y + 1)) → chIn z a b (sI z.F (2 * y + 1)).t (chPush g (sI z.F (2 * y + 1)).t R) (R g) := fun g hg => by
   refine chIn_ok hF _ (fun k1 k2 => ?_) fun k => hR _ ?_
   · obtain ⟨e, g2⟩ := cntI_in k1 k2
     exact chPush_ok hg g2.symm (by omega) fun f' hf' => hR _ (e ▸ hf')
   · rw [cntI_out k]; exact hg
  refine chIn_ok hF _ (fun k1 k2 => ?_) fun k => last _ ?_
  · obtain ⟨e, g⟩ := cntI_in k1 k2
    exact chPush_ok hf g.symm (by omega) fun f' hf' => last _ (e ▸ hf')
  · rw [cntI_out k]; exact hf
theorem ch_vc2 {z : Zt} {a b y : Int} (h : ChC z a b y) {f : ChF} (hf : ChIs z a b f (cntI z a b (2 * y))) {R : ChF → Prop} {E : Prop} (hR : ∀ f', ChC z a b (y + 1) → ChIs z a b f' (cntI z a b (2 * (y + 1))) → R f') (hE : y = yAt b + 2 → E) : chVC2 z a b y f R E := by
 have hb := asked_bd h.askb
 have ha := h.aska
 have hb2 := h.askb
 have lo := h.lo
 have hi := h.hi
 unfold Asked at ha hb2
 unfold chVC2
 refine brcT (decide_eq_true ⟨by omega, by omega⟩) ?_
 rintro _ rfl
 rw [jU (by omega)]
 refine kB (fun c => ?_) fun c => hE ?_
 · have c := of_decide_eq_true c
   refine brcT (decide_eq_true ⟨h.foot, by omega, by omega⟩) ?_
   rintro _ rfl _ rfl _ rfl _ rfl _ rfl _ rfl _ rfl
   exact chTwo_ok h hf fun f' hf' => hR f' { h with lo := by omega, hi := by omega } hf'
 · have c := of_decide_eq_false c
   omega
noncomputable def chHx2 (z : Zt) (a b : Int) (x : Int × ChF) : St := chH2 z a b x.1 x.2
noncomputable def chMu2 {α : Type} (b : Int) (x : Int × α) : Nat := (yAt b + 2 - x.1).toNat
noncomputable def chG2 (z : Zt) (a b : Int) (x : Int × ChF) (Q : Ex → St → Prop) : Prop :=
 (ChC z a b x.1 ∧ ChIs z a b x.2 (cntI z a b (2 * x.1))) ∧
 ((ChIs z a b none (chN z a b) → Q (.exit 2) (chY z none)) ∧ ∀ n c, ChIs z a b (some (n, c)) (chN z a b) → Q (.exit 2) (chY z (some (n, c))))
noncomputable def chHx3 (z : Zt) (a b : Int) (x : Int × (Nat × (Nat → Nat → AV))) : St := chH3 z a b x.1 x.2.1 x.2.2
noncomputable def chG3 (z : Zt) (a b : Int) (x : Int × (Nat × (Nat → Nat → AV))) (Q : Ex → St → Prop) : Prop :=
 (ChC z a b x.1 ∧ ChIs z a b (some x.2) (cntI z a b (2 * x.1))) ∧
 ∀ n c, ChIs z a b (some (n, c)) (chN z a b) → Q (.exit 2) (chZ z n c)
theorem cnt_end {z : Zt} {a b : Int} (h : ChC z a b (yAt b + 2)) : cntI z a b (2 * (yAt b + 2)) = chN z a b := by
 have h1 := (ix_near h.foot h.askb).2
 unfold cntI chN nF
 rw [if_pos h.ft]
 omega
theorem cnt_start {z : Zt} {a b : Int} (h : ChC z a b (yAt a - 1)) : cntI z a b (2 * (yAt a - 1)) = nR z a b := by
 have h1 := ix_mono h.foot (fCur_ge z a)
 have h2 := (ix_near h.foot h.aska).1
 unfold cntI
 omega
theorem ch_nx {z : Zt} {a b y : Int} (h : ChC z a b (y + 1)) : IntKind.wrap .i64 (y + 1) = y + 1 := by
 have ha := h.aska
 have hb := h.askb
 have lo := h.lo
 have hi := h.hi
 unfold Asked at ha hb
 exact jU (by omega)
theorem ch_vcx2 {z : Zt} {a b : Int} {x : Int × ChF} {Q : Ex → St → Prop} (hG : chG2 z a b x Q) : chVC2 z a b x.1 x.2 (fun f => again (chHx2 z a b) (chMu2 b) (chG2 z a b) x Q (some (chH2 z a b (IntKind.wrap .i64 (x.1 + 1)) f))) (left Q (.exit 2) (some (chY z x.2))) := by
 obtain ⟨y, f⟩ := x
 obtain ⟨⟨h, hf⟩, q1, q2⟩ := hG
 simp only at h hf ⊢
 refine ch_vc2 h hf (fun f' h' hf' => ⟨(y + 1, f'), ?_, ⟨⟨h', hf'⟩, q1, q2⟩, ?_⟩) fun e => ?_
 · have := h'.hi
   unfold chMu2; simp only; omega
 · rw [ch_nx h']; rfl
 · subst e
   rw [cnt_end h] at hf
   cases f with
   | none => exact ⟨_, rfl, q1 hf⟩
   | some p => obtain ⟨n, c⟩ := p; exact ⟨_, rfl, q2 n c hf⟩
theorem ch_vcx3 {z : Zt} {a b : Int} {x : Int × (Nat × (Nat → Nat → AV))} {Q : Ex → St → Prop} (hG : chG3 z a b x Q) : chVC2 z a b x.1 (some (x.2.1, x.2.2)) (fun f => chGet f fun n c => again (chHx3 z a b) (chMu2 b) (chG3 z a b) x Q (some (chH3 z a b (IntKind.wrap .i64 (x.1 + 1)) n c))) (left Q (.exit 2) (some (chZ z x.2.1 x.2.2))) := by
 obtain ⟨y, n, c⟩ := x
 obtain ⟨⟨h, hf⟩, q2⟩ := hG
 simp only at h hf ⊢
 refine ch_vc2 h hf (fun f' h' hf' => ?_) fun e => ?_
 · cases f' with
   | none =>
    have hf' : cntI z a b (2 * (y + 1)) = 0 := hf'
    have : cntI z a b (2 * y) ≤ cntI z a b (2 * (y + 1)) := by unfold cntI; omega
    have := hf.2.1
    omega
   | some p =>
    obtain ⟨n', c'⟩ := p
    refine ⟨(y + 1, (n', c')), ?_, ⟨⟨h', hf'⟩, q2⟩, ?_⟩
    · have := h'.hi
      unfold chMu2; simp only; omega
    · rw [ch_nx h']; rfl
 · subst e
   rw [cnt_end h] at hf
   exact ⟨_, rfl, q2 n c hf⟩
set_option maxRecDepth 100000 in
theorem ch_noloops : Code.loops (loopOf Tryz.prog 79 0) = [] := by kernel_rfl
set_option maxRecDepth 100000 in
theorem loops_ch : loopsOf Tryz.prog 79 = [loopOf Tryz.prog 79 0, loopOf Tryz.prog 79 1] := by kernel_rfl
set_option maxRecDepth 100000 in
theorem first_ch1 : Code.first (loopOf Tryz.prog 79 0) = 8 := by kernel_rfl
set_option maxRecDepth 100000 in
theorem first_ch2 : Code.first (loopOf Tryz.prog 79 1) = 15 := by kernel_rfl
attribute [local irreducible] aroundN
theorem no_lc {P : Program} {b : Code} : ∀ c ∈ Code.loops b, ∀ lc, (noLoops : LTab Prop) (Code.first c) = some lc → LcOk P c lc := fun c _ lc h => by cases h
theorem ch_hround1 (z : Zt) (a b : Int) (x : Nat × ChF) (Q : Ex → St → Prop) (hG : chG1 z a b x Q) : aroundN PA Tryz.prog (tab []) noLoops 12 (loopOf Tryz.prog 79 0) (chHx1 z a b x) (fun st' => again (chHx1 z a b) (chMu1 z) (chG1 z a b) x Q (canon chCS1 st')) (fun e st' => left Q e (canon chCSX st')) := by
 have hq := ch_vc1 hG
 obtain ⟨k, f⟩ := x
 cases f with
 | none => exact Eq.mpr (ch_round1a z a b (k : Int) (again (chHx1 z a b) (chMu1 z) (chG1 z a b) (k, none) Q) (left Q)) hq
 | some p => obtain ⟨n, c⟩ := p; exact Eq.mpr (ch_round1b z a b (k : Int) n c (again (chHx1 z a b) (chMu1 z) (chG1 z a b) (k, some (n, c)) Q) (left Q)) hq
theorem ch_hround2 (z : Zt) (a b : Int) (x : Int × ChF) (Q : Ex → St → Prop) (hG : chG2 z a b x Q) : aroundN PA Tryz.prog (tab [(63, cyYear), (118, cyRyear)]) noLoops 12 (loopOf Tryz.prog 79 1) (chHx2 z a b x) (fun st' => again (chHx2 z a b) (chMu2 b) (chG2 z a b) x Q (canon chCS2 st')) (fun e st' => left Q e (canon chCSY st')) := by
 have hq := ch_vcx2 hG
 obtain ⟨k, f⟩ := x
 cases f with
 | none => exact Eq.mpr (ch_round2a z a b k (again (chHx2 z a b) (chMu2 b) (chG2 z a b) (k, none) Q) (left Q)) hq
 | some p => obtain ⟨n, c⟩ := p; exact Eq.mpr (ch_round2b z a b k n c (again (chHx2 z a b) (chMu2 b) (chG2 z a b) (k, some (n, c)) Q) (left Q)) hq
theorem ch_hround3 (z : Zt) (a b : Int) (x : Int × (Nat × (Nat → Nat → AV))) (Q : Ex → St → Prop) (hG : chG3 z a b x Q) : aroundN PA Tryz.prog (tab [(63, cyYear), (118, cyRyear)]) noLoops 12 (loopOf Tryz.prog 79 1) (chHx3 z a b x) (fun st' => again (chHx3 z a b) (chMu2 b) (chG3 z a b) x Q (canon chCS3 st')) (fun e st' => left Q e (canon chCSZ st')) := by
 have hq := ch_vcx3 hG
 obtain ⟨k, n, c⟩ := x
 exact Eq.mpr (ch_round3 z a b k n c (again (chHx3 z a b) (chMu2 b) (chG3 z a b) (k, (n, c)) Q) (left Q)) hq
theorem ch_lc1 (z : Zt) (a b : Int) (x : Nat × ChF) : LcOk Tryz.prog (loopOf Tryz.prog 79 0) (lcOf chCS1 (chHx1 z a b) (chG1 z a b) x) :=
 lc_ok (T := tab []) mixed bE (LT := noLoops) (n := 12) (noLoops_in ch_noloops) (c := chCS1) (cX := chCSX) rfl (ch_hround1 z a b) x
theorem chT_ok : TabOk Tryz.prog (tab [(63, cyYear), (118, cyRyear)]) := kD cyYearR_ok (kD cyRyear_ok bE)
theorem ch_lc2 (z : Zt) (a b : Int) (x : Int × ChF) : LcOk Tryz.prog (loopOf Tryz.prog 79 1) (lcOf chCS2 (chHx2 z a b) (chG2 z a b) x) :=
 lc_ok (T := tab [(63, cyYear), (118, cyRyear)]) mixed chT_ok (LT := noLoops) (n := 12) no_lc (c := chCS2) (cX := chCSY) rfl (ch_hround2 z a b) x
theorem ch_lc3 (z : Zt) (a b : Int) (x : Int × (Nat × (Nat → Nat → AV))) : LcOk Tryz.prog (loopOf Tryz.prog 79 1) (lcOf chCS3 (chHx3 z a b) (chG3 z a b) x) :=
 lc_ok (T := tab [(63, cyYear), (118, cyRyear)]) mixed chT_ok (LT := noLoops) (n := 12) no_lc (c := chCS3) (cX := chCSZ) rfl (ch_hround3 z a b) x
def kOf (i : Nat) (st : St) : Int := match (st.t[i]?).join with
 | some (.int _ n) => n
 | _ => 0
noncomputable def lcCh (z : Zt) (a b : Int) : St → (Ex → St → Prop) → Prop := fun st Q => brc (Nat.beq st.h.length 1) (lcOf chCS2 (chHx2 z a b) (chG2 z a b) (kOf 10 st, none) st Q) (lcOf chCS3 (chHx3 z a b) (chG3 z a b) (kOf 10 st, chOf st) st Q)
theorem lcCh_ok (z : Zt) (a b : Int) : LcOk Tryz.prog (loopOf Tryz.prog 79 1) (lcCh z a b) := fun st Q ρ W w p h hs r n => by
 unfold lcCh at h
 cases hb : Nat.beq st.h.length 1 with
 | true => rw [hb] at h; exact ch_lc2 z a b (kOf 10 st, none) st Q ρ W w p h hs r n
 | false => rw [hb] at h; exact ch_lc3 z a b (kOf 10 st, chOf st) st Q ρ W w p h hs r n
noncomputable def chLT (z : Zt) (a b : Int) : LTab Prop := fun k => if k = 8 then some (lcOf chCS1 (chHx1 z a b) (chG1 z a b) (0, none)) else if k = 15 then some (lcCh z a b) else none
theorem chLT_ok (z : Zt) (a b : Int) : LtOk Tryz.prog 79 (chLT z a b) := lt_two loops_ch first_ch1 first_ch2 (by omega) (ch_lc1 z a b (0, none)) (lcCh_ok z a b)
def SHOWc1 (z : Zt) (a b : Int) (X : Prop) (B : Nat → (Nat → Nat → AV) → Prop) : Prop :=
 isH (some (chH1 z a b 0 none)) (chHx1 z a b (0, none)) ∧
 ((ZtOk z ∧ a ≤ b ∧ 0 ≤ z.n ∧ ChIs z a b none (cnt1 z a b 0)) ∧ ((ChIs z a b none (nR z a b) → X) ∧ ∀ n c, ChIs z a b (some (n, c)) (nR z a b) → B n c))
def SHOWc2 (z : Zt) (a b y : Int) (X : Prop) (B : Nat → (Nat → Nat → AV) → Prop) : Prop :=
 isH (some (chH2 z a b y none)) (chHx2 z a b (y, none)) ∧
 ((ChC z a b y ∧ ChIs z a b none (cntI z a b (2 * y))) ∧ ((ChIs z a b none (chN z a b) → X) ∧ ∀ n c, ChIs z a b (some (n, c)) (chN z a b) → B n c))
def SHOWc3 (z : Zt) (a b y : Int) (p : Nat × (Nat → Nat → AV)) (B : Nat → (Nat → Nat → AV) → Prop) : Prop :=
 isH (some (chH3 z a b y p.1 p.2)) (chHx3 z a b (y, p)) ∧
 ((ChC z a b y ∧ ChIs z a b (some p) (cntI z a b (2 * y))) ∧ ∀ n c, ChIs z a b (some (n, c)) (chN z a b) → B n c)
set_option maxRecDepth 100000 in
theorem rchg_vc (z : Zt) (a b : Int) (K : AV → Prop) : AFL (tab [(25, zyRight), (63, cyYear)]) (chLT z a b) 12 79 [.agg (avZ z), .int .i64 a, .int .i64 b] K =
 (brc (tyR (Zt.n z) (znRow z) && bdZ (Zt.F z)) (∀ m0 : Bool, m0 = decide (ZtOk z) → brc (!m0) (K (AV.tup [.nilsl, .int .i64 1])) (brc (decide (-9223372036854775808 ≤ a ∧ a ≤ 9223372036854775807)) (∀ m1 : Int, m1 = yAt a → brc (decide (m1 ≥ -4714)) (brc (!decide (m1 ≤ 294278)) (K (AV.tup [.nilsl, .int .i64 10])) (brc (decide (-9223372036854775808 ≤ b ∧ b ≤ 9223372036854775807)) (∀ m2 : Int, m2 = yAt b → brc (decide (m2 ≥ -4714)) (brc (!decide (m2 ≤ 294278)) (K (AV.tup [.nilsl, .int .i64 10])) (brc (decide (b > a)) (brc (decide (IntKind.wrap .i64 (b - a) > 4194304)) (K (AV.tup [.nilsl, .int .i64 10])) (SHOWc1 z a b (brc (!Ft.z (Zt.F z)) (K (AV.tup [.nilsl, .int .i64 0])) (brc (decide (-9223372036854775808 ≤ a ∧ a ≤ 9223372036854775807)) (∀ m3 : Int, m3 = yAt a → SHOWc2 z a b (IntKind.wrap .i64 (m3 - 1)) (K (AV.tup [.nilsl, .int .i64 0])) fun n c => brc (Nat.ble n n && true) (K (AV.tup [.nv 1 n c, .int .i64 0])) False) False)) fun n c => brc (!Ft.z (Zt.F z)) (brc (Nat.ble n n && true) (K (AV.tup [.nv 1 n c, .int .i64 0])) False) (brc (decide (-9223372036854775808 ≤ a ∧ a ≤ 9223372036854775807)) (∀ m3 : Int, m3 = yAt a → SHOWc3 z a b (IntKind.wrap .i64 (m3 - 1)) (n, c) fun n c => brc (Nat.ble n n && true) (K (AV.tup [.nv 1 n c, .int .i64 0])) False) False))) (SHOWc1 z a b (brc (!Ft.z (Zt.F z)) (K (AV.tup [.nilsl, .int .i64 0])) (brc (decide (-9223372036854775808 ≤ a ∧ a ≤ 9223372036854775807)) (∀ m3 : Int, m3 = yAt a → SHOWc2 z a b (IntKind.wrap .i64 (m3 - 1)) (K (AV.tup [.nilsl, .int .i64 0])) fun n c => brc (Nat.ble n n && true) (K (AV.tup [.nv 1 n c, .int .i64 0])) False) False)) fun n c => brc (!Ft.z (Zt.F z)) (brc (Nat.ble n n && true) (K (AV.tup [.nv 1 n c, .int .i64 0])) False) (brc (decide (-9223372036854775808 ≤ a ∧ a ≤ 9223372036854775807)) (∀ m3 : Int, m3 = yAt a → SHOWc3 z a b (IntKind.wrap .i64 (m3 - 1)) (n, c) fun n c => brc (Nat.ble n n && true) (K (AV.tup [.nv 1 n c, .int .i64 0])) False) False)))) (K (AV.tup [.nilsl, .int .i64 10]))) False)) (K (AV.tup [.nilsl, .int .i64 10]))) False)) False) := by kernel_rfl
end Go.Proofs.YtimgphlfaninnaaGreat.P
namespace Go.Proofs.YtimgphlfaninnaaGreat.A
open Go Go.RowKit
set_option linter.unusedVariables false
set_option linter.unusedSimpArgs false
def HEq1 (x y : Option (Option Ob)) : Prop := x = y ∨ ∃ e s len c c', x = some (some (.vec e s len c)) ∧ y = some (some (.vec e s len c')) ∧ ∀ i j, i < len → j < s → c i j = c' i j
def HpEq (h h' : Heap) : Prop := ∀ n : Nat, HEq1 h[n]? h'[n]?
theorem HpEq.of {h h' : Heap} (he : HpEq h h') {n : Nat} {y : Ob} (hy : h'[n]? = some (some y)) : ∃ x, h[n]? = some (some x) ∧ x.void = y.void ∧ x.excl = y.excl ∧ (y ≠ .dead → x ≠ .dead) ∧ ∀ {ρ : Names} {W w : World} {b o : Nat}, Holds ρ W w b o x → Holds ρ W w b o y := by
 rcases he n with e | ⟨e, s, len, c, c', e1, e2, e3⟩
 · exact ⟨y, e.trans hy, rfl, rfl, id, id⟩
 · rw [e2] at hy
   simp only [Option.some.injEq] at hy
   subst hy
   refine ⟨_, e1, rfl, rfl, fun _ k => (by cases k), fun {ρ W w b o} h => ?_⟩
   obtain ⟨h1, h2, L, h3, h4, h5, h6⟩ := h
   exact ⟨h1, h2, L, h3, h4, h5, fun i j hi hj => by rw [← e3 i j hi hj]; exact h6 i j hi hj⟩
theorem HpEq.from {h h' : Heap} (he : HpEq h h') {n : Nat} {x : Ob} (hx : h[n]? = some (some x)) : ∃ y, h'[n]? = some (some y) := by
 rcases he n with e | ⟨e, s, len, c, c', e1, e2, e3⟩
 · exact ⟨x, e.symm.trans hx⟩
 · exact ⟨_, e2⟩
theorem Rel.hpEq {ρ : Names} {W w : World} {h h' : Heap} (r : Rel ρ W h w) (he : HpEq h h') : Rel ρ W h' w := by
 refine ⟨r.bel, fun n p hp => ?_, fun n y hy => ?_, fun n y b o hy hex hp m p z hm hpb hz hd => ?_⟩
 · obtain ⟨⟨x, hx⟩, h2⟩ := r.dom n p hp
   exact ⟨he.from hx, h2⟩
 · obtain ⟨x, h1, h2, h3, h4, h5⟩ := he.of hy
   rcases r.obs n x h1 with q | ⟨b, o, q1, q2⟩
   · exact .inl (h2 ▸ q)
   · exact .inr ⟨b, o, q1, h5 q2⟩
 · obtain ⟨x, h1, h2, h3, h4, h5⟩ := he.of hy
   obtain ⟨x', k1, k2, k3, k4, k5⟩ := he.of hz
   exact r.sep n x b o h1 (h3 ▸ hex) hp m p x' hm hpb k1 (k4 hd)
def lcOfE {ι : Type} (c : CS) (H : ι → St) (G : ι → (Ex → St → Prop) → Prop) (x : ι) : St → (Ex → St → Prop) → Prop := fun st Q => brc (Nat.beq st.h.length c.m) ((∃ s, canon c st = some s ∧ s.t = (H x).t ∧ s.d = (H x).d ∧ HpEq s.h (H x).h) ∧ G x Q) False
theorem lcOfE_ok {P : Program} {b : Code} {ι : Type} {c : CS} {H : ι → St} {G : ι → (Ex → St → Prop) → Prop} {x : ι} (h : LcOk P b (lcOf c H G x)) (h1 : canon c (H x) = some (H x)) (h2 : (H x).h.length = c.m) : LcOk P b (lcOfE c H G x) := by
 intro st Q ρ W w a hlc hs r n bf k cs hro hb hroom
 obtain ⟨g1, ⟨s, g2, g3, g4, g5⟩, g6⟩ := brc_false.1 hlc
 have g1 := Nat.eq_of_beq_eq_true g1
 have hs2 := canonS_ok g2 hs
 have hs3 : RelS (rnm ρ c.m (sig c st)) W (H x) a w := ⟨g3 ▸ hs2.t, hs2.h.hpEq g5, g4 ▸ hs2.d⟩
 have hl : lcOf c H G x (H x) Q := brc_false.2 ⟨by rw [h2]; exact Nat.beq_refl _, h1, g6⟩
 obtain ⟨e, a', w', ⟨e', st', ρ', q1, q2, q3, q4⟩, harr⟩ := h (H x) Q _ W w a hl hs3 r n bf k cs hro hb hroom
 refine ⟨e, a', w', ⟨e', st', ρ', q1, fun q p hq => q2 q p ?_, q3, q4⟩, harr⟩
 obtain ⟨⟨y, hy⟩, _⟩ := hs.h.dom q p hq
 have := (List.getElem?_eq_some_iff.1 hy).1
 rw [rnm_low _ q (by omega)]
 exact hq
end Go.Proofs.YtimgphlfaninnaaGreat.A
namespace Go.Proofs.YtimgphlfaninnaaGreat.P
open Go.RowKit Go.Proofs.YtimgphlfaninnaaGreat.Civ Go.Proofs.YtimgphlfaninnaaGreat.Ft Go.Proofs.YtimgphlfaninnaaGreat.Zn
set_option linter.unusedVariables false
set_option linter.unusedSimpArgs false
open A
noncomputable def csChg : Con
 | [.agg l, .int .i64 a, .int .i64 b] => match rdZ l with
  | some (p, z) => some (p && decide (ZtOk z ∧ Asked a ∧ Asked b ∧ a ≤ b ∧ b ≤ a + 4194304), .tup [.nv 1 (chN z a b) (cI (chC z a b)), .int .i64 0])
  | none => none
 | _ => none
theorem le_tup2 {x x' y : AV} (h : ∀ (W : World) (n0 : Nat) (V : Value), RV noNames W x V → Fr n0 3 x V → RV noNames W x' V ∧ Fr n0 3 x' V) : AVLe (.tup [x, y]) (.tup [x', y]) := by
 intro W n0 V hv hF
 cases hv with | tup hl =>
 cases hl with | cons h1 hl =>
 cases hl with | cons h2 hl =>
 cases hl
 rename_i V1 V2
 have hF : ∀ (i : Nat) (v : AV) (V : Value), [x, y][i]? = some v → ([V1, V2] : List Value).toArray[i]? = some V → Fr n0 3 v V := hF
 have a := h W n0 _ h1 (hF 0 _ _ rfl rfl)
 refine ⟨.tup (.cons a.1 (.cons h2 .nil)), ?_⟩
 show ∀ (i : Nat) (v : AV) (V : Value), [x', y][i]? = some v → ([V1, V2] : List Value).toArray[i]? = some V → Fr n0 3 v V
 intro i v V e1 e2
 match i with
 | 0 => simp at e1 e2; subst e1 e2; exact a.2
 | 1 => simp at e1 e2; subst e1 e2; exact hF 1 _ _ rfl rfl
 | i + 2 => simp at e1
theorem res_nil {n : Nat} {g : Nat → Int} (h : n = 0) : Res (.tup [.nv 1 n (cI g), .int .i64 0]) (.tup [.nilsl, .int .i64 0]) := by
 subst h
 refine ⟨rfl, le_tup2 fun W n0 V hv hF => ?_⟩
 cases hv
 exact ⟨.nv0 _ _, trivial⟩
theorem res_nv {n : Nat} {g : Nat → Int} {c : Nat → Nat → AV} (h : ∀ i, i < n → c i 0 = .int .i64 (g i)) : Res (.tup [.nv 1 n (cI g), .int .i64 0]) (.tup [.nv 1 n c, .int .i64 0]) := by
 refine ⟨rfl, le_tup2 fun W n0 V hv hF => ?_⟩
 cases hv with
 | nv0 => exact ⟨.nv0 _ _, trivial⟩
 | nv s len cap c V hb hl hc hr hf =>
  refine ⟨.nv 1 n cap (cI g) V hb hl hc (fun i j hi hj => ?_) fun i j hi hj => rfl, hF⟩
  have k := hr i j hi hj
  rw [show j = 0 by omega] at k ⊢
  rw [h i hi] at k
  exact k
theorem res_f {z : Zt} {a b : Int} {n : Nat} {c : Nat → Nat → AV} (h : ChIs z a b (some (n, c)) (chN z a b)) : brc (Nat.ble n n && true) (Res (.tup [.nv 1 (chN z a b) (cI (chC z a b)), .int .i64 0]) (.tup [.nv 1 n c, .int .i64 0])) False := by
 obtain ⟨rfl, _, h3⟩ := h
 exact brcT (by rw [Nat.ble_eq_true_of_le (Nat.le_refl _)]; rfl) (res_nv h3)
theorem rchg_ok {z : Zt} {a b : Int} (hbd : bdZ z.F = true) (hz : ZtOk z) (ha : Asked a) (hb : Asked b) (hab : a ≤ b) (hn : b ≤ a + 4194304) : AFL (tab [(25, zyRight), (63, cyYear)]) (chLT z a b) 12 79 [.agg (avZ z), .int .i64 a, .int .i64 b] (Res (.tup [.nv 1 (chN z a b) (cI (chC z a b)), .int .i64 0])) := by
 have a1 := asked_bd ha
 have b1 := asked_bd hb
 have a2 := ha
 have b2 := hb
 unfold Asked at a2 b2
 rw [rchg_vc]
 refine brcT (tyZ z hbd) ?_
 rintro _ rfl
 refine brcF (by simp [hz]) (brcT (decide_eq_true ⟨by omega, by omega⟩) ?_)
 rintro _ rfl
 refine brcT (decide_eq_true a2.1) (brcF (by simp; exact a2.2) (brcT (decide_eq_true ⟨by omega, by omega⟩) ?_))
 rintro _ rfl
 refine brcT (decide_eq_true b2.1) (brcF (by simp; exact b2.2) ?_)
 have w1 : IntKind.wrap .i64 (yAt a - 1) = yAt a - 1 := jU (by omega)
 have tyb : decide (-9223372036854775808 ≤ a ∧ a ≤ 9223372036854775807) = true := decide_eq_true ⟨by omega, by omega⟩
 have no : z.F.z = false → nR z a b = chN z a b := fun q => by unfold chN nF; rw [if_neg (by rw [q]; decide)]; rfl
 have ym := yAt_mono ha hb hab
 have cc : z.F.z = true → ChC z a b (yAt a - 1) := fun q => ⟨hz, hbd, q, hab, ha, hb, hn, Int.le_refl _, by omega⟩
 have m1 : SHOWc1 z a b (brc (!z.F.z) (Res (.tup [.nv 1 (chN z a b) (cI (chC z a b)), .int .i64 0]) (.tup [.nilsl, .int .i64 0])) (brc (decide (-9223372036854775808 ≤ a ∧ a ≤ 9223372036854775807)) (∀ m3 : Int, m3 = yAt a → SHOWc2 z a b (IntKind.wrap .i64 (m3 - 1)) (Res (.tup [.nv 1 (chN z a b) (cI (chC z a b)), .int .i64 0]) (.tup [.nilsl, .int .i64 0])) fun n c => brc (Nat.ble n n && true) (Res (.tup [.nv 1 (chN z a b) (cI (chC z a b)), .int .i64 0]) (.tup [.nv 1 n c, .int .i64 0])) False) False))
  (fun n c => brc (!z.F.z) (brc (Nat.ble n n && true) (Res (.tup [.nv 1 (chN z a b) (cI (chC z a b)), .int .i64 0]) (.tup [.nv 1 n c, .int .i64 0])) False) (brc (decide (-9223372036854775808 ≤ a ∧ a ≤ 9223372036854775807)) (∀ m3 : Int, m3 = yAt a → SHOWc3 z a b (IntKind.wrap .i64 (m3 - 1)) (n, c) fun n c => brc (Nat.ble n n && true) (Res (.tup [.nv 1 (chN z a b) (cI (chC z a b)), .int .i64 0]) (.tup [.nv 1 n c, .int .i64 0])) False) False)) := by
  refine ⟨rfl, ⟨hz, hab, Nat.zero_le _, ?_⟩, fun h => kB (fun q => ?_) fun q => brcT tyb ?_, fun n c h => kB (fun q => ?_) fun q => brcT tyb ?_⟩
  · show cnt1 z a b 0 = 0
    unfold cnt1; omega
  · have q : z.F.z = false := by simpa using q
    have h : nR z a b = 0 := h
    exact res_nil (by rw [← no q]; exact h)
  · have q : z.F.z = true := by simpa using q
    rintro _ rfl
    rw [w1]
    exact ⟨rfl, ⟨cc q, by rw [cnt_start (cc q)]; exact h⟩, fun h => res_nil h, fun n c h => res_f h⟩
  · have q : z.F.z = false := by simpa using q
    rw [no q] at h
    exact res_f h
  · have q : z.F.z = true := by simpa using q
    rintro _ rfl
    rw [w1]
    exact ⟨rfl, ⟨cc q, by rw [cnt_start (cc q)]; exact h⟩, fun n c h => res_f h⟩
 refine kB (fun q => brcF ?_ m1) fun q => m1
 have q := of_decide_eq_true q
 rw [jU (by omega)]
 exact decide_eq_false (by omega)
theorem csChg_ok : COk Tryz.prog 79 csChg := afl_con (kD rzRight_ok (kD cyYearR_ok bE)) (by kernel_rfl) fun args p v hc hp => by
 unfold csChg at hc
 split at hc
 case h_2 => cases hc
 split at hc
 case h_2 => cases hc
 rename_i a b _ q z hl
 simp only [Option.some.injEq, Prod.mk.injEq] at hc
 obtain ⟨rfl, rfl⟩ := hc
 rw [Bool.and_eq_true] at hp
 obtain ⟨rfl, hq⟩ := hp
 obtain ⟨k1, k2⟩ := rdZ_move hl
 obtain ⟨h1, h2, h3, h4, h5⟩ := of_decide_eq_true hq
 exact ⟨_, _, _, fun w A hA => rl_1 (fun V h => k2 h) hA, chLT_ok z a b, rchg_ok k1 h1 h2 h3 h4 h5⟩
end Go.Proofs.YtimgphlfaninnaaGreat.P
