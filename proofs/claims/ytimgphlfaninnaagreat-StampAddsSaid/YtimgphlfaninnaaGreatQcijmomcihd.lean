import Derived.Test.YtimgphlfaninnaaGreatQjhnpenaine
import Derived.Test.YtimgphlfaninnaaGreatQciogboaici
import Derived.Test.YtimgphlfaninnaaGreatQdfoehbdgao
import Derived.Test.YtimgphlfaninnaaGreatQjnpockodeo
import Derived.Test.YtimgphlfaninnaaGreatQdnpmmldpid
import Derived.Test.YtimgphlfaninnaaGreatQmljkdhalhg
import Derived.Test.YtimgphlfaninnaaGreatQdodonhnjbp
namespace Go.Proofs.YtimgphlfaninnaaGreat.P
open Go.RowKit Go.Proofs.YtimgphlfaninnaaGreat.Ft Go.Proofs.YtimgphlfaninnaaGreat.Zn
set_option linter.unusedVariables false
set_option linter.unusedSimpArgs false
open A
theorem kz_mono (z : Zt) {u v : Int} (h : u ≤ v) : ∀ n, kz z u n ≤ kz z v n
 | 0 => Nat.le_refl _
 | n + 1 => by
  have ih := kz_mono z h n
  have hl := kz_le z u n
  unfold kz
  split
  · rw [if_pos (by omega)]; exact Nat.le_refl _
  · split
    · omega
    · exact ih
theorem acR_keep {z : Zt} {u a b : Int} : ∀ (m k : Nat) (s : Ac), InC z u a b s → k + m ≤ kz z b z.n → (∀ j, k ≤ j → j < z.n → s.fr < z.ta j) → InC z u a b (acR z u m k s)
 | 0, _, s, h, _, _ => h
 | m + 1, k, s, h, hk, hj => by
  have hle := kz_le z b z.n
  have ht := hj k (Nat.le_refl _) (by omega)
  have htb := (kz_iff h.ok.rows b z.n k (Nat.le_refl _) (by omega)).1 (by omega)
  exact acR_keep m (k + 1) _ (in_next h ht htb) (by omega) fun j h1 h2 => rows_lt' h.ok.rows (by omega) h2
theorem acR_fr (z : Zt) (u : Int) : ∀ (m k : Nat) (s : Ac), (acR z u m k s).fr = if m = 0 then s.fr else z.ta (k + m - 1)
 | 0, _, s => rfl
 | m + 1, k, s => by
  have ih := acR_fr z u m (k + 1) (acS z u (z.ta k) s)
  show (acR z u m (k + 1) (acS z u (z.ta k) s)).fr = _
  rw [ih]
  by_cases h : m = 0
  · subst h; rfl
  · rw [if_neg h, if_neg (by omega)]
    congr 1; omega
theorem acF_keep {z : Zt} {u a b : Int} (hF : FtOk z.F) : ∀ (m : Nat) (i : Int) (s : Ac), InC z u a b s → i + m ≤ ix z.F b → s.fr < (sI z.F (i + 1)).t → InC z u a b (acF z u m i s)
 | 0, _, s, h, _, _ => h
 | m + 1, i, s, h, hk, hs => by
  have h1 := sI_le hF (i := i + 1) (j := ix z.F b) (by omega)
  have h2 := (ix_spec hF b).1
  exact acF_keep hF m (i + 1) _ (in_next h hs (by omega)) (by omega) (sI_lt hF (by omega))
def instF (u : Int) (s : Ac) : Int × Int := match s.f with
 | none => (u - s.l2, 2)
 | some (n, g) => (g 0, if n = 1 then 0 else 1)
noncomputable def sEnd (z : Zt) (u : Int) : Ac := if z.F.z = true then s2Of z u else s1Of z u
noncomputable def instZ (z : Zt) (u : Int) : Int × Int := instF u (acS z u (u + 57601) (sEnd z u))
noncomputable def iErr (z : Zt) (u : Int) : Int := if ZtOk z then (if Asked u ∧ Asked (u - 57600) ∧ Asked (u + 57600) then 0 else 10) else 1
noncomputable def instE (z : Zt) (u : Int) : Int × Int := if iErr z u = 0 then instZ z u else (0, 0)
def resI (x : Int × Int) : AV := inT x.1 x.2
theorem in_end0 {z : Zt} {u a b : Int} {s : Ac} (h : InC z u a b s) (hf : s.f = none) {K : AV → Prop} (hK : K (resI (instF u (acS z u (u + 57601) s)))) : inFin0 z u s K := by
 have h1 := h.bdf
 have h2 := h.bdu
 have h3 := h.off
 have h4 := h.l2
 unfold inFin0
 refine brcT (by rw [tyZ z h.bd, decide_eq_true (show ZtOk z ∧ Asked s.fr ∧ -9223372036854775808 ≤ s.fr ∧ s.fr ≤ 9223372036854775807 from ⟨h.ok, h.askf, by omega, by omega⟩)]; rfl) ?_
 rintro _ rfl _ rfl _ rfl
 rw [show IntKind.wrap .i64 (u - (atZ z s.fr).off) = u - (atZ z s.fr).off from jU (by omega), show IntKind.wrap .i64 (u - s.l2) = u - s.l2 from jU (by omega), show IntKind.wrap .i64 (u + 57600) = u + 57600 from jU (by omega)]
 have ef : (acS z u (u + 57601) s).f = if s.fr ≤ u - (atZ z s.fr).off ∧ u - (atZ z s.fr).off ≤ u + 57600 then some (1, fun _ => u - (atZ z s.fr).off) else none := by
  simp only [acS, hf, show u + 57601 - 1 = u + 57600 by omega]; rfl
 have el : (acS z u (u + 57601) s).l2 = if s.fr < u - (atZ z s.fr).off then (atZ z s.fr).off else s.l2 := rfl
 unfold instF at hK
 rw [ef, el] at hK
 have no : ¬ (s.fr ≤ u - (atZ z s.fr).off ∧ u - (atZ z s.fr).off ≤ u + 57600) → brc (decide (s.fr < u - (atZ z s.fr).off)) (K (inT (u - (atZ z s.fr).off) 2)) (K (inT (u - s.l2) 2)) := fun q => by
  rw [if_neg q] at hK
  refine kB (fun r => ?_) fun r => ?_
  · rw [if_pos (of_decide_eq_true r)] at hK; exact hK
  · rw [if_neg (of_decide_eq_false r)] at hK; exact hK
 refine kB (fun c1 => kB (fun c2 => ?_) fun c2 => no fun q => of_decide_eq_false c2 q.2) fun c1 => no fun q => of_decide_eq_false c1 q.1
 rw [if_pos ⟨of_decide_eq_true c1, of_decide_eq_true c2⟩] at hK
 exact kB (fun _ => hK) fun _ => hK
theorem in_one {n : Nat} {x : Int} {K : AV → Prop} (hn : 0 < n) (hK : K (resI (x, if n = 1 then 0 else 1))) : inOne n x K := by
 unfold inOne
 have t1 : decide (0 < (n : Int)) = true := decide_eq_true (by omega)
 have t2 : decide (Int.toNat 0 < n) = true := decide_eq_true (by simpa using hn)
 rw [t1, t2]
 refine kB (fun c => brcT rfl (brcT rfl ?_)) fun c => brcT rfl (brcT rfl ?_)
 · have : n = 1 := by simp at c; omega
   rw [if_pos this] at hK; exact hK
 · have : ¬ n = 1 := by simp at c; omega
   rw [if_neg this] at hK; exact hK
theorem in_many {n : Nat} {c : Nat → Int} {w : Int} {K : AV → Prop} (hn : 0 < n) (hK : K (resI (c 0, if n = 1 then 0 else 1))) : inMany n c w K := by
 unfold inMany
 refine kB (fun q => ?_) fun _ => in_one hn hK
 simp at q; omega
theorem in_end1 {z : Zt} {u a b : Int} {s : Ac} (h : InC z u a b s) {n : Nat} {c : Nat → Int} (hf : s.f = some (n, c)) {K : AV → Prop} (hK : K (resI (instF u (acS z u (u + 57601) s)))) : inFin1 z u s n c K := by
 have h1 := h.bdf
 have h2 := h.bdu
 have h3 := h.off
 have h4 := h.l2
 have hn := h.pos n c hf
 have hc := h.cnt
 rw [hf] at hc
 have hc : (n : Int) ≤ s.fr - a := hc
 have hhi := h.hi
 have hb := h.eb
 have ha := h.ea
 unfold inFin1
 refine brcT (by rw [tyZ z h.bd, decide_eq_true (show ZtOk z ∧ Asked s.fr ∧ -9223372036854775808 ≤ s.fr ∧ s.fr ≤ 9223372036854775807 from ⟨h.ok, h.askf, by omega, by omega⟩)]; rfl) ?_
 rintro _ rfl _ rfl _ rfl
 rw [show IntKind.wrap .i64 (u - (atZ z s.fr).off) = u - (atZ z s.fr).off from jU (by omega), show IntKind.wrap .i64 (u - s.l2) = u - s.l2 from jU (by omega), show IntKind.wrap .i64 (u + 57600) = u + 57600 from jU (by omega)]
 have ef : (acS z u (u + 57601) s).f = if s.fr ≤ u - (atZ z s.fr).off ∧ u - (atZ z s.fr).off ≤ u + 57600 then some (n + 1, fun i => if decide (i < n) = true then c i else u - (atZ z s.fr).off) else some (n, c) := by
  simp only [acS, hf, show u + 57601 - 1 = u + 57600 by omega]; rfl
 unfold instF at hK
 rw [ef] at hK
 have no : ¬ (s.fr ≤ u - (atZ z s.fr).off ∧ u - (atZ z s.fr).off ≤ u + 57600) → K (resI (c 0, if n = 1 then 0 else 1)) := fun q => by
  rw [if_neg q] at hK; exact hK
 have nn : ¬ (s.fr ≤ u - (atZ z s.fr).off ∧ u - (atZ z s.fr).off ≤ u + 57600) → brc (decide (s.fr < u - (atZ z s.fr).off)) (inMany n c (u - (atZ z s.fr).off) K) (inMany n c (u - s.l2) K) := fun q => kB (fun _ => in_many hn (no q)) fun _ => in_many hn (no q)
 refine kB (fun c1 => kB (fun c2 => ?_) fun c2 => nn fun q => of_decide_eq_false c2 q.2) fun c1 => nn fun q => of_decide_eq_false c1 q.1
 rw [if_pos ⟨of_decide_eq_true c1, of_decide_eq_true c2⟩] at hK
 have hr : (Nat.beq n n && roomB (n + 1) 8) = true := by
  have r1 : Nat.beq n n = true := by simp
  have r2 : roomB (n + 1) 8 = true := by
   unfold roomB
   rw [Bool.and_eq_true]
   exact ⟨Nat.ble_eq_true_of_le (by unfold maxLen; omega), Nat.ble_eq_true_of_le (by omega)⟩
  rw [r1, r2]; rfl
 refine brcT hr ?_
 have hK := in_one (n := n + 1) (by omega) hK
 exact kB (fun _ => hK) fun _ => hK
theorem zinst_ok {z : Zt} {u : Int} (hb : bdZ z.F = true) (h1 : -9223372036854775808 ≤ u) (h2 : u ≤ 9223372036854775807) : AFLL (tab [(49, zyRight), (80, zyAt0), (119, zySearch), (92, cyYear), (152, cyStand 1)]) (inLG z u (IntKind.wrap .i64 (u - 57600)) (IntKind.wrap .i64 (u + 57600)) (x1Of z u) (x2Of z u)) 12 36 [.agg (avZ z), .int .i64 u] (Res (.tup [.int .i64 (instE z u).1, .int .i64 (instE z u).2, .int .i64 (iErr z u)])) := by
 rw [zinst_vc]
 have no : ∀ e : Int, iErr z u = e → e ≠ 0 → Res (.tup [.int .i64 (instE z u).1, .int .i64 (instE z u).2, .int .i64 (iErr z u)]) (AV.tup [.int .i64 0, .int .i64 0, .int .i64 e]) := fun e he h => by
  have : instE z u = (0, 0) := by unfold instE; rw [if_neg (by rw [he]; exact h)]
  rw [this, he]; exact zN rfl
 refine brcT (tyZ z hb) ?_
 rintro _ rfl
 refine kB (fun a => ?_) fun a => ?_
 · exact no 1 (by unfold iErr; rw [if_neg (by simpa using a)]) (by omega)
 have hz : ZtOk z := by simpa using a
 have far : ¬ (Asked u ∧ Asked (u - 57600) ∧ Asked (u + 57600)) → Res (.tup [.int .i64 (instE z u).1, .int .i64 (instE z u).2, .int .i64 (iErr z u)]) (AV.tup [.int .i64 0, .int .i64 0, .int .i64 10]) := fun h => no 10 (by unfold iErr; rw [if_pos hz, if_neg h]) (by omega)
 refine brcT (decide_eq_true ⟨h1, h2⟩) ?_
 rintro _ rfl
 refine kB (fun b => ?_) fun b => far fun q => of_decide_eq_false b q.1.1
 refine kB (fun c => far fun q => by simp at c; have := q.1.2; omega) fun c => ?_
 have hk : Asked u := ⟨of_decide_eq_true b, by simpa using c⟩
 have hub := asked_bd hk
 have ea : IntKind.wrap .i64 (u - 57600) = u - 57600 := jU (by omega)
 have eb : IntKind.wrap .i64 (u + 57600) = u + 57600 := jU (by omega)
 refine brcT (tyZ z hb) ?_
 rintro _ rfl
 refine kB (fun a => by simp [hz] at a) fun _ => ?_
 refine brcT (decide_eq_true (by omega)) ?_
 rintro _ rfl
 refine kB (fun b => ?_) fun b => far fun q => of_decide_eq_false b (by rw [ea]; exact q.2.1.1)
 refine kB (fun c => far fun q => by simp at c; rw [ea] at c; have := q.2.1.2; omega) fun c => ?_
 have hka : Asked (IntKind.wrap .i64 (u - 57600)) := ⟨of_decide_eq_true b, by simpa using c⟩
 refine brcT (decide_eq_true (by omega)) ?_
 rintro _ rfl
 refine kB (fun b => ?_) fun b => far fun q => of_decide_eq_false b (by rw [eb]; exact q.2.2.1)
 refine kB (fun c => far fun q => by simp at c; rw [eb] at c; have := q.2.2.2; omega) fun c => ?_
 have hkb : Asked (IntKind.wrap .i64 (u + 57600)) := ⟨of_decide_eq_true b, by simpa using c⟩
 have e0 : iErr z u = 0 := by unfold iErr; rw [if_pos hz, if_pos ⟨hk, ea ▸ hka, eb ▸ hkb⟩]
 have ei : instE z u = instF u (acS z u (u + 57601) (sEnd z u)) := by unfold instE; rw [if_pos e0]; rfl
 have fin : Res (.tup [.int .i64 (instE z u).1, .int .i64 (instE z u).2, .int .i64 (iErr z u)]) (resI (instF u (acS z u (u + 57601) (sEnd z u)))) := by
  rw [← ei, e0]; exact zN rfl
 refine brcT (by rw [tyZ z hb, decide_eq_true (show RowsOk z 0 ∧ ((Zt.n z : Nat) : Int) = ((Zt.n z : Nat) : Int) ∧ Zt.n z ≤ 8192 from ⟨hz.rows, rfl, hz.2.2.1⟩)]; rfl) ?_
 rintro _ rfl
 have i1 : InC z u (IntKind.wrap .i64 (u - 57600)) (IntKind.wrap .i64 (u + 57600)) (x1Of z u).2 := ⟨hz, hb, ea, eb, hk, hka, hkb, Int.le_refl _, by show IntKind.wrap .i64 (u - 57600) ≤ _; omega, by show (0 : Int) ≤ IntKind.wrap .i64 (u - 57600) - _; omega, by show (-57600 : Int) ≤ 0 ∧ (0 : Int) ≤ 57600; omega, fun n g e => by cases e⟩
 have m1 : (x1Of z u).1 ≤ kz z (IntKind.wrap .i64 (u + 57600)) z.n := kz_mono z (by omega) z.n
 have j1 : ∀ j, (x1Of z u).1 ≤ j → j < z.n → (x1Of z u).2.fr < z.ta j := fun j g1 g2 => by
  have := (kz_iff hz.rows (IntKind.wrap .i64 (u - 57600)) z.n j (Nat.le_refl _) g2)
  have g1 : kz z (IntKind.wrap .i64 (u - 57600)) z.n ≤ j := g1
  rcases Int.lt_or_le (IntKind.wrap .i64 (u - 57600)) (z.ta j) with q | q
  · exact q
  · have := this.2 q; omega
 have i2 : InC z u (IntKind.wrap .i64 (u - 57600)) (IntKind.wrap .i64 (u + 57600)) (s1Of z u) := acR_keep _ _ _ i1 (by have := m1; show kz z (IntKind.wrap .i64 (u - 57600)) z.n + (kz z (IntKind.wrap .i64 (u + 57600)) z.n - kz z (IntKind.wrap .i64 (u - 57600)) z.n) ≤ _; have : (x1Of z u).1 = kz z (IntKind.wrap .i64 (u - 57600)) z.n := rfl; omega) j1
 have c2 : z.F.z = true → (x2Of z u).2.fr ≤ (x2Of z u).1 := fun hF => by
  show (s1Of z u).fr ≤ curOf z u
  have hfo := hz.foot hF
  have hfa : Asked z.F.fr := ⟨by have := hfo.2.2.1; omega, by have := hfo.2.2.2.1; omega⟩
  have hfb := asked_bd hfa
  have efr : (s1Of z u).fr = _ := acR_fr z u (kz z (IntKind.wrap .i64 (u + 57600)) z.n - kz z (IntKind.wrap .i64 (u - 57600)) z.n) (kz z (IntKind.wrap .i64 (u - 57600)) z.n) _
  rw [efr]
  unfold curOf
  rw [show IntKind.wrap .i64 (z.F.fr - 1) = z.F.fr - 1 from jU (by omega)]
  have hn := kz_le z (IntKind.wrap .i64 (u + 57600)) z.n
  split
  · show IntKind.wrap .i64 (u - 57600) ≤ _
    split <;> omega
  · rename_i hne
    have hle : z.ta (kz z (IntKind.wrap .i64 (u - 57600)) z.n + (kz z (IntKind.wrap .i64 (u + 57600)) z.n - kz z (IntKind.wrap .i64 (u - 57600)) z.n) - 1) ≤ z.F.fr - 1 := by
     have hla : z.ta (z.n - 1) < z.F.fr := by
      rcases hfo.2.2.2.2 with e | e
      · omega
      · exact e
     have hx : kz z (IntKind.wrap .i64 (u - 57600)) z.n + (kz z (IntKind.wrap .i64 (u + 57600)) z.n - kz z (IntKind.wrap .i64 (u - 57600)) z.n) - 1 ≤ z.n - 1 := by
      have := kz_mono z (show IntKind.wrap .i64 (u - 57600) ≤ IntKind.wrap .i64 (u + 57600) by omega) z.n
      omega
     rcases Nat.lt_or_eq_of_le hx with q | q
     · have := rows_lt' hz.rows q (by omega); omega
     · rw [q]; omega
    split <;> omega
 have i3 : z.F.z = true → InC z u (IntKind.wrap .i64 (u - 57600)) (IntKind.wrap .i64 (u + 57600)) (s2Of z u) := fun hF => by
  have hFo : FtOk z.F := (hz.foot hF).1.1
  show InC z u _ _ (acF z u (ix z.F (IntKind.wrap .i64 (u + 57600)) - ix z.F (curOf z u)).toNat (ix z.F (curOf z u)) (s1Of z u))
  rcases Int.lt_or_le (ix z.F (IntKind.wrap .i64 (u + 57600))) (ix z.F (curOf z u)) with q | q
  · rw [show (ix z.F (IntKind.wrap .i64 (u + 57600)) - ix z.F (curOf z u)).toNat = 0 by omega]; exact i2
  · refine acF_keep hFo _ _ _ i2 (by omega) ?_
    have := (ix_spec hFo (curOf z u)).2
    have := c2 hF
    have : (x2Of z u).2.fr = (s1Of z u).fr := rfl
    have : (x2Of z u).1 = curOf z u := rfl
    omega
 have e1 : z.F.z ≠ true → sEnd z u = s1Of z u := fun h => by unfold sEnd; rw [if_neg h]
 have e2 : z.F.z = true → sEnd z u = s2Of z u := fun h => by unfold sEnd; rw [if_pos h]
 refine ⟨isH_rfl _, ⟨i1, m1, j1⟩, fun hf => ?_, fun n c hf => ?_⟩
 · refine kB (fun q => ?_) fun q => ?_
   · refine in_end0 i2 hf ?_
     rw [← e1 (by simpa using q)]; exact fin
   · have hF : z.F.z = true := by simpa using q
     rw [e2 hF] at fin
     refine ⟨?_, ⟨i2, hF, c2 hF⟩, fun hf2 => ⟨in_end0 (i3 hF) hf2 fin, in_end0 (i3 hF) hf2 fin⟩, fun n c hf2 => ⟨in_end1 (i3 hF) hf2 fin, in_end1 (i3 hF) hf2 fin⟩⟩
     unfold isH inHx2 x2Of
     simp only [hf]
 · refine kB (fun q => ?_) fun q => ?_
   · refine in_end1 i2 hf ?_
     rw [← e1 (by simpa using q)]; exact fin
   · have hF : z.F.z = true := by simpa using q
     rw [e2 hF] at fin
     refine ⟨?_, ⟨i2, hF, c2 hF, ?_⟩, fun n c hf2 => ⟨in_end1 (i3 hF) hf2 fin, in_end1 (i3 hF) hf2 fin⟩⟩
     · unfold isH inHx3 x2Of
       simp only [hf]
     · show (s1Of z u).f ≠ none
       rw [hf]; intro e; cases e
noncomputable def zyInst : Con
 | [.agg l, .int .i64 u] => match rdZ l with
  | some (p, z) => some (p && decide (-9223372036854775808 ≤ u ∧ u ≤ 9223372036854775807), .tup [.int .i64 (instE z u).1, .int .i64 (instE z u).2, .int .i64 (iErr z u)])
  | none => none
 | _ => none
theorem afll_con {T : Tab} (hT : TabOk Tryz.prog T) {g : Nat} (hn : (Tryz.prog.funcs[g]?).any (fun fn => !(fn.name == "runtime.NumGoroutine")) = true) {con : Con}
 (h : ∀ args p v, con args = some (p, v) → p = true → ∃ args' n LG, (∀ w A, RL noNames w args A → RL noNames w args' A) ∧ (∀ g, LtOk Tryz.prog g (LG g)) ∧ AFLL T LG n g args' (Res v)) : COk Tryz.prog g con := by
 intro args p v hc hp w A hA
 obtain ⟨args', n, LG, h1, h2, h3⟩ := h args p v hc hp
 refine givesF_ok mixed hT hn h2 (n := n) ?_ (h1 w A hA)
 unfold AFLL at h3
 with_reducible exact h3
theorem zyInst_ok : COk Tryz.prog 36 zyInst := afll_con (kD zyRight_ok (kD zyAt0_ok (kD zySearch_ok (kD cyYear_ok (kD cyNextF_ok bE))))) (by kernel_rfl) fun args p v hc hp => by
 unfold zyInst at hc
 split at hc
 case h_2 => cases hc
 split at hc
 case h_2 => cases hc
 rename_i u _ q z hl
 simp only [Option.some.injEq, Prod.mk.injEq] at hc
 obtain ⟨rfl, rfl⟩ := hc
 rw [Bool.and_eq_true] at hp
 obtain ⟨rfl, hq⟩ := hp
 obtain ⟨h3, h4⟩ := of_decide_eq_true hq
 obtain ⟨k1, k2⟩ := rdZ_move hl
 exact ⟨_, _, _, fun w A hA => rl_1 (fun V h => k2 h) hA, inLG_ok z u _ _ _ _, zinst_ok k1 h3 h4⟩
end Go.Proofs.YtimgphlfaninnaaGreat.P
namespace Go.Proofs.YtimgphlfaninnaaGreat.P
open Go.RowKit Go.Proofs.YtimgphlfaninnaaGreat.Ft Go.Proofs.YtimgphlfaninnaaGreat.Zn
set_option linter.unusedVariables false
set_option linter.unusedSimpArgs false
def JF (z : Zt) (u a : Int) (s : Ac) : Prop := match s.f with
 | none => ∀ x, a ≤ x → x < s.fr → x + (atZ z x).off ≠ u
 | some (n, g) => (a ≤ g 0 ∧ g 0 < s.fr ∧ g 0 + (atZ z (g 0)).off = u) ∧ (∀ x, a ≤ x → x < s.fr → x + (atZ z x).off = u → g 0 ≤ x) ∧ (n = 1 → ∀ x, a ≤ x → x < s.fr → x + (atZ z x).off = u → x = g 0)
theorem JF_step {z : Zt} {u a t : Int} {s : Ac} (h : JF z u a s) (hlo : a ≤ s.fr) (ht : s.fr < t) (hp : ∀ n g, s.f = some (n, g) → 0 < n) (hc : ∀ x, s.fr ≤ x → x < t → atZ z x = atZ z s.fr) : JF z u a (acS z u t s) := by
 have key : ∀ x, s.fr ≤ x → x < t → x + (atZ z x).off = u → x = u - (atZ z s.fr).off := fun x h1 h2 h3 => by rw [hc x h1 h2] at h3; omega
 have ef : (acS z u t s).fr = t := rfl
 by_cases hw : s.fr ≤ u - (atZ z s.fr).off ∧ u - (atZ z s.fr).off ≤ t - 1
 · have hx : u - (atZ z s.fr).off + (atZ z (u - (atZ z s.fr).off)).off = u := by rw [hc _ hw.1 (by omega)]; omega
   have e1 : (acS z u t s).f = acPush s.f (u - (atZ z s.fr).off) := by simp only [acS]; rw [if_pos hw]
   unfold JF at h ⊢
   rw [e1, ef]
   cases hf : s.f with
   | none =>
    rw [hf] at h
    simp only at h
    have one : ∀ x, a ≤ x → x < t → x + (atZ z x).off = u → x = u - (atZ z s.fr).off := fun x h1 h2 h3 => by
     rcases Int.lt_or_le x s.fr with q | q
     · exact (h x h1 q h3).elim
     · exact key x q h2 h3
    exact ⟨⟨by show a ≤ u - (atZ z s.fr).off; omega, by show u - (atZ z s.fr).off < t; omega, hx⟩, fun x h1 h2 h3 => by rw [one x h1 h2 h3]; exact Int.le_refl _, fun _ x h1 h2 h3 => one x h1 h2 h3⟩
   | some p =>
    obtain ⟨n, g⟩ := p
    have hn := hp n g hf
    rw [hf] at h
    simp only at h
    obtain ⟨⟨h1, h2, h3⟩, h4, h5⟩ := h
    have e0 : (if decide (0 < n) = true then g 0 else u - (atZ z s.fr).off) = g 0 := if_pos (decide_eq_true hn)
    simp only [acPush, e0]
    refine ⟨⟨h1, by omega, h3⟩, fun x k1 k2 k3 => ?_, fun e => by omega⟩
    rcases Int.lt_or_le x s.fr with q | q
    · exact h4 x k1 q k3
    · omega
 · have e1 : (acS z u t s).f = s.f := by simp only [acS]; rw [if_neg hw]
   have no : ∀ x, s.fr ≤ x → x < t → x + (atZ z x).off = u → False := fun x h1 h2 h3 => hw (by have := key x h1 h2 h3; omega)
   unfold JF at h ⊢
   rw [e1, ef]
   cases hf : s.f with
   | none =>
    rw [hf] at h
    simp only at h ⊢
    intro x h1 h2 h3
    rcases Int.lt_or_le x s.fr with q | q
    · exact h x h1 q h3
    · exact no x q h2 h3
   | some p =>
    obtain ⟨n, g⟩ := p
    rw [hf] at h
    simp only at h ⊢
    obtain ⟨⟨h1, h2, h3⟩, h4, h5⟩ := h
    refine ⟨⟨h1, by omega, h3⟩, fun x k1 k2 k3 => ?_, fun e x k1 k2 k3 => ?_⟩
    · rcases Int.lt_or_le x s.fr with q | q
      · exact h4 x k1 q k3
      · exact (no x q k2 k3).elim
    · rcases Int.lt_or_le x s.fr with q | q
      · exact h5 e x k1 q k3
      · exact (no x q k2 k3).elim
theorem at_rows {z : Zt} (hz : ZtOk z) {k : Nat} (hk : k ≤ z.n) {x : Int} (h1 : k = 0 ∨ z.ta (k - 1) ≤ x) (h2 : k < z.n → x < z.ta k) (h3 : z.F.z = true → x < z.F.fr) : atZ z x = rowTr z k := by
 unfold atZ
 rw [if_neg (fun q => by have := h3 q.1; omega), kz_is hz.rows hk h1 h2]
theorem row_foot {z : Zt} (hz : ZtOk z) (hF : z.F.z = true) {k : Nat} (hk : k < z.n) : z.ta k < z.F.fr := by
 have hla : z.ta (z.n - 1) < z.F.fr := by
  rcases (hz.foot hF).2.2.2.2 with e | e
  · omega
  · exact e
 rcases Nat.lt_or_eq_of_le (show k ≤ z.n - 1 by omega) with q | q
 · have := rows_lt' hz.rows q (by omega); omega
 · rw [q]; exact hla
structure RowAt (z : Zt) (k : Nat) (s : Ac) : Prop where
 le : k ≤ z.n
 lo : k = 0 ∨ z.ta (k - 1) ≤ s.fr
 hi : ∀ j, k ≤ j → j < z.n → s.fr < z.ta j
theorem acR_J {z : Zt} {u a b : Int} : ∀ (m k : Nat) (s : Ac), InC z u a b s → k + m ≤ kz z b z.n → RowAt z k s → JF z u a s → JF z u a (acR z u m k s) ∧ RowAt z (k + m) (acR z u m k s)
 | 0, k, s, h, hk, hr, hj => ⟨hj, hr⟩
 | m + 1, k, s, h, hk, hr, hj => by
  have hle := kz_le z b z.n
  have hkn : k < z.n := by omega
  have ht := hr.hi k (Nat.le_refl _) hkn
  have htb := (kz_iff h.ok.rows b z.n k (Nat.le_refl _) hkn).1 (by omega)
  have hc : ∀ x, s.fr ≤ x → x < z.ta k → atZ z x = atZ z s.fr := fun x h1 h2 => by
   have lo : ∀ y, s.fr ≤ y → (k = 0 ∨ z.ta (k - 1) ≤ y) := fun y hy => by rcases hr.lo with e | e; exact .inl e; exact .inr (by omega)
   rw [at_rows h.ok hr.le (lo x h1) (fun _ => h2) (fun hF => by have := row_foot h.ok hF hkn; omega), at_rows h.ok hr.le (lo _ (Int.le_refl _)) (fun _ => ht) (fun hF => by have := row_foot h.ok hF hkn; omega)]
  have hr' : RowAt z (k + 1) (acS z u (z.ta k) s) := ⟨hkn, .inr (Int.le_refl _), fun j h1 h2 => rows_lt' h.ok.rows (by omega) h2⟩
  have := acR_J m (k + 1) (acS z u (z.ta k) s) (in_next h ht htb) (by omega) hr' (JF_step hj h.lo ht h.pos hc)
  rw [show k + (m + 1) = k + 1 + m by omega]
  exact this
theorem acF_J {z : Zt} {u a b : Int} (hF : FtOk z.F) (hz : z.F.z = true) : ∀ (m : Nat) (i : Int) (s : Ac), InC z u a b s → i + m ≤ ix z.F b → s.fr < (sI z.F (i + 1)).t → z.F.fr ≤ (sI z.F (i + 1)).t → (∀ x, s.fr ≤ x → x ≤ b → x < (sI z.F (i + 1)).t → atZ z x = atZ z s.fr) → JF z u a s →
 JF z u a (acF z u m i s) ∧ (∀ x, (acF z u m i s).fr ≤ x → x ≤ b → x < (sI z.F (i + m + 1)).t → atZ z x = atZ z (acF z u m i s).fr)
 | 0, i, s, h, hk, hs, hf, hc, hj => ⟨hj, fun x h1 h2 h3 => hc x h1 h2 (by simpa using h3)⟩
 | m + 1, i, s, h, hk, hs, hf, hc, hj => by
  have h1 := sI_le hF (i := i + 1) (j := ix z.F b) (by omega)
  have h2 := (ix_spec hF b).1
  have h3 := sI_lt hF (i := i + 1) (j := i + 1 + 1) (by omega)
  have hc' : ∀ x, (sI z.F (i + 1)).t ≤ x → x ≤ b → x < (sI z.F (i + 1 + 1)).t → atZ z x = atZ z (sI z.F (i + 1)).t := fun x k1 k2 k3 => by
   unfold atZ
   rw [if_pos ⟨hz, by omega⟩, if_pos ⟨hz, hf⟩, ix_is hF k1 k3, ix_is hF (Int.le_refl _) h3]
  have := acF_J hF hz m (i + 1) (acS z u (sI z.F (i + 1)).t s) (in_next h hs (by omega)) (by omega) h3 (by omega) hc' (JF_step hj h.lo hs h.pos fun x k1 k2 => hc x k1 (by omega) k2)
  rw [show i + ((m + 1 : Nat) : Int) + 1 = i + 1 + (m : Int) + 1 by omega]
  exact this
structure CanIn (z : Zt) (u : Int) : Prop where
 bd : bdZ z.F = true
 ok : iErr z u = 0
theorem CanIn.zt {z : Zt} {u : Int} (h : CanIn z u) : ZtOk z ∧ Asked u ∧ Asked (u - 57600) ∧ Asked (u + 57600) := by
 have h := h.ok
 unfold iErr at h
 split at h
 · rename_i hz
   split at h
   · rename_i ha; exact ⟨hz, ha⟩
   · omega
 · omega
theorem CanIn.start {z : Zt} {u : Int} (h : CanIn z u) : IntKind.wrap .i64 (u - 57600) = u - 57600 ∧ IntKind.wrap .i64 (u + 57600) = u + 57600 ∧ InC z u (u - 57600) (u + 57600) (x1Of z u).2 := by
 obtain ⟨hz, hk, hka, hkb⟩ := h.zt
 have hub := asked_bd hk
 have ea : IntKind.wrap .i64 (u - 57600) = u - 57600 := jU (by omega)
 have eb : IntKind.wrap .i64 (u + 57600) = u + 57600 := jU (by omega)
 refine ⟨ea, eb, ⟨hz, h.bd, rfl, rfl, hk, hka, hkb, ?_, ?_, ?_, by show (-57600 : Int) ≤ 0 ∧ (0 : Int) ≤ 57600; omega, fun n g e => by cases e⟩⟩
 · show u - 57600 ≤ IntKind.wrap .i64 (u - 57600); omega
 · show IntKind.wrap .i64 (u - 57600) ≤ _; omega
 · show (0 : Int) ≤ IntKind.wrap .i64 (u - 57600) - _; omega
theorem CanIn.rows {z : Zt} {u : Int} (h : CanIn z u) : InC z u (u - 57600) (u + 57600) (s1Of z u) ∧ JF z u (u - 57600) (s1Of z u) ∧ RowAt z (kz z (u + 57600) z.n) (s1Of z u) := by
 obtain ⟨ea, eb, hi⟩ := h.start
 obtain ⟨hz, hk, hka, hkb⟩ := h.zt
 have mono := kz_mono z (show u - 57600 ≤ u + 57600 by omega) z.n
 have hle := kz_le z (u - 57600) z.n
 have hr : RowAt z (kz z (u - 57600) z.n) (x1Of z u).2 := by
  have hfr : (x1Of z u).2.fr = u - 57600 := ea
  refine ⟨hle, ?_, fun j g1 g2 => ?_⟩
  · rw [hfr]
    rcases Nat.eq_zero_or_pos (kz z (u - 57600) z.n) with e | e
    · exact .inl e
    · exact .inr ((kz_iff hz.rows (u - 57600) z.n _ (Nat.le_refl _) (by omega)).1 (by omega))
  · rw [hfr]
    rcases Int.lt_or_le (u - 57600) (z.ta j) with q | q
    · exact q
    · have := (kz_iff hz.rows (u - 57600) z.n j (Nat.le_refl _) g2).2 q; omega
 have hj : JF z u (u - 57600) (x1Of z u).2 := fun x h1 h2 => by
  have : x < IntKind.wrap .i64 (u - 57600) := h2
  omega
 have es : s1Of z u = acR z u (kz z (u + 57600) z.n - kz z (u - 57600) z.n) (kz z (u - 57600) z.n) (x1Of z u).2 := by
  unfold s1Of fin1
  rw [ea, eb]
  show acR z u _ _ _ = acR z u _ _ ⟨IntKind.wrap .i64 (u - 57600), 0, 0, 0, none⟩
  rw [ea]
 have a1 := acR_keep (kz z (u + 57600) z.n - kz z (u - 57600) z.n) (kz z (u - 57600) z.n) _ hi (by omega) hr.hi
 have a2 := acR_J (kz z (u + 57600) z.n - kz z (u - 57600) z.n) (kz z (u - 57600) z.n) _ hi (by omega) hr hj
 rw [← es] at a1 a2
 rw [show kz z (u - 57600) z.n + (kz z (u + 57600) z.n - kz z (u - 57600) z.n) = kz z (u + 57600) z.n by omega] at a2
 exact ⟨a1, a2⟩
theorem CanIn.last {z : Zt} {u : Int} (h : CanIn z u) : InC z u (u - 57600) (u + 57600) (sEnd z u) ∧ JF z u (u - 57600) (sEnd z u) ∧ ∀ x, (sEnd z u).fr ≤ x → x ≤ u + 57600 → atZ z x = atZ z (sEnd z u).fr := by
 obtain ⟨ea, eb, hi⟩ := h.start
 obtain ⟨hz, hk, hka, hkb⟩ := h.zt
 obtain ⟨i2, j2, r2⟩ := h.rows
 have hle := kz_le z (u + 57600) z.n
 have rowc : ∀ x, (s1Of z u).fr ≤ x → x ≤ u + 57600 → (z.F.z = true → x < z.F.fr) → atZ z x = atZ z (s1Of z u).fr := fun x h1 h2 h3 => by
  have up : ∀ y, y ≤ u + 57600 → kz z (u + 57600) z.n < z.n → y < z.ta (kz z (u + 57600) z.n) := fun y hy hn => by
   have := kz_iff hz.rows (u + 57600) z.n (kz z (u + 57600) z.n) (Nat.le_refl _) hn
   rcases Int.lt_or_le (u + 57600) (z.ta (kz z (u + 57600) z.n)) with q | q
   · omega
   · have := this.2 q; omega
  have lo : ∀ y, (s1Of z u).fr ≤ y → (kz z (u + 57600) z.n = 0 ∨ z.ta (kz z (u + 57600) z.n - 1) ≤ y) := fun y hy => by rcases r2.lo with e | e; exact .inl e; exact .inr (by omega)
  rw [at_rows hz hle (lo x h1) (up x h2) h3, at_rows hz hle (lo _ (Int.le_refl _)) (up _ (by omega)) (fun q => by have := h3 q; omega)]
 unfold sEnd
 split
 · rename_i hF
   have hfo := hz.foot hF
   have hFo : FtOk z.F := hfo.1.1
   have hfa : Asked z.F.fr := ⟨by have := hfo.2.2.1; omega, by have := hfo.2.2.2.1; omega⟩
   have hfb := asked_bd hfa
   have ec : curOf z u = if z.F.fr - 1 > u - 57600 then z.F.fr - 1 else u - 57600 := by
    unfold curOf; rw [ea, show IntKind.wrap .i64 (z.F.fr - 1) = z.F.fr - 1 from jU (by omega)]
   have cle : z.F.fr - 1 ≤ curOf z u ∧ u - 57600 ≤ curOf z u := by rw [ec]; split <;> omega
   have hcs := ix_spec hFo (curOf z u)
   have frle : (s1Of z u).fr ≤ curOf z u := by
    rcases r2.lo with e | e
    · have := acR_fr z u (kz z (IntKind.wrap .i64 (u + 57600)) z.n - kz z (IntKind.wrap .i64 (u - 57600)) z.n) (kz z (IntKind.wrap .i64 (u - 57600)) z.n) ⟨IntKind.wrap .i64 (u - 57600), 0, 0, 0, none⟩
      have es : (s1Of z u).fr = _ := this
      rw [eb, e, ea] at es
      simp at es
      omega
    · have es : (s1Of z u).fr = _ := acR_fr z u (kz z (IntKind.wrap .i64 (u + 57600)) z.n - kz z (IntKind.wrap .i64 (u - 57600)) z.n) (kz z (IntKind.wrap .i64 (u - 57600)) z.n) ⟨IntKind.wrap .i64 (u - 57600), 0, 0, 0, none⟩
      rw [es, ea, eb]
      split
      · show u - 57600 ≤ _; omega
      · rename_i hne
        have := row_foot hz hF (k := kz z (u - 57600) z.n + (kz z (u + 57600) z.n - kz z (u - 57600) z.n) - 1) (by omega)
        omega
   have hcur : ∀ x, (s1Of z u).fr ≤ x → x ≤ u + 57600 → x < (sI z.F (ix z.F (curOf z u) + 1)).t → atZ z x = atZ z (s1Of z u).fr := fun x h1 h2 h3 => by
    by_cases hx : x < z.F.fr
    · exact rowc x h1 h2 fun _ => hx
    · by_cases hs : (s1Of z u).fr < z.F.fr
      · -- then the next shift is the foot's first
        have hcu : curOf z u = z.F.fr - 1 := by
         rw [ec]
         split
         · rfl
         · exfalso
           rename_i g
           have hlo := i2.lo
           by_cases ge : z.F.fr - 1 = u - 57600
           · have hft := hfo.2.1
             have : ix z.F (curOf z u) + 1 = ix z.F z.F.fr := by
              rw [ec, if_neg g, ← ge]
              have : ix z.F (z.F.fr - 1) = ix z.F z.F.fr - 1 := ix_is hFo (by have := sI_lt hFo (i := ix z.F z.F.fr - 1) (j := ix z.F z.F.fr) (by omega); omega) (by rw [show ix z.F z.F.fr - 1 + 1 = ix z.F z.F.fr by omega]; omega)
              omega
             rw [this] at h3
             omega
           · omega
        have hft := hfo.2.1
        have e1 : ix z.F (z.F.fr - 1) = ix z.F z.F.fr - 1 := ix_is hFo (by have := sI_lt hFo (i := ix z.F z.F.fr - 1) (j := ix z.F z.F.fr) (by omega); omega) (by rw [show ix z.F z.F.fr - 1 + 1 = ix z.F z.F.fr by omega]; omega)
        rw [hcu, e1, show ix z.F z.F.fr - 1 + 1 = ix z.F z.F.fr by omega] at h3
        omega
      · unfold atZ
        have hcu : (s1Of z u).fr = curOf z u := by
         have : curOf z u = u - 57600 ∨ curOf z u = z.F.fr - 1 := by rw [ec]; split <;> omega
         have := i2.lo
         omega
        rw [if_pos ⟨hF, by omega⟩, if_pos ⟨hF, by omega⟩, hcu, ix_is hFo (by rw [hcu] at h1; exact Int.le_trans hcs.1 h1) h3]
   show InC z u _ _ (acF z u (ix z.F (IntKind.wrap .i64 (u + 57600)) - ix z.F (curOf z u)).toNat (ix z.F (curOf z u)) (s1Of z u)) ∧ JF z u _ (acF z u (ix z.F (IntKind.wrap .i64 (u + 57600)) - ix z.F (curOf z u)).toNat (ix z.F (curOf z u)) (s1Of z u)) ∧ _
   rw [eb]
   have hbs := ix_spec hFo (u + 57600)
   rcases Int.lt_or_le (ix z.F (u + 57600)) (ix z.F (curOf z u)) with q | q
   · have e2 : s2Of z u = s1Of z u := by
      unfold s2Of fin2
      rw [eb, show (ix z.F (u + 57600) - ix z.F (curOf z u)).toNat = 0 by omega]; rfl
     rw [show (ix z.F (u + 57600) - ix z.F (curOf z u)).toNat = 0 by omega, e2]
     refine ⟨i2, j2, fun x h1 h2 => hcur x h1 h2 ?_⟩
     have := sI_le hFo (i := ix z.F (u + 57600) + 1) (j := ix z.F (curOf z u) + 1) (by omega)
     omega
   · have a1 := acF_keep hFo (ix z.F (u + 57600) - ix z.F (curOf z u)).toNat (ix z.F (curOf z u)) _ i2 (by omega) (by omega)
     have a2 := acF_J hFo hF (ix z.F (u + 57600) - ix z.F (curOf z u)).toNat (ix z.F (curOf z u)) _ i2 (by omega) (by omega) (by omega) hcur j2
     have e2 : s2Of z u = acF z u (ix z.F (u + 57600) - ix z.F (curOf z u)).toNat (ix z.F (curOf z u)) (s1Of z u) := by
      unfold s2Of fin2
      rw [eb]
     rw [e2]
     rw [show ix z.F (curOf z u) + ((ix z.F (u + 57600) - ix z.F (curOf z u)).toNat : Int) = ix z.F (u + 57600) by omega] at a2
     exact ⟨a1, a2.1, fun x h1 h2 => a2.2 x h1 h2 (by omega)⟩
 · rename_i hF
   exact ⟨i2, j2, fun x h1 h2 => rowc x h1 h2 fun q => (hF q).elim⟩
theorem inst_law {z : Zt} {u : Int} (h : CanIn z u) : (u - 57600 ≤ (instE z u).1 ∧ (instE z u).1 ≤ u + 57600) ∧
 (((instE z u).2 = 2 ∧ ∀ y, u - 57600 ≤ y → y ≤ u + 57600 → y + (atZ z y).off ≠ u) ∨
  (((instE z u).2 = 0 ∨ (instE z u).2 = 1) ∧ (instE z u).1 + (atZ z (instE z u).1).off = u ∧ ∀ y, u - 57600 ≤ y → y ≤ u + 57600 → y + (atZ z y).off = u → (instE z u).1 ≤ y ∧ ((instE z u).2 = 0 → y = (instE z u).1))) := by
 obtain ⟨i, j, c⟩ := h.last
 have hhi := i.hi
 have hJ := JF_step (t := u + 57601) j i.lo (by omega) i.pos fun x h1 h2 => c x h1 (by omega)
 have hP := acS_pos (z := z) (u := u) (t := u + 57601) i.pos
 have e : instE z u = instF u (acS z u (u + 57601) (sEnd z u)) := by unfold instE instZ; rw [if_pos h.ok]
 have hl : -57600 ≤ (acS z u (u + 57601) (sEnd z u)).l2 ∧ (acS z u (u + 57601) (sEnd z u)).l2 ≤ 57600 := by
  have h3 := i.off
  have h4 := i.l2
  simp only [acS]
  split
  · exact h3
  · exact h4
 rw [e]
 unfold JF at hJ
 unfold instF
 have ef : (acS z u (u + 57601) (sEnd z u)).fr = u + 57601 := rfl
 rw [ef] at hJ
 generalize acS z u (u + 57601) (sEnd z u) = s at *
 cases hf : s.f with
 | none =>
  rw [hf] at hJ
  simp only at hJ ⊢
  exact ⟨by omega, .inl ⟨trivial, fun y h1 h2 => hJ y h1 (by omega)⟩⟩
 | some p =>
  obtain ⟨n, g⟩ := p
  have hn := hP n g hf
  rw [hf] at hJ
  simp only at hJ ⊢
  obtain ⟨⟨h1, h2, h3⟩, h4, h5⟩ := hJ
  refine ⟨by omega, .inr ⟨by split <;> simp, h3, fun y k1 k2 k3 => ⟨h4 y k1 (by omega) k3, fun hz => h5 ?_ y k1 (by omega) k3⟩⟩⟩
  rcases Nat.decEq n 1 with q | q
  · rw [if_neg q] at hz; omega
  · exact q
end Go.Proofs.YtimgphlfaninnaaGreat.P
namespace Go.Proofs.YtimgphlfaninnaaGreat.P
open Go.RowKit Go.Proofs.YtimgphlfaninnaaGreatW.PrintWords Go.Proofs.YtimgphlfaninnaaGreatW.PrintLast Go.Proofs.YtimgphlfaninnaaGreatW.PrintMore
open Go.Proofs.YtimgphlfaninnaaGreat.A
 attribute [local go_sem] bR bQ jC jB bL bM bP bS
set_option linter.unusedVariables false
set_option linter.unusedSimpArgs false
def bJ.f (k : Nat) (a0 : Int) (a1 : Int) : Option (Int × Int) := wdRes a0 a1 (wdOut (a0 + a1))
theorem bJ.mono : ∀ a0 a1 k, LeO (bJ.f k a0 a1) (bJ.f (k + 1) a0 a1) := fun _ _ _ => LeO.refl _
theorem bJ.calls (k : Nat) (a0 : Int) (a1 : Int) (r1 : Int) (r2 : Int) (w : World) (h : bJ.f k a0 a1 = some (r1, r2)) :
 Calls Tryz.prog 90 #[.int .i64 a0, .int .i64 a1] w fun e w' => e = .returned (.tuple #[.int .i64 r1, .int .i64 r2]) ∧ Below w.heap.size w w' :=
 wdFAdd_calls h
noncomputable def bJ.con (k : Nat) : Con
 | [.int .i64 a0, .int .i64 a1] => some ((bJ.f k a0 a1).isSome, .tup [.int .i64 (gd (bJ.f k a0 a1)).1, .int .i64 (gd (bJ.f k a0 a1)).2])
 | _ => none
set_option maxRecDepth 100000 in
theorem bJ.cok (k : Nat) : COk Tryz.prog 90 (bJ.con k) := by
 intro args p v hc hp w A hA
 unfold bJ.con at hc
 split at hc
 · rename_i a0 a1
   simp only [Option.some.injEq, Prod.mk.injEq] at hc
   obtain ⟨rfl, rfl⟩ := hc
   rcases hf : bJ.f k a0 a1 with _ | ⟨r1, r2⟩
   · rw [hf] at hp; cases hp
   obtain rfl : A = [.int .i64 a0, .int .i64 a1] := by simpa [kG, kL, kM, kN, kZ, kV, jP] using hA
   exact kK (fn := Tryz.f90) Tryz.func90 (by kernel_rfl) (by kernel_rfl) (bJ.calls _ _ _ _ _ w hf) (fun _ => by simp [kH, kG, kL, kM, kN, kZ, kV, bK]) (fun _ h => h)
 · cases hc
def computusref01_Mul.f (k : Nat) (a0 : Int) (a1 : Int) : Option (Int × Int) := wdRes a0 a1 (wdOut (a0 * a1))
theorem computusref01_Mul.calls (k : Nat) (a0 : Int) (a1 : Int) (r1 : Int) (r2 : Int) (w : World) (h : computusref01_Mul.f k a0 a1 = some (r1, r2)) :
 Calls Tryz.prog 73 #[.int .i64 a0, .int .i64 a1] w fun e w' => e = .returned (.tuple #[.int .i64 r1, .int .i64 r2]) ∧ Below w.heap.size w w' :=
 wdFMul_calls h
end Go.Proofs.YtimgphlfaninnaaGreat.P
namespace Go.Proofs.YtimgphlfaninnaaGreat.Civ
set_option linter.unusedVariables false
set_option linter.unusedSimpArgs false
open Go.RowKit Go.Proofs.YtimgphlfaninnaaGreatW.PrintWords Go.Proofs.YtimgphlfaninnaaGreatW.PrintLast Go.Proofs.YtimgphlfaninnaaGreatW.PrintMore Go.Proofs.YtimgphlfaninnaaGreat.P
theorem radd_ev (a b : Int) (ha : I64 a) (hb : I64 b) : Ev (fun k => bJ.f k a b) (out (a + b)) :=
 Ev.at0 fun k => by unfold bJ.f wdRes; rw [if_pos ⟨decide_eq_true ha, decide_eq_true hb⟩]; rfl
theorem rmul_ev (a b : Int) (ha : I64 a) (hb : I64 b) : Ev (fun k => computusref01_Mul.f k a b) (out (a * b)) :=
 Ev.at0 fun k => by unfold computusref01_Mul.f wdRes; rw [if_pos ⟨decide_eq_true ha, decide_eq_true hb⟩]; rfl
theorem rdiv64_ev (a b : Int) (ha : I64 a) (hb : I64 b) (h0 : b ≠ 0) : Ev (fun k => jT.f k a b) (out (fl a b)) :=
 Ev.at0 fun k => by unfold jT.f wdRes; rw [if_neg h0, if_pos ⟨decide_eq_true ha, decide_eq_true hb⟩]; rfl
theorem rmod64_ev (a b : Int) (ha : I64 a) (hb : I64 b) (h0 : b ≠ 0) : Ev (fun k => jN.f k a b) (md a b, 0) :=
 Ev.at0 fun k => by unfold jN.f wdRes; rw [if_neg h0, if_pos ⟨decide_eq_true ha, decide_eq_true hb⟩]; rfl
end Go.Proofs.YtimgphlfaninnaaGreat.Civ
namespace Go.Proofs.YtimgphlfaninnaaGreat.P
open Go.RowKit Go.Proofs.YtimgphlfaninnaaGreatW.PrintWords Go.Proofs.YtimgphlfaninnaaGreatW.PrintLast Go.Proofs.YtimgphlfaninnaaGreatW.PrintMore
open Go.Proofs.YtimgphlfaninnaaGreat.A
 attribute [local go_sem] bR bQ jC jB bL bM bP bS
set_option linter.unusedVariables false
set_option linter.unusedSimpArgs false
def bB.j0 : Nat → Int → Bool → Int → Int → Option (Int × Int × Int)
 | 0, _, _, _, _ => none
 | k + 1, x1, x19, x207000, x207001 => if x19 = true then (some (0, 0, 1)) else (if x207000 = 0 then ((jO.f k x207001 86400000000).bind fun bt209 => (if bt209.2 = 0 then ((zL.f bt209.1 x1).bind fun bt211 => (if bt211.2 = 0 then ((kX.f k 0 bt211.1).bind fun t214 => (if t214 = true then (some (0, bt211.1, 0)) else (some (0, 0, 10)))) else (some (0, 0, 10)))) else (some (0, 0, 10)))) else (some (x207000, 0, 0)))
def bB.f (k : Nat) (a0_0 : Int) (a0_1 : Int) (a1 : Int) : Option (Int × Int × Int) := (jQ.f a0_0 a0_1).bind fun t208 => (if t208 = true then (if a1 < 0 then (bB.j0 k a1 true a0_0 a0_1) else (bB.j0 k a1 (decide (a1 > 86400000000)) a0_0 a0_1)) else (bB.j0 k a1 true a0_0 a0_1))
theorem bB.mono_l : ∀ k, (∀ y0 y1 y2 y3, LeO (bB.j0 k y0 y1 y2 y3) (bB.j0 (k + 1) y0 y1 y2 y3))
 | 0 => fun _ _ _ _ r h => by simp [bB.j0] at h
 | k + 1 => by
  have ih0 := bB.mono_l k
  · intro y0 y1 y2 y3
    unfold bB.j0
    repeat' first
    | (with_reducible exact ih0 _ _ _ _)
    | (with_reducible exact kX.mono _ _ _)
    | (with_reducible exact jO.mono _ _ _)
    | (with_reducible exact LeO.refl _)
    | (with_reducible exact LeO.none _)
    | (with_reducible refine LeO.ite ?_ ?_)
    | (with_reducible refine LeO.bind ?_ (fun _ => ?_))
    | exact ih0 _ _ _ _
    | exact kX.mono _ _ _
    | exact jO.mono _ _ _
    | exact LeO.none _
    | refine LeO.ite ?_ ?_
    | refine LeO.bind ?_ (fun _ => ?_)
theorem bB.mono : ∀ a0 a1 a2 k, LeO (bB.f k a0 a1 a2) (bB.f (k + 1) a0 a1 a2) := by
 intro a0 a1 a2 k
 have ih0 := bB.mono_l k
 unfold bB.f
 repeat' first
  | (with_reducible exact ih0 _ _ _ _)
  | (with_reducible exact kX.mono _ _ _)
  | (with_reducible exact jO.mono _ _ _)
  | (with_reducible exact LeO.refl _)
  | (with_reducible exact LeO.none _)
  | (with_reducible refine LeO.ite ?_ ?_)
  | (with_reducible refine LeO.bind ?_ (fun _ => ?_))
  | exact ih0 _ _ _ _
  | exact kX.mono _ _ _
  | exact jO.mono _ _ _
  | exact LeO.none _
  | refine LeO.ite ?_ ?_
  | refine LeO.bind ?_ (fun _ => ?_)
set_option maxRecDepth 100000 in
theorem bB.vc (k : Nat) (a0_0 : Int) (a0_1 : Int) (a1 : Int) (K : AV → Prop) : afv PA Tryz.prog (tab [(51, kX.con k), (67, zL.con), (78, jO.con k), (124, jQ.con)]) noLoops 2 86 [.agg [.int .i64 a0_0, .int .i64 a0_1], .int .i64 a1] K = (brc (Option.isSome (jQ.f a0_0 a0_1)) (∀ m0 : Bool, m0 = gd (jQ.f a0_0 a0_1) → brc (!m0) (K (AV.tup [.agg [.int .i64 0, .int .i64 0], .int .i64 1])) (brc (decide (a1 < 0)) (K (AV.tup [.agg [.int .i64 0, .int .i64 0], .int .i64 1])) (brc (decide (a1 > 86400000000)) (K (AV.tup [.agg [.int .i64 0, .int .i64 0], .int .i64 1])) (brc (a0_0 != 0) (K (AV.tup [.agg [.int .i64 a0_0, .int .i64 0], .int .i64 0])) (brc (Option.isSome (jO.f k a0_1 86400000000)) (∀ m1 : Int, m1 = Prod.fst (gd (jO.f k a0_1 86400000000)) → ∀ m2 : Int, m2 = Prod.snd (gd (jO.f k a0_1 86400000000)) → brc (m2 == 0) (brc (Option.isSome (zL.f m1 a1)) (∀ m3 : Int, m3 = Prod.fst (gd (zL.f m1 a1)) → ∀ m4 : Int, m4 = Prod.snd (gd (zL.f m1 a1)) → brc (m4 != 0) (K (AV.tup [.agg [.int .i64 0, .int .i64 0], .int .i64 10])) (brc (Option.isSome (kX.f k 0 m3)) (∀ m5 : Bool, m5 = gd (kX.f k 0 m3) → brc (!m5) (K (AV.tup [.agg [.int .i64 0, .int .i64 0], .int .i64 10])) (K (AV.tup [.agg [.int .i64 0, .int .i64 m3], .int .i64 0]))) False)) False) (brc (m2 != 0) (K (AV.tup [.agg [.int .i64 0, .int .i64 0], .int .i64 10])) (brc (Option.isSome (kX.f k 0 m1)) (∀ m3 : Bool, m3 = gd (kX.f k 0 m1) → brc (!m3) (K (AV.tup [.agg [.int .i64 0, .int .i64 0], .int .i64 10])) (K (AV.tup [.agg [.int .i64 0, .int .i64 m1], .int .i64 0]))) False))) False))))) False) := by kernel_rfl
set_option maxHeartbeats 1000000 in
set_option maxRecDepth 100000 in
theorem bB.calls (k : Nat) (a0_0 : Int) (a0_1 : Int) (a1 : Int) (r1 : Int) (r2 : Int) (r3 : Int) (w : World) (h : bB.f k a0_0 a0_1 a1 = some (r1, r2, r3)) :
 Calls Tryz.prog 86 #[.agg #[.int .i64 a0_0, .int .i64 a0_1], .int .i64 a1] w fun e w' => e = .returned (.tuple #[.agg #[.int .i64 r1, .int .i64 r2], .int .i64 r3]) ∧ Below w.heap.size w w' := by
 refine bW (A := [.agg #[.int .i64 a0_0, .int .i64 a0_1], .int .i64 a1]) (v := .tup [.agg [.int .i64 r1, .int .i64 r2], .int .i64 r3]) (kD (kX.cok k) (kD (zL.cok) (kD (jO.cok k) (kD (jQ.cok) (bE))))) ((bB.vc k a0_0 a0_1 a1 _).mpr ?_) (by simp [kG, kL, kM, kN, kZ, kV, jP]) (fun ρ V' hV => by simpa [kG, kL, kM, kN, kZ, kV, bK] using hV)
 unfold bB.f at h
 cases k with
 | zero =>
  (try simp only [bB.j0] at h)
  (try simp only [bne, Option.bind_eq_some_iff, bN] at h)
  (try simp only [bne, jS, wrap_i64])
  first
   | grind (splits := 60) [kH]
   | ((repeat' (first | (have or_ : Or _ _ := h; clear or_; rcases h with h | h) | (have or_ : Exists _ := h; clear or_; obtain ⟨_, h⟩ := h) | (have or_ : And _ _ := h; clear or_; obtain ⟨hq_, h⟩ := h))) <;> (try simp only [Option.some.injEq, Prod.mk.injEq, reduceCtorEq] at h) <;> (try subst_vars) <;> first | (simp_all [kH] <;> (try omega) <;> rcases hb0 : decide (a1 < 0) with _ | _ <;> rcases hb1 : decide (a1 > 86400000000) with _ | _ <;> simp_all [kH] <;> done) | grind (splits := 60) [kH])
   | (intros; subst_vars; simp_all [kH]; done)
 | succ k =>
  (try simp only [bB.j0] at h)
  (try simp only [bne, Option.bind_eq_some_iff, bN] at h)
  (try simp only [bne, jS, wrap_i64])
  first
   | grind (splits := 60) [kH, kX.up, jO.up]
   | ((repeat' (first | (have or_ : Or _ _ := h; clear or_; rcases h with h | h) | (have or_ : Exists _ := h; clear or_; obtain ⟨_, h⟩ := h) | (have or_ : And _ _ := h; clear or_; obtain ⟨hq_, h⟩ := h; (try first | replace hq_ := kX.le (n := k + 1) hq_ (by omega) | replace hq_ := jO.le (n := k + 1) hq_ (by omega))))) <;> (try simp only [Option.some.injEq, Prod.mk.injEq, reduceCtorEq] at h) <;> (try subst_vars) <;> first | (simp_all [kH] <;> (try omega) <;> rcases hb0 : decide (a1 < 0) with _ | _ <;> rcases hb1 : decide (a1 > 86400000000) with _ | _ <;> simp_all [kH] <;> done) | grind (splits := 60) [kH, kX.up, jO.up])
   | (intros; subst_vars; simp_all [kH]; done)
noncomputable def bB.con (k : Nat) : Con
 | [.agg [.int .i64 a0_0, .int .i64 a0_1], .int .i64 a1] => some ((bB.f k a0_0 a0_1 a1).isSome, .tup [.agg [.int .i64 (gd (bB.f k a0_0 a0_1 a1)).1, .int .i64 (gd (bB.f k a0_0 a0_1 a1)).2.1], .int .i64 (gd (bB.f k a0_0 a0_1 a1)).2.2])
 | _ => none
set_option maxRecDepth 100000 in
theorem bB.cok (k : Nat) : COk Tryz.prog 86 (bB.con k) := by
 intro args p v hc hp w A hA
 unfold bB.con at hc
 split at hc
 · rename_i a0_0 a0_1 a1
   simp only [Option.some.injEq, Prod.mk.injEq] at hc
   obtain ⟨rfl, rfl⟩ := hc
   rcases hf : bB.f k a0_0 a0_1 a1 with _ | ⟨r1, r2, r3⟩
   · rw [hf] at hp; cases hp
   obtain rfl : A = [.agg #[.int .i64 a0_0, .int .i64 a0_1], .int .i64 a1] := by simpa [kG, kL, kM, kN, kZ, kV, jP] using hA
   exact kK (fn := Tryz.f86) Tryz.func86 (by kernel_rfl) (by kernel_rfl) (bB.calls _ _ _ _ _ _ _ w hf) (fun _ => by simp [kH, kG, kL, kM, kN, kZ, kV, bK]) (fun _ h => h)
 · cases hc
theorem bB.up {k : Nat} {a0_0 : Int} {a0_1 : Int} {a1 : Int} {r : Int × Int × Int} (h : bB.f k a0_0 a0_1 a1 = some r) : bB.f (k + 1) a0_0 a0_1 a1 = some r := bB.mono a0_0 a0_1 a1 k _ h
theorem bB.le {a0_0 : Int} {a0_1 : Int} {a1 : Int} {r : Int × Int × Int} {k n : Nat} (h : bB.f k a0_0 a0_1 a1 = some r) (hk : k ≤ n) : bB.f n a0_0 a0_1 a1 = some r := by
 induction hk with
 | refl => exact h
 | step _ ih => exact bB.up ih
def kF.j0 : Nat → Int → Bool → Int → Int → Option (Int × Int × Int)
 | 0, _, _, _, _ => none
 | k + 1, x1, x17, x800000, x800001 => if x17 = true then (some (0, 0, 1)) else (if x800000 = 0 then (if x1 = 86400000000 then ((kE.f k (wrap64 (x800001 + 1))).bind fun t802 => (if t802 = true then (some (0, wrap64 ((wrap64 ((wrap64 (x800001 + 1)) * 86400000000))), 0)) else (some (0, 0, 10)))) else ((kE.f k x800001).bind fun t803 => (if t803 = true then (some (0, wrap64 ((wrap64 (x800001 * 86400000000)) + x1), 0)) else (some (0, 0, 10))))) else (some (x800000, 0, 0)))
def kF.f (k : Nat) (a0_0 : Int) (a0_1 : Int) (a1 : Int) : Option (Int × Int × Int) := (kI.f k a0_0 a0_1).bind fun t801 => (if t801 = true then (if a1 < 0 then (kF.j0 k a1 true a0_0 a0_1) else (kF.j0 k a1 (decide (a1 > 86400000000)) a0_0 a0_1)) else (kF.j0 k a1 true a0_0 a0_1))
theorem kF.mono_l : ∀ k, (∀ y0 y1 y2 y3, LeO (kF.j0 k y0 y1 y2 y3) (kF.j0 (k + 1) y0 y1 y2 y3))
 | 0 => fun _ _ _ _ r h => by simp [kF.j0] at h
 | k + 1 => by
  have ih0 := kF.mono_l k
  · intro y0 y1 y2 y3
    unfold kF.j0
    repeat' first
    | (with_reducible exact ih0 _ _ _ _)
    | (with_reducible exact kI.mono _ _ _)
    | (with_reducible exact kE.mono _ _)
    | (with_reducible exact LeO.refl _)
    | (with_reducible exact LeO.none _)
    | (with_reducible refine LeO.ite ?_ ?_)
    | (with_reducible refine LeO.bind ?_ (fun _ => ?_))
    | exact ih0 _ _ _ _
    | exact kI.mono _ _ _
    | exact kE.mono _ _
    | exact LeO.none _
    | refine LeO.ite ?_ ?_
    | refine LeO.bind ?_ (fun _ => ?_)
theorem kF.mono : ∀ a0 a1 a2 k, LeO (kF.f k a0 a1 a2) (kF.f (k + 1) a0 a1 a2) := by
 intro a0 a1 a2 k
 have ih0 := kF.mono_l k
 unfold kF.f
 repeat' first
  | (with_reducible exact ih0 _ _ _ _)
  | (with_reducible exact kI.mono _ _ _)
  | (with_reducible exact kE.mono _ _)
  | (with_reducible exact LeO.refl _)
  | (with_reducible exact LeO.none _)
  | (with_reducible refine LeO.ite ?_ ?_)
  | (with_reducible refine LeO.bind ?_ (fun _ => ?_))
  | exact ih0 _ _ _ _
  | exact kI.mono _ _ _
  | exact kE.mono _ _
  | exact LeO.none _
  | refine LeO.ite ?_ ?_
  | refine LeO.bind ?_ (fun _ => ?_)
set_option maxRecDepth 100000 in
theorem kF.vc (k : Nat) (a0_0 : Int) (a0_1 : Int) (a1 : Int) (K : AV → Prop) : afv PA Tryz.prog (tab [(69, kE.con k), (106, kI.con k)]) noLoops 2 82 [.agg [.int .i64 a0_0, .int .i64 a0_1], .int .i64 a1] K = (brc (Option.isSome (kI.f k a0_0 a0_1)) (∀ m0 : Bool, m0 = gd (kI.f k a0_0 a0_1) → brc (!m0) (K (AV.tup [.agg [.int .i64 0, .int .i64 0], .int .i64 1])) (brc (decide (a1 < 0)) (K (AV.tup [.agg [.int .i64 0, .int .i64 0], .int .i64 1])) (brc (decide (a1 > 86400000000)) (K (AV.tup [.agg [.int .i64 0, .int .i64 0], .int .i64 1])) (brc (a0_0 != 0) (K (AV.tup [.agg [.int .i64 a0_0, .int .i64 0], .int .i64 0])) (brc (a1 == 86400000000) (brc (Option.isSome (kE.f k (IntKind.wrap .i64 (a0_1 + 1)))) (∀ m1 : Bool, m1 = gd (kE.f k (IntKind.wrap .i64 (a0_1 + 1))) → brc (!m1) (K (AV.tup [.agg [.int .i64 0, .int .i64 0], .int .i64 10])) (K (AV.tup [.agg [.int .i64 0, .int .i64 (IntKind.wrap .i64 (IntKind.wrap .i64 (IntKind.wrap .i64 (a0_1 + 1) * 86400000000) + 0))], .int .i64 0]))) False) (brc (Option.isSome (kE.f k a0_1)) (∀ m1 : Bool, m1 = gd (kE.f k a0_1) → brc (!m1) (K (AV.tup [.agg [.int .i64 0, .int .i64 0], .int .i64 10])) (K (AV.tup [.agg [.int .i64 0, .int .i64 (IntKind.wrap .i64 (IntKind.wrap .i64 (a0_1 * 86400000000) + a1))], .int .i64 0]))) False)))))) False) := by kernel_rfl
set_option maxHeartbeats 1000000 in
set_option maxRecDepth 100000 in
theorem kF.calls (k : Nat) (a0_0 : Int) (a0_1 : Int) (a1 : Int) (r1 : Int) (r2 : Int) (r3 : Int) (w : World) (h : kF.f k a0_0 a0_1 a1 = some (r1, r2, r3)) :
 Calls Tryz.prog 82 #[.agg #[.int .i64 a0_0, .int .i64 a0_1], .int .i64 a1] w fun e w' => e = .returned (.tuple #[.agg #[.int .i64 r1, .int .i64 r2], .int .i64 r3]) ∧ Below w.heap.size w w' := by
 refine bW (A := [.agg #[.int .i64 a0_0, .int .i64 a0_1], .int .i64 a1]) (v := .tup [.agg [.int .i64 r1, .int .i64 r2], .int .i64 r3]) (kD (kE.cok k) (kD (kI.cok k) (bE))) ((kF.vc k a0_0 a0_1 a1 _).mpr ?_) (by simp [kG, kL, kM, kN, kZ, kV, jP]) (fun ρ V' hV => by simpa [kG, kL, kM, kN, kZ, kV, bK] using hV)
 unfold kF.f at h
 cases k with
 | zero =>
  (try simp only [kF.j0] at h)
  (try simp only [bne, Option.bind_eq_some_iff, bN] at h)
  (try simp only [bne, jS, wrap_i64])
  first
   | grind (splits := 60) [kH]
   | ((repeat' (first | (have or_ : Or _ _ := h; clear or_; rcases h with h | h) | (have or_ : Exists _ := h; clear or_; obtain ⟨_, h⟩ := h) | (have or_ : And _ _ := h; clear or_; obtain ⟨hq_, h⟩ := h))) <;> (try simp only [Option.some.injEq, Prod.mk.injEq, reduceCtorEq] at h) <;> (try subst_vars) <;> first | (simp_all [kH] <;> (try omega) <;> rcases hb0 : decide (a1 < 0) with _ | _ <;> rcases hb1 : decide (a1 > 86400000000) with _ | _ <;> simp_all [kH] <;> done) | grind (splits := 60) [kH])
   | (intros; subst_vars; simp_all [kH]; done)
 | succ k =>
  (try simp only [kF.j0] at h)
  (try simp only [bne, Option.bind_eq_some_iff, bN] at h)
  (try simp only [bne, jS, wrap_i64])
  first
   | grind (splits := 60) [kH, kE.up, kI.up]
   | ((repeat' (first | (have or_ : Or _ _ := h; clear or_; rcases h with h | h) | (have or_ : Exists _ := h; clear or_; obtain ⟨_, h⟩ := h) | (have or_ : And _ _ := h; clear or_; obtain ⟨hq_, h⟩ := h; (try first | replace hq_ := kE.le (n := k + 1) hq_ (by omega) | replace hq_ := kI.le (n := k + 1) hq_ (by omega))))) <;> (try simp only [Option.some.injEq, Prod.mk.injEq, reduceCtorEq] at h) <;> (try subst_vars) <;> first | (simp_all [kH] <;> (try omega) <;> rcases hb0 : decide (a1 < 0) with _ | _ <;> rcases hb1 : decide (a1 > 86400000000) with _ | _ <;> simp_all [kH] <;> done) | grind (splits := 60) [kH, kE.up, kI.up])
   | (intros; subst_vars; simp_all [kH]; done)
noncomputable def kF.con (k : Nat) : Con
 | [.agg [.int .i64 a0_0, .int .i64 a0_1], .int .i64 a1] => some ((kF.f k a0_0 a0_1 a1).isSome, .tup [.agg [.int .i64 (gd (kF.f k a0_0 a0_1 a1)).1, .int .i64 (gd (kF.f k a0_0 a0_1 a1)).2.1], .int .i64 (gd (kF.f k a0_0 a0_1 a1)).2.2])
 | _ => none
set_option maxRecDepth 100000 in
theorem kF.cok (k : Nat) : COk Tryz.prog 82 (kF.con k) := by
 intro args p v hc hp w A hA
 unfold kF.con at hc
 split at hc
 · rename_i a0_0 a0_1 a1
   simp only [Option.some.injEq, Prod.mk.injEq] at hc
   obtain ⟨rfl, rfl⟩ := hc
   rcases hf : kF.f k a0_0 a0_1 a1 with _ | ⟨r1, r2, r3⟩
   · rw [hf] at hp; cases hp
   obtain rfl : A = [.agg #[.int .i64 a0_0, .int .i64 a0_1], .int .i64 a1] := by simpa [kG, kL, kM, kN, kZ, kV, jP] using hA
   exact kK (fn := Tryz.f82) Tryz.func82 (by kernel_rfl) (by kernel_rfl) (kF.calls _ _ _ _ _ _ _ w hf) (fun _ => by simp [kH, kG, kL, kM, kN, kZ, kV, bK]) (fun _ h => h)
 · cases hc
theorem kF.up {k : Nat} {a0_0 : Int} {a0_1 : Int} {a1 : Int} {r : Int × Int × Int} (h : kF.f k a0_0 a0_1 a1 = some r) : kF.f (k + 1) a0_0 a0_1 a1 = some r := kF.mono a0_0 a0_1 a1 k _ h
theorem kF.le {a0_0 : Int} {a0_1 : Int} {a1 : Int} {r : Int × Int × Int} {k n : Nat} (h : kF.f k a0_0 a0_1 a1 = some r) (hk : k ≤ n) : kF.f n a0_0 a0_1 a1 = some r := by
 induction hk with
 | refl => exact h
 | step _ ih => exact kF.up ih
def kR.f (k : Nat) (a0_0 : Int) (a0_1 : Int) (a1 : Int) : Option (Int × Int × Int) := (kI.f k a0_0 a0_1).bind fun t879 => (if t879 = true then (if a0_0 = 0 then ((bJ.f k a0_1 a1).bind fun bt880 => ((kS.f k bt880.1 bt880.2).bind fun bt882 => (some (bt882.1, bt882.2.1, bt882.2.2)))) else (some (a0_0, a0_1, 0))) else (some (0, 0, 1)))
theorem kR.mono : ∀ a0 a1 a2 k, LeO (kR.f k a0 a1 a2) (kR.f (k + 1) a0 a1 a2) := by
 intro a0 a1 a2 k
 unfold kR.f
 repeat' first
  | (with_reducible exact bJ.mono _ _ _)
  | (with_reducible exact kI.mono _ _ _)
  | (with_reducible exact kS.mono _ _ _)
  | (with_reducible exact LeO.refl _)
  | (with_reducible exact LeO.none _)
  | (with_reducible refine LeO.ite ?_ ?_)
  | (with_reducible refine LeO.bind ?_ (fun _ => ?_))
  | exact bJ.mono _ _ _
  | exact kI.mono _ _ _
  | exact kS.mono _ _ _
  | exact LeO.none _
  | refine LeO.ite ?_ ?_
  | refine LeO.bind ?_ (fun _ => ?_)
set_option maxRecDepth 100000 in
theorem kR.vc (k : Nat) (a0_0 : Int) (a0_1 : Int) (a1 : Int) (K : AV → Prop) : afv PA Tryz.prog (tab [(90, bJ.con k), (106, kI.con k), (125, kS.con k)]) noLoops 2 89 [.agg [.int .i64 a0_0, .int .i64 a0_1], .int .i64 a1] K = (brc (Option.isSome (kI.f k a0_0 a0_1)) (∀ m0 : Bool, m0 = gd (kI.f k a0_0 a0_1) → brc (!m0) (K (AV.tup [.agg [.int .i64 0, .int .i64 0], .int .i64 1])) (brc (a0_0 != 0) (K (AV.tup [.agg [.int .i64 a0_0, .int .i64 a0_1], .int .i64 0])) (brc (Option.isSome (bJ.f k a0_1 a1)) (∀ m1 : Int, m1 = Prod.fst (gd (bJ.f k a0_1 a1)) → ∀ m2 : Int, m2 = Prod.snd (gd (bJ.f k a0_1 a1)) → brc (Option.isSome (kS.f k m1 m2)) (∀ m3 : Int, m3 = Prod.fst (gd (kS.f k m1 m2)) → ∀ m4 : Int, m4 = Prod.fst (Prod.snd (gd (kS.f k m1 m2))) → ∀ m5 : Int, m5 = Prod.snd (Prod.snd (gd (kS.f k m1 m2))) → K (AV.tup [.agg [.int .i64 m3, .int .i64 m4], .int .i64 m5])) False) False))) False) := by kernel_rfl
set_option maxHeartbeats 1000000 in
set_option maxRecDepth 100000 in
theorem kR.calls (k : Nat) (a0_0 : Int) (a0_1 : Int) (a1 : Int) (r1 : Int) (r2 : Int) (r3 : Int) (w : World) (h : kR.f k a0_0 a0_1 a1 = some (r1, r2, r3)) :
 Calls Tryz.prog 89 #[.agg #[.int .i64 a0_0, .int .i64 a0_1], .int .i64 a1] w fun e w' => e = .returned (.tuple #[.agg #[.int .i64 r1, .int .i64 r2], .int .i64 r3]) ∧ Below w.heap.size w w' := by
 refine bW (A := [.agg #[.int .i64 a0_0, .int .i64 a0_1], .int .i64 a1]) (v := .tup [.agg [.int .i64 r1, .int .i64 r2], .int .i64 r3]) (kD (bJ.cok k) (kD (kI.cok k) (kD (kS.cok k) (bE)))) ((kR.vc k a0_0 a0_1 a1 _).mpr ?_) (by simp [kG, kL, kM, kN, kZ, kV, jP]) (fun ρ V' hV => by simpa [kG, kL, kM, kN, kZ, kV, bK] using hV)
 unfold kR.f at h
 (try simp only [bne, Option.bind_eq_some_iff, bN] at h)
 (try simp only [bne, jS, wrap_i64])
 first
  | grind (splits := 60) [kH]
  | ((repeat' (first | (have or_ : Or _ _ := h; clear or_; rcases h with h | h) | (have or_ : Exists _ := h; clear or_; obtain ⟨_, h⟩ := h) | (have or_ : And _ _ := h; clear or_; obtain ⟨hq_, h⟩ := h))) <;> (try simp only [Option.some.injEq, Prod.mk.injEq, reduceCtorEq] at h) <;> (try subst_vars) <;> first | (simp_all [kH] <;> (try omega) <;> done) | grind (splits := 60) [kH])
  | (intros; subst_vars; simp_all [kH]; done)
noncomputable def kR.con (k : Nat) : Con
 | [.agg [.int .i64 a0_0, .int .i64 a0_1], .int .i64 a1] => some ((kR.f k a0_0 a0_1 a1).isSome, .tup [.agg [.int .i64 (gd (kR.f k a0_0 a0_1 a1)).1, .int .i64 (gd (kR.f k a0_0 a0_1 a1)).2.1], .int .i64 (gd (kR.f k a0_0 a0_1 a1)).2.2])
 | _ => none
set_option maxRecDepth 100000 in
theorem kR.cok (k : Nat) : COk Tryz.prog 89 (kR.con k) := by
 intro args p v hc hp w A hA
 unfold kR.con at hc
 split at hc
 · rename_i a0_0 a0_1 a1
   simp only [Option.some.injEq, Prod.mk.injEq] at hc
   obtain ⟨rfl, rfl⟩ := hc
   rcases hf : kR.f k a0_0 a0_1 a1 with _ | ⟨r1, r2, r3⟩
   · rw [hf] at hp; cases hp
   obtain rfl : A = [.agg #[.int .i64 a0_0, .int .i64 a0_1], .int .i64 a1] := by simpa [kG, kL, kM, kN, kZ, kV, jP] using hA
   exact kK (fn := Tryz.f89) Tryz.func89 (by kernel_rfl) (by kernel_rfl) (kR.calls _ _ _ _ _ _ _ w hf) (fun _ => by simp [kH, kG, kL, kM, kN, kZ, kV, bK]) (fun _ h => h)
 · cases hc
theorem kR.up {k : Nat} {a0_0 : Int} {a0_1 : Int} {a1 : Int} {r : Int × Int × Int} (h : kR.f k a0_0 a0_1 a1 = some r) : kR.f (k + 1) a0_0 a0_1 a1 = some r := kR.mono a0_0 a0_1 a1 k _ h
theorem kR.le {a0_0 : Int} {a0_1 : Int} {a1 : Int} {r : Int × Int × Int} {k n : Nat} (h : kR.f k a0_0 a0_1 a1 = some r) (hk : k ≤ n) : kR.f n a0_0 a0_1 a1 = some r := by
 induction hk with
 | refl => exact h
 | step _ ih => exact kR.up ih
def bI.f (a0 : Int) (a1 : Int) : Option (Bool) := if a0 ≥ (wrap64 (-a1)) then (some (decide (a0 ≤ a1))) else (some false)
set_option maxHeartbeats 8000000 in
set_option maxRecDepth 100000 in
theorem bI.calls (a0 : Int) (a1 : Int) (r : Bool) (w : World) (h : bI.f a0 a1 = some r) :
 Calls Tryz.prog 87 #[.int .i64 a0, .int .i64 a1] w fun e w' => e = .returned (.bool r) ∧ Drawn0 w w' := by
 have H : (if a0 ≥ (wrap64 (-a1)) then (some (decide (a0 ≤ a1))) else (some false)) = some r := h
 clear h
 by_cases c3 : a0 ≥ (wrap64 (-a1))
 · rw [if_pos c3] at H
   have c3b0 : decide ((wrap64 (-a1)) ≤ a0) = true := decide_eq_true c3
   clear c3
   obtain rfl := Option.some.inj H
   go_enter Tryz.func87, Tryz.ntmps87
   go_wp2
   go_ret
   exact ⟨by first | rfl | (simp; done) | (simp [*]; done), by repeat (first | exact Drawn0.refl _ | apply Drawn0.step)⟩
 · rw [if_neg c3] at H
   have c3b0 : decide ((wrap64 (-a1)) ≤ a0) = false := decide_eq_false c3
   clear c3
   obtain rfl := Option.some.inj H
   go_enter Tryz.func87, Tryz.ntmps87
   go_wp2
   go_ret
   exact ⟨by first | rfl | (simp; done) | (simp [*]; done), by repeat (first | exact Drawn0.refl _ | apply Drawn0.step)⟩
noncomputable def bI.con : Con
 | [.int .i64 a0, .int .i64 a1] => some ((bI.f a0 a1).isSome, .bool (gd (bI.f a0 a1)))
 | _ => none
set_option maxRecDepth 100000 in
theorem bI.cok : COk Tryz.prog 87 (bI.con) := by
 intro args p v hc hp w A hA
 unfold bI.con at hc
 split at hc
 · rename_i a0 a1
   simp only [Option.some.injEq, Prod.mk.injEq] at hc
   obtain ⟨rfl, rfl⟩ := hc
   rcases hf : bI.f a0 a1 with _ | r
   · rw [hf] at hp; cases hp
   obtain rfl : A = [.int .i64 a0, .int .i64 a1] := by simpa [kG, kL, kM, kN, kZ, kV, jP] using hA
   exact kK (fn := Tryz.f87) Tryz.func87 (by kernel_rfl) (by kernel_rfl) (bI.calls _ _ _ w hf) (fun _ => by simp [kH, kG, kL, kM, kN, kZ, kV, bK]) (fun _ h => h.below)
 · cases hc
def zJ.f (a0_0 : Int) (a0_1 : Int) (a0_2 : Int) (a0_3 : Int) : Option (Bool) := if a0_0 = 0 then ((bI.f a0_1 2147483647).bind fun t844 => (if t844 = true then ((bI.f a0_2 2147483647).bind fun t845 => (if t845 = true then ((bI.f a0_3 9223372036854775807).bind fun t846 => (some t846)) else (some false))) else (some false))) else (if a0_0 = (-1) then (if a0_1 = 0 then (if a0_2 = 0 then (some (a0_3 == 0)) else (some false)) else (some false)) else (if a0_0 = 1 then (if a0_1 = 0 then (if a0_2 = 0 then (some (a0_3 == 0)) else (some false)) else (some false)) else (some false)))
set_option maxRecDepth 100000 in
theorem zJ.vc (a0_0 : Int) (a0_1 : Int) (a0_2 : Int) (a0_3 : Int) (K : AV → Prop) : afv PA Tryz.prog (tab [(87, bI.con)]) noLoops 2 45 [.agg [.int .i64 a0_0, .int .i64 a0_1, .int .i64 a0_2, .int .i64 a0_3]] K = (brc (a0_0 != 0) (brc (a0_0 == -1) (brc (a0_1 == 0) (brc (a0_2 == 0) (K (AV.bool (a0_3 == 0))) (K (AV.bool false))) (K (AV.bool false))) (brc (a0_0 == 1) (brc (a0_1 == 0) (brc (a0_2 == 0) (K (AV.bool (a0_3 == 0))) (K (AV.bool false))) (K (AV.bool false))) (K (AV.bool false)))) (brc (Option.isSome (bI.f a0_1 2147483647)) (∀ m0 : Bool, m0 = gd (bI.f a0_1 2147483647) → brc m0 (brc (Option.isSome (bI.f a0_2 2147483647)) (∀ m1 : Bool, m1 = gd (bI.f a0_2 2147483647) → brc m1 (brc (Option.isSome (bI.f a0_3 9223372036854775807)) (∀ m2 : Bool, m2 = gd (bI.f a0_3 9223372036854775807) → K (AV.bool m2)) False) (K (AV.bool false))) False) (K (AV.bool false))) False)) := by kernel_rfl
set_option maxHeartbeats 1000000 in
set_option maxRecDepth 100000 in
theorem zJ.calls (a0_0 : Int) (a0_1 : Int) (a0_2 : Int) (a0_3 : Int) (r : Bool) (w : World) (h : zJ.f a0_0 a0_1 a0_2 a0_3 = some r) :
 Calls Tryz.prog 45 #[.agg #[.int .i64 a0_0, .int .i64 a0_1, .int .i64 a0_2, .int .i64 a0_3]] w fun e w' => e = .returned (.bool r) ∧ Below w.heap.size w w' := by
 refine bW (A := [.agg #[.int .i64 a0_0, .int .i64 a0_1, .int .i64 a0_2, .int .i64 a0_3]]) (v := .bool r) (kD (bI.cok) (bE)) ((zJ.vc a0_0 a0_1 a0_2 a0_3 _).mpr ?_) (by simp [kG, kL, kM, kN, kZ, kV, jP]) (fun ρ V' hV => by simpa [kG, kL, kM, kN, kZ, kV, bK] using hV)
 unfold zJ.f at h
 (try simp only [bne, Option.bind_eq_some_iff, bN] at h)
 (try simp only [bne, jS, wrap_i64])
 first
  | grind (splits := 60) [kH]
  | ((repeat' (first | (have or_ : Or _ _ := h; clear or_; rcases h with h | h) | (have or_ : Exists _ := h; clear or_; obtain ⟨_, h⟩ := h) | (have or_ : And _ _ := h; clear or_; obtain ⟨hq_, h⟩ := h))) <;> (try simp only [Option.some.injEq, Prod.mk.injEq, reduceCtorEq] at h) <;> (try subst_vars) <;> first | (simp_all [kH] <;> (try omega) <;> done) | grind (splits := 60) [kH])
  | (intros; subst_vars; simp_all [kH]; done)
end Go.Proofs.YtimgphlfaninnaaGreat.P
namespace Go.Proofs.YtimgphlfaninnaaGreat.Civ
set_option linter.unusedVariables false
set_option linter.unusedSimpArgs false
open Go.RowKit Go.Proofs.YtimgphlfaninnaaGreatW.PrintWords Go.Proofs.YtimgphlfaninnaaGreatW.PrintLast Go.Proofs.YtimgphlfaninnaaGreatW.PrintMore Go.Proofs.YtimgphlfaninnaaGreat.P
def DIn (n : Int) : Prop := -2451507 ≤ n ∧ n ≤ 106751982
instance (n : Int) : Decidable (DIn n) := inferInstanceAs (Decidable (_ ∧ _))
theorem dby_lo : dby (-4712) = -2451507 := by decide
theorem dby_hi : dby 294277 = 106751983 := by decide
theorem din_year {n y m d : Int} (h : IsDate n y m d) : (-4712 ≤ y ∧ y ≤ 294276) ↔ DIn n := by
 have g := h.year
 have a := dby_lo
 have b := dby_hi
 unfold DIn
 constructor
 · intro f
   have p := dby_far (-4712) y (by omega)
   have q := dby_far (y + 1) 294277 (by omega)
   omega
 · intro f
   constructor
   · rcases Int.lt_or_le y (-4712) with z | z
     · have p := dby_far (y + 1) (-4712) (by omega)
       omega
     · exact z
   · rcases Int.lt_or_le 294276 y with z | z
     · have p := dby_far 294277 y (by omega)
       omega
     · exact z
theorem din_can {n : Int} (h : DIn n) : CanDay n := by unfold DIn at h; unfold CanDay; omega
theorem din_i64 {n : Int} (h : DIn n) : I64 n := by unfold DIn at h; unfold I64; omega
theorem inside_eq (n : Int) : jI.f n = some (decide (DIn n)) := by
 unfold jI.f
 by_cases hc : CanDay n
 · obtain ⟨y, m, d, h⟩ := date_of n
   rw [date_eq h hc]
   have e := din_year h
   simp only [Option.bind_some, if_true]
   by_cases g : y ≥ -4712
   · rw [if_pos g]; congr 1; apply decide_eq_decide.2; rw [← e]; omega
   · rw [if_neg g, decide_eq_false]; rw [← e]; omega
 · rw [date_no hc]
   simp only [Option.bind_some]
   rw [if_neg (by decide), decide_eq_false (fun f => hc (din_can f))]
theorem rinside_ev (n : Int) : Ev (fun k => kE.f k n) (decide (DIn n)) := by
 unfold kE.f
 by_cases hc : CanDay n
 · obtain ⟨y, m, d, h⟩ := date_of n
   have e := din_year h
   refine Ev.bind (rdate_ev h hc) ?_
   refine Ev.pos rfl ?_
   by_cases g : y ≥ -4712
   · refine Ev.pos g (Ev.cast (Ev.now _) ?_)
     apply decide_eq_decide.2; rw [← e]; show y ≤ 294276 ↔ _; omega
   · refine Ev.neg g (Ev.cast (Ev.now _) ?_)
     rw [decide_eq_false]; rw [← e]; omega
 · refine Ev.bind (rdate_no hc) ?_
   refine Ev.neg (by decide) (Ev.cast (Ev.now _) ?_)
   rw [decide_eq_false (fun f => hc (din_can f))]
def made (n : Int) : Int × Int × Int := if DIn n then (0, n, 0) else (0, 0, 10)
def madeE (n e : Int) : Int × Int × Int := if e = 0 then made n else (0, 0, 10)
theorem finite_eq (n e : Int) : jF.f n e = some (madeE n e) := by
 unfold jF.f madeE made
 by_cases h : e = 0
 · rw [if_pos h, if_pos h, inside_eq]
   simp only [Option.bind_some, decide_eq_true_eq]
   split <;> rfl
 · rw [if_neg h, if_neg h]
theorem rmade_ev (n e : Int) : Ev (fun k => kS.f k n e) (madeE n e) := by
 unfold kS.f madeE made
 by_cases h : e = 0
 · rw [if_pos h]
   refine Ev.pos h (Ev.bind (rinside_ev n) ?_)
   by_cases g : DIn n
   · rw [if_pos g]; exact Ev.pos (decide_eq_true g) (Ev.now _)
   · rw [if_neg g]; exact Ev.neg (by rw [decide_eq_false g]; simp) (Ev.now _)
 · refine Ev.neg h ?_; rw [if_neg h]; exact Ev.now _
theorem madeE_out (z : Int) : madeE (out z).1 (out z).2 = made z := by
 by_cases h : I64 z
 · rw [out_in h]; rfl
 · rw [out_no h]
   unfold madeE made
   rw [if_neg (by decide), if_neg (fun f => h (din_i64 f))]
def DR (i n : Int) : Prop := (i = 0 ∧ DIn n) ∨ ((i = -1 ∨ i = 1) ∧ n = 0)
instance (i n : Int) : Decidable (DR i n) := inferInstanceAs (Decidable (_ ∨ _))
theorem dr_fin {n : Int} : DR 0 n ↔ DIn n := by unfold DR DIn; omega
theorem dright_eq (i n : Int) : jQ.f i n = some (decide (DR i n)) := by
 unfold jQ.f
 simp only [Bool.and_eq_true, beq_iff_eq]
 by_cases h1 : i = -1 ∧ n = 0
 · rw [if_pos h1, decide_eq_true (show DR i n from .inr ⟨.inl h1.1, h1.2⟩)]
 · rw [if_neg h1]
   by_cases h2 : i = 1 ∧ n = 0
   · rw [if_pos h2, decide_eq_true (show DR i n from .inr ⟨.inr h2.1, h2.2⟩)]
   · rw [if_neg h2]
     by_cases h3 : i = 0
     · subst h3
       rw [if_pos rfl, inside_eq]
       simp only [Option.bind_some]
       congr 1; exact decide_eq_decide.2 dr_fin.symm
     · rw [if_neg h3, decide_eq_false (show ¬ DR i n by unfold DR; omega)]
theorem rdright_ev (i n : Int) : Ev (fun k => kI.f k i n) (decide (DR i n)) := by
 unfold kI.f
 have e : (n == 0) = decide (n = 0) := rfl
 by_cases h : i = 0
 · subst h
   refine Ev.pos rfl (Ev.bind (rinside_ev n) (Ev.cast (Ev.now _) ?_))
   exact decide_eq_decide.2 dr_fin.symm
 · refine Ev.neg h ?_
   by_cases h1 : i = -1
   · refine Ev.pos h1 (Ev.cast (Ev.now _) ?_)
     rw [e]; apply decide_eq_decide.2; unfold DR; omega
   · refine Ev.neg h1 ?_
     by_cases h2 : i = 1
     · refine Ev.pos h2 (Ev.cast (Ev.now _) ?_)
       rw [e]; apply decide_eq_decide.2; unfold DR; omega
     · refine Ev.neg h2 (Ev.cast (Ev.now _) ?_)
       rw [decide_eq_false (show ¬ DR i n by unfold DR; omega)]
def addD (i n q : Int) : Int × Int × Int := if DR i n then (if i = 0 then made (n + q) else (i, n, 0)) else (0, 0, 1)
theorem dr_i64 {i n : Int} (h : DR i n) : I64 n := by unfold DR DIn at h; unfold I64; omega
theorem addD_eq (i n q : Int) (hq : I64 q) : zD.f i n q = some (addD i n q) := by
 unfold zD.f bO.f addD
 rw [dright_eq]
 by_cases h : DR i n
 · rw [decide_eq_true h, if_pos h]
   simp only [Option.bind_some, if_true]
   by_cases g : i = 0
   · rw [if_pos g, if_pos g, add_eq n q (dr_i64 h) hq]
     simp only [Option.bind_some]
     rw [finite_eq, madeE_out]
     rfl
   · rw [if_neg g, if_neg g]; rfl
 · rw [decide_eq_false h, if_neg h]; rfl
theorem raddD_ev (i n q : Int) (hq : I64 q) : Ev (fun k => kR.f k i n q) (addD i n q) := by
 unfold kR.f addD
 refine Ev.bind (rdright_ev i n) ?_
 by_cases h : DR i n
 · rw [if_pos h]
   refine Ev.pos (decide_eq_true h) ?_
   by_cases g : i = 0
   · rw [if_pos g]
     refine Ev.pos g (Ev.bind (radd_ev n q (dr_i64 h) hq) ?_)
     refine Ev.bind (rmade_ev _ _) ?_
     rw [madeE_out]
     exact Ev.now _
   · refine Ev.neg g ?_; rw [if_neg g]; exact Ev.now _
 · rw [if_neg h]
   exact Ev.neg (by rw [decide_eq_false h]; simp) (Ev.now _)
def DRS (i u : Int) : Prop := (i = 0 ∧ DIn (u / 86400000000)) ∨ ((i = -1 ∨ i = 1) ∧ u = 0)
instance (i u : Int) : Decidable (DRS i u) := inferInstanceAs (Decidable (_ ∨ _))
theorem drs_fin {u : Int} : DRS 0 u ↔ DIn (u / 86400000000) := by unfold DRS DIn; omega
theorem drightS_ev (i u : Int) (hu : I64 u) : Ev (fun k => kX.f k i u) (decide (DRS i u)) := by
 unfold kX.f
 refine Ev.bind (Ev.at1 fun k => split_eq k u hu) ?_
 simp only [Bool.and_eq_true, beq_iff_eq]
 by_cases h1 : i = -1 ∧ u = 0
 · exact Ev.pos h1 (Ev.cast (Ev.now _) (decide_eq_true (show DRS i u from .inr ⟨.inl h1.1, h1.2⟩)).symm)
 · refine Ev.neg h1 ?_
   by_cases h2 : i = 1 ∧ u = 0
   · exact Ev.pos h2 (Ev.cast (Ev.now _) (decide_eq_true (show DRS i u from .inr ⟨.inr h2.1, h2.2⟩)).symm)
   · refine Ev.neg h2 ?_
     by_cases h3 : i = 0
     · subst h3
       refine Ev.pos rfl (Ev.bind0 (inside_eq _) (Ev.cast (Ev.now _) ?_))
       exact decide_eq_decide.2 drs_fin.symm
     · refine Ev.neg h3 (Ev.cast (Ev.now _) ?_)
       rw [decide_eq_false (show ¬ DRS i u by unfold DRS; omega)]
theorem rsplit_ev (u : Int) (hu : I64 u) : Ev (fun k => bA.f k u) (u / 86400000000, u % 86400000000) := by
 have hb : I64 86400000000 := by unfold I64; omega
 unfold bA.f
 refine Ev.bind (rdiv64_ev u 86400000000 hu hb (by decide)) ?_
 refine Ev.bind (rmod64_ev u 86400000000 hu hb (by decide)) ?_
 refine Ev.cast (Ev.now _) ?_
 rw [fl_pos (by decide), md_pos (by decide), out_in (by unfold I64 at *; omega)]
theorem rdrightS_ev (i u : Int) (hu : I64 u) : Ev (fun k => kW.f k i u) (decide (DRS i u)) := by
 unfold kW.f
 have e : (u == 0) = decide (u = 0) := rfl
 by_cases h : i = 0
 · subst h
   refine Ev.pos rfl (Ev.bind (rsplit_ev u hu) (Ev.bind (rinside_ev _) (Ev.cast (Ev.now _) ?_)))
   exact decide_eq_decide.2 drs_fin.symm
 · refine Ev.neg h ?_
   by_cases h1 : i = -1
   · refine Ev.pos h1 (Ev.cast (Ev.now _) ?_)
     rw [e]; apply decide_eq_decide.2; unfold DRS; omega
   · refine Ev.neg h1 ?_
     by_cases h2 : i = 1
     · refine Ev.pos h2 (Ev.cast (Ev.now _) ?_)
       rw [e]; apply decide_eq_decide.2; unfold DRS; omega
     · refine Ev.neg h2 (Ev.cast (Ev.now _) ?_)
       rw [decide_eq_false (show ¬ DRS i u by unfold DRS; omega)]
def ofD (i u : Int) : Int × Int × Int × Int := if DRS i u then (if i = 0 then (0, u / 86400000000, u % 86400000000, 0) else (i, 0, 0, 0)) else (0, 0, 0, 1)
theorem ofD_ev (i u : Int) (hu : I64 u) : Ev (fun k => jZ.f k i u) (ofD i u) := by
 unfold jZ.f ofD
 refine Ev.bind (drightS_ev i u hu) ?_
 by_cases h : DRS i u
 · rw [if_pos h]
   refine Ev.pos (decide_eq_true h) ?_
   by_cases g : i = 0
   · refine Ev.pos g ?_; rw [if_pos g]; exact Ev.bind (Ev.at1 fun k => split_eq k u hu) (Ev.now _)
   · refine Ev.neg g ?_; rw [if_neg g]; exact Ev.now _
 · rw [if_neg h]
   exact Ev.neg (by rw [decide_eq_false h]; simp) (Ev.now _)
theorem rofD_ev (i u : Int) (hu : I64 u) : Ev (fun k => kY.f k i u) (ofD i u) := by
 unfold kY.f ofD
 refine Ev.bind (rdrightS_ev i u hu) ?_
 by_cases h : DRS i u
 · rw [if_pos h]
   refine Ev.pos (decide_eq_true h) ?_
   by_cases g : i = 0
   · refine Ev.pos g ?_; rw [if_pos g]; exact Ev.bind (rsplit_ev u hu) (Ev.now _)
   · refine Ev.neg g ?_; rw [if_neg g]; exact Ev.now _
 · rw [if_neg h]
   exact Ev.neg (by rw [decide_eq_false h]; simp) (Ev.now _)
def stampD (i n t : Int) : Int × Int × Int :=
 if DR i n ∧ 0 ≤ t ∧ t ≤ 86400000000 then (if i = 0 then (if DIn ((n * 86400000000 + t) / 86400000000) then (0, n * 86400000000 + t, 0) else (0, 0, 10)) else (i, 0, 0)) else (0, 0, 1)
theorem stampD_j0 (i n t : Int) (h : DR i n ∧ 0 ≤ t ∧ t ≤ 86400000000) : Ev (fun k => bB.j0 k t false i n) (stampD i n t) := by
 obtain ⟨h, h0, h1⟩ := h
 unfold stampD
 rw [if_pos ⟨h, h0, h1⟩]
 refine Ev.succ ?_
 simp only [bB.j0, Bool.false_eq_true, if_false]
 by_cases g : i = 0
 · rw [if_pos g]
   have hn : DIn n := by subst g; exact dr_fin.1 h
   have b : -211810204800000000 ≤ n * 86400000000 ∧ n * 86400000000 ≤ 9223371244800000000 := by unfold DIn at hn; omega
   refine Ev.pos g (Ev.bind (Ev.at1 fun k => mul_eq k n 86400000000 (din_i64 hn) (by unfold I64; omega)) ?_)
   rw [out_in (z := n * 86400000000) (by unfold I64; omega)]
   refine Ev.pos rfl (Ev.bind0 (add_eq _ t (by unfold I64; omega) (by unfold I64; omega)) ?_)
   rw [out_in (z := n * 86400000000 + t) (by unfold I64; omega)]
   refine Ev.pos rfl (Ev.bind (drightS_ev 0 _ (by unfold I64; omega)) ?_)
   by_cases z : DIn ((n * 86400000000 + t) / 86400000000)
   · rw [if_pos z]
     exact Ev.pos (decide_eq_true (.inl ⟨rfl, z⟩)) (Ev.now _)
   · rw [if_neg z]
     refine Ev.neg ?_ (Ev.now _)
     rw [decide_eq_false]
     · simp
     · intro f
       rcases f with f | f
       · exact z f.2
       · omega
 · refine Ev.neg g ?_
   rw [if_neg g]
   exact Ev.now _
theorem stampD_ev (i n t : Int) : Ev (fun k => bB.f k i n t) (stampD i n t) := by
 unfold bB.f
 refine Ev.bind0 (dright_eq i n) ?_
 have no : ¬ (DR i n ∧ 0 ≤ t ∧ t ≤ 86400000000) → Ev (fun k => bB.j0 k t true i n) (stampD i n t) := by
  intro f
  unfold stampD
  rw [if_neg f]
  refine Ev.succ ?_
  simp only [bB.j0, if_true]
  exact Ev.now _
 by_cases h : DR i n
 · refine Ev.pos (decide_eq_true h) ?_
   by_cases h0 : t < 0
   · exact Ev.pos h0 (no (by omega))
   · refine Ev.neg h0 ?_
     by_cases h1 : t > 86400000000
     · rw [decide_eq_true h1]; exact no (by omega)
     · rw [decide_eq_false h1]; exact stampD_j0 i n t ⟨h, by omega, by omega⟩
 · exact Ev.neg (by rw [decide_eq_false h]; simp) (no (fun f => h f.1))
theorem rstampD_j0 (i n t : Int) (h : DR i n ∧ 0 ≤ t ∧ t ≤ 86400000000) : Ev (fun k => kF.j0 k t false i n) (stampD i n t) := by
 obtain ⟨h, h0, h1⟩ := h
 unfold stampD
 rw [if_pos ⟨h, h0, h1⟩]
 refine Ev.succ ?_
 simp only [kF.j0, Bool.false_eq_true, if_false]
 by_cases g : i = 0
 · rw [if_pos g]
   have hn : DIn n := by subst g; exact dr_fin.1 h
   have b : -211810204800000000 ≤ n * 86400000000 ∧ n * 86400000000 ≤ 9223371244800000000 := by unfold DIn at hn; omega
   refine Ev.pos g ?_
   by_cases y : t = 86400000000
   · refine Ev.pos y ?_
     have e1 : wrap64 (n + 1) = n + 1 := by unfold DIn at hn; rw [w64 (by omega) (by omega)]
     have e2 : wrap64 (wrap64 ((n + 1) * 86400000000)) = n * 86400000000 + t := by
      rw [w64 (x := (n + 1) * 86400000000) (by omega) (by omega), w64 (by omega) (by omega)]; omega
     have e3 : (n * 86400000000 + t) / 86400000000 = n + 1 := by omega
     rw [e1, e2, e3]
     refine Ev.bind (rinside_ev _) ?_
     by_cases z : DIn (n + 1)
     · rw [if_pos z]; exact Ev.pos (decide_eq_true z) (Ev.now _)
     · rw [if_neg z]; exact Ev.neg (by rw [decide_eq_false z]; simp) (Ev.now _)
   · refine Ev.neg y ?_
     have e2 : wrap64 (wrap64 (n * 86400000000) + t) = n * 86400000000 + t := by
      rw [w64 (x := n * 86400000000) (by omega) (by omega), w64 (by omega) (by omega)]
     have e3 : (n * 86400000000 + t) / 86400000000 = n := by omega
     rw [e2, e3, if_pos hn]
     exact Ev.bind (rinside_ev _) (Ev.pos (decide_eq_true hn) (Ev.now _))
 · refine Ev.neg g ?_
   rw [if_neg g]
   exact Ev.now _
theorem rstampD_ev (i n t : Int) : Ev (fun k => kF.f k i n t) (stampD i n t) := by
 unfold kF.f
 refine Ev.bind (rdright_ev i n) ?_
 have no : ¬ (DR i n ∧ 0 ≤ t ∧ t ≤ 86400000000) → Ev (fun k => kF.j0 k t true i n) (stampD i n t) := by
  intro f
  unfold stampD
  rw [if_neg f]
  refine Ev.succ ?_
  simp only [kF.j0, if_true]
  exact Ev.now _
 by_cases h : DR i n
 · refine Ev.pos (decide_eq_true h) ?_
   by_cases h0 : t < 0
   · exact Ev.pos h0 (no (by omega))
   · refine Ev.neg h0 ?_
     by_cases h1 : t > 86400000000
     · rw [decide_eq_true h1]; exact no (by omega)
     · rw [decide_eq_false h1]; exact rstampD_j0 i n t ⟨h, by omega, by omega⟩
 · exact Ev.neg (by rw [decide_eq_false h]; simp) (no (fun f => h f.1))
end Go.Proofs.YtimgphlfaninnaaGreat.Civ
namespace Go.Proofs.YtimgphlfaninnaaGreat.P
open Go.RowKit Go.Proofs.YtimgphlfaninnaaGreatW.PrintWords Go.Proofs.YtimgphlfaninnaaGreatW.PrintLast Go.Proofs.YtimgphlfaninnaaGreatW.PrintMore
 attribute [local go_sem] bR bQ jC jB bL bM bP bS
set_option linter.unusedVariables false
set_option linter.unusedSimpArgs false
theorem eqA59 (d : Nat) (w : World) (x0 y0 : Int) (x1 y1 : Int) (x2 y2 : Int) (x3 y3 : Int) :
 (Op.equalIn (d + 2) 59 (.agg #[.int .i64 x0, .int .i64 x1, .int .i64 x2, .int .i64 x3]) (.agg #[.int .i64 y0, .int .i64 y1, .int .i64 y2, .int .i64 y3])).run Tryz.prog w = .ok (x0 == y0 && (x1 == y1 && (x2 == y2 && (x3 == y3)))) w := by
 refine eqA_of Tryz.underlying59 (by kernel_rfl) ?_
 refine eqf_cons (by rfl) (by go_simp; rfl) (by go_simp; rfl) (by go_simp) ?_
 refine eqf_cons (by rfl) (by go_simp; rfl) (by go_simp; rfl) (by go_simp) ?_
 refine eqf_cons (by rfl) (by go_simp; rfl) (by go_simp; rfl) (by go_simp) ?_
 exact eqf_last (by rfl) (by go_simp; rfl) (by go_simp; rfl) (by go_simp)
end Go.Proofs.YtimgphlfaninnaaGreat.P
namespace Go.Proofs.YtimgphlfaninnaaGreat.P
open Go.RowKit Go.Proofs.YtimgphlfaninnaaGreatW.PrintWords Go.Proofs.YtimgphlfaninnaaGreatW.PrintLast Go.Proofs.YtimgphlfaninnaaGreatW.PrintMore
open Go.Proofs.YtimgphlfaninnaaGreat.A
 attribute [local go_sem] bR bQ jC jB bL bM bP bS
set_option linter.unusedVariables false
set_option linter.unusedSimpArgs false
attribute [local go_sem high] eqA59
def jY.f (a0 : Int) : Option (Bool) := if a0 ≥ (-2147483647) then (some (decide (a0 ≤ 2147483647))) else (some false)
set_option maxHeartbeats 8000000 in
set_option maxRecDepth 100000 in
theorem jY.calls (a0 : Int) (r : Bool) (w : World) (h : jY.f a0 = some r) :
 Calls Tryz.prog 66 #[.int .i64 a0] w fun e w' => e = .returned (.bool r) ∧ Drawn0 w w' := by
 have H : (if a0 ≥ (-2147483647) then (some (decide (a0 ≤ 2147483647))) else (some false)) = some r := h
 clear h
 by_cases c2 : a0 ≥ (-2147483647)
 · rw [if_pos c2] at H
   have c2b0 : decide ((-2147483647) ≤ a0) = true := decide_eq_true c2
   clear c2
   obtain rfl := Option.some.inj H
   go_enter Tryz.func66, Tryz.ntmps66
   go_wp2
   go_ret
   exact ⟨by first | rfl | (simp; done) | (simp [*]; done), by repeat (first | exact Drawn0.refl _ | apply Drawn0.step)⟩
 · rw [if_neg c2] at H
   have c2b0 : decide ((-2147483647) ≤ a0) = false := decide_eq_false c2
   clear c2
   obtain rfl := Option.some.inj H
   go_enter Tryz.func66, Tryz.ntmps66
   go_wp2
   go_ret
   exact ⟨by first | rfl | (simp; done) | (simp [*]; done), by repeat (first | exact Drawn0.refl _ | apply Drawn0.step)⟩
noncomputable def jY.con : Con
 | [.int .i64 a0] => some ((jY.f a0).isSome, .bool (gd (jY.f a0)))
 | _ => none
set_option maxRecDepth 100000 in
theorem jY.cok : COk Tryz.prog 66 (jY.con) := by
 intro args p v hc hp w A hA
 unfold jY.con at hc
 split at hc
 · rename_i a0
   simp only [Option.some.injEq, Prod.mk.injEq] at hc
   obtain ⟨rfl, rfl⟩ := hc
   rcases hf : jY.f a0 with _ | r
   · rw [hf] at hp; cases hp
   obtain rfl : A = [.int .i64 a0] := by simpa [kG, kL, kM, kN, kZ, kV, jP] using hA
   exact kK (fn := Tryz.f66) Tryz.func66 (by kernel_rfl) (by kernel_rfl) (jY.calls _ _ w hf) (fun _ => by simp [kH, kG, kL, kM, kN, kZ, kV, bK]) (fun _ h => h.below)
 · cases hc
def span_Right.f (a0_0 : Int) (a0_1 : Int) (a0_2 : Int) (a0_3 : Int) : Option (Bool) := if a0_0 = 0 then ((num_Neg.f a0_3).bind fun bt756 => ((jY.f a0_1).bind fun t758 => (if t758 = true then ((jY.f a0_2).bind fun t759 => (if t759 = true then (some (bt756.2 == 0)) else (some false))) else (some false)))) else (if (a0_1 == 0 && (a0_2 == 0 && (a0_3 == 0))) = true then (if a0_0 ≥ (-1) then (some (decide (a0_0 ≤ 1))) else (some false)) else (some false))
set_option maxRecDepth 100000 in
theorem span_Right.vc (a0_0 : Int) (a0_1 : Int) (a0_2 : Int) (a0_3 : Int) (K : AV → Prop) : afv PA Tryz.prog (tab [(65, num_Neg.con), (66, jY.con)]) noLoops 2 27 [.agg [.int .i64 a0_0, .int .i64 a0_1, .int .i64 a0_2, .int .i64 a0_3]] K = (brc (a0_0 != 0) (brc (a0_0 == a0_0 && (a0_1 == 0 && (a0_2 == 0 && (a0_3 == 0 && true)))) (brc (decide (a0_0 ≥ -1)) (K (AV.bool (decide (a0_0 ≤ 1)))) (K (AV.bool false))) (K (AV.bool false))) (brc (Option.isSome (num_Neg.f a0_3)) (∀ m0 : Int, m0 = Prod.fst (gd (num_Neg.f a0_3)) → ∀ m1 : Int, m1 = Prod.snd (gd (num_Neg.f a0_3)) → brc (Option.isSome (jY.f a0_1)) (∀ m2 : Bool, m2 = gd (jY.f a0_1) → brc m2 (brc (Option.isSome (jY.f a0_2)) (∀ m3 : Bool, m3 = gd (jY.f a0_2) → brc m3 (K (AV.bool (m1 == 0))) (K (AV.bool false))) False) (K (AV.bool false))) False) False)) := by kernel_rfl
set_option maxHeartbeats 1000000 in
set_option maxRecDepth 100000 in
theorem span_Right.calls (a0_0 : Int) (a0_1 : Int) (a0_2 : Int) (a0_3 : Int) (r : Bool) (w : World) (h : span_Right.f a0_0 a0_1 a0_2 a0_3 = some r) :
 Calls Tryz.prog 27 #[.agg #[.int .i64 a0_0, .int .i64 a0_1, .int .i64 a0_2, .int .i64 a0_3]] w fun e w' => e = .returned (.bool r) ∧ Below w.heap.size w w' := by
 refine bW (A := [.agg #[.int .i64 a0_0, .int .i64 a0_1, .int .i64 a0_2, .int .i64 a0_3]]) (v := .bool r) (kD (num_Neg.cok) (kD (jY.cok) (bE))) ((span_Right.vc a0_0 a0_1 a0_2 a0_3 _).mpr ?_) (by simp [kG, kL, kM, kN, kZ, kV, jP]) (fun ρ V' hV => by simpa [kG, kL, kM, kN, kZ, kV, bK] using hV)
 unfold span_Right.f at h
 (try simp only [bne, Option.bind_eq_some_iff, bN] at h)
 (try simp only [bne, jS, wrap_i64])
 first
  | grind (splits := 60) [kH]
  | ((repeat' (first | (have or_ : Or _ _ := h; clear or_; rcases h with h | h) | (have or_ : Exists _ := h; clear or_; obtain ⟨_, h⟩ := h) | (have or_ : And _ _ := h; clear or_; obtain ⟨hq_, h⟩ := h))) <;> (try simp only [Option.some.injEq, Prod.mk.injEq, reduceCtorEq] at h) <;> (try subst_vars) <;> first | (simp_all [kH] <;> (try omega) <;> rcases hb0 : decide (a0_0 ≥ -1) with _ | _ <;> rcases hb1 : decide (a0_0 ≤ 1) with _ | _ <;> simp_all [kH] <;> done) | grind (splits := 60) [kH])
  | (intros; subst_vars; simp_all [kH]; done)
end Go.Proofs.YtimgphlfaninnaaGreat.P
namespace Go.Proofs.YtimgphlfaninnaaGreat.Civ
set_option linter.unusedVariables false
set_option linter.unusedSimpArgs false
open Go.RowKit Go.Proofs.YtimgphlfaninnaaGreatW.PrintWords Go.Proofs.YtimgphlfaninnaaGreatW.PrintLast Go.Proofs.YtimgphlfaninnaaGreatW.PrintMore Go.Proofs.YtimgphlfaninnaaGreat.P
def SOk (i m d u : Int) : Prop :=
 (i = 0 ∧ -2147483647 ≤ m ∧ m ≤ 2147483647 ∧ -2147483647 ≤ d ∧ d ≤ 2147483647 ∧ -9223372036854775807 ≤ u ∧ u ≤ 9223372036854775807) ∨ ((i = -1 ∨ i = 1) ∧ m = 0 ∧ d = 0 ∧ u = 0)
instance (i m d u : Int) : Decidable (SOk i m d u) := inferInstanceAs (Decidable (_ ∨ _))
theorem within_eq (n : Int) : jY.f n = some (decide (-2147483647 ≤ n ∧ n ≤ 2147483647)) := by
 unfold jY.f
 by_cases h : n ≥ -2147483647
 · rw [if_pos h]; congr 1; apply decide_eq_decide.2; omega
 · rw [if_neg h, decide_eq_false (by omega)]
theorem rwithin_eq (n L : Int) (h0 : 0 ≤ L) (h1 : L ≤ 9223372036854775807) : bI.f n L = some (decide (-L ≤ n ∧ n ≤ L)) := by
 unfold bI.f
 rw [w64 (by omega) (by omega)]
 by_cases h : n ≥ -L
 · rw [if_pos h]; congr 1; apply decide_eq_decide.2; omega
 · rw [if_neg h, decide_eq_false (by omega)]
theorem zeros_iff (m d u : Int) : ((m == 0 && (d == 0 && (u == 0))) = true) ↔ (m = 0 ∧ d = 0 ∧ u = 0) := by simp
theorem sright_eq (i m d u : Int) (hu : I64 u) : span_Right.f i m d u = some (decide (SOk i m d u)) := by
 unfold span_Right.f
 by_cases h : i = 0
 · rw [if_pos h, neg_eq u hu, within_eq, within_eq]
   simp only [Option.bind_some, decide_eq_true_eq]
   have e : ((out (-u)).2 == 0) = decide (-9223372036854775807 ≤ u) := by
    unfold I64 at hu
    by_cases g : -9223372036854775807 ≤ u
    · rw [decide_eq_true g, out_in (by unfold I64; omega)]; rfl
    · rw [decide_eq_false g, out_no (by unfold I64; omega)]; rfl
   unfold I64 at hu
   by_cases h1 : -2147483647 ≤ m ∧ m ≤ 2147483647
   · rw [if_pos h1]
     by_cases h2 : -2147483647 ≤ d ∧ d ≤ 2147483647
     · rw [if_pos h2, e]; congr 1; apply decide_eq_decide.2; unfold SOk; omega
     · rw [if_neg h2, decide_eq_false (by unfold SOk; omega)]
   · rw [if_neg h1, decide_eq_false (by unfold SOk; omega)]
 · rw [if_neg h]
   by_cases h1 : m = 0 ∧ d = 0 ∧ u = 0
   · rw [if_pos ((zeros_iff m d u).2 h1)]
     by_cases h2 : i ≥ -1
     · rw [if_pos h2]; congr 1; apply decide_eq_decide.2; unfold SOk; omega
     · rw [if_neg h2, decide_eq_false (by unfold SOk; omega)]
   · rw [if_neg (fun f => h1 ((zeros_iff m d u).1 f)), decide_eq_false (by unfold SOk; omega)]
theorem rsright_eq (i m d u : Int) : zJ.f i m d u = some (decide (SOk i m d u)) := by
 unfold zJ.f
 rw [rwithin_eq m _ (by omega) (by omega), rwithin_eq d _ (by omega) (by omega), rwithin_eq u _ (by omega) (by omega)]
 simp only [Option.bind_some, decide_eq_true_eq]
 have e : (u == 0) = decide (u = 0) := rfl
 by_cases h : i = 0
 · rw [if_pos h]
   by_cases h1 : -2147483647 ≤ m ∧ m ≤ 2147483647
   · rw [if_pos h1]
     by_cases h2 : -2147483647 ≤ d ∧ d ≤ 2147483647
     · rw [if_pos h2]; congr 1; apply decide_eq_decide.2; unfold SOk; omega
     · rw [if_neg h2, decide_eq_false (by unfold SOk; omega)]
   · rw [if_neg h1, decide_eq_false (by unfold SOk; omega)]
 · rw [if_neg h, e]
   have three : ∀ (j : Int), (j = -1 ∨ j = 1) → i = j → (if m = 0 then (if d = 0 then some (decide (u = 0)) else some false) else some false) = some (decide (SOk i m d u)) := by
    intro j hj hi
    by_cases h1 : m = 0
    · rw [if_pos h1]
      by_cases h2 : d = 0
      · rw [if_pos h2]; congr 1; apply decide_eq_decide.2; unfold SOk; omega
      · rw [if_neg h2, decide_eq_false (by unfold SOk; omega)]
    · rw [if_neg h1, decide_eq_false (by unfold SOk; omega)]
   by_cases h1 : i = -1
   · rw [if_pos h1]; exact three (-1) (.inl rfl) h1
   · rw [if_neg h1]
     by_cases h2 : i = 1
     · rw [if_pos h2]; exact three 1 (.inr rfl) h2
     · rw [if_neg h2, decide_eq_false (by unfold SOk; omega)]
end Go.Proofs.YtimgphlfaninnaaGreat.Civ
namespace Go.Proofs.YtimgphlfaninnaaGreat.P
open Go.RowKit Go.Proofs.YtimgphlfaninnaaGreatW.PrintWords Go.Proofs.YtimgphlfaninnaaGreatW.PrintLast Go.Proofs.YtimgphlfaninnaaGreatW.PrintMore
open Go.Proofs.YtimgphlfaninnaaGreat.A
 attribute [local go_sem] bR bQ jC jB bL bM bP bS
set_option linter.unusedVariables false
set_option linter.unusedSimpArgs false
mutual
def jR.j0 : Nat → Int → Int → Bool → Int → Int → Int → Int → Int → Int → Option (Int × Int × Int)
 | 0, _, _, _, _, _, _, _, _, _ => none
 | k + 1, x7, x8, x21, x218000, x218001, x218002, x218003, x224000, x224001 => if x21 = true then ((bV.f k x224000 x224001 x218001).bind fun bt224 => (jR.j1 k x7 bt224.2.2 x218000 x218001 x218002 x218003 bt224.1 bt224.2.1)) else (jR.j1 k x7 x8 x218000 x218001 x218002 x218003 x224000 x224001)
def jR.j1 : Nat → Int → Int → Int → Int → Int → Int → Int → Int → Option (Int × Int × Int)
 | 0, _, _, _, _, _, _, _, _ => none
 | k + 1, x7, x8, x218000, x218001, x218002, x218003, x224000, x224001 => if x8 = 0 then ((zD.f x224000 x224001 x218002).bind fun bt227 => (if bt227.2.2 = 0 then ((bB.f k bt227.1 bt227.2.1 x7).bind fun bt230 => (some (bt230.1, bt230.2.1, bt230.2.2))) else (some (0, 0, bt227.2.2)))) else (some (0, 0, x8))
end
def jR.f (k : Nat) (a0_0 : Int) (a0_1 : Int) (a1_0 : Int) (a1_1 : Int) (a1_2 : Int) (a1_3 : Int) : Option (Int × Int × Int) := (jZ.f k a0_0 a0_1).bind fun bt219 => (if a1_1 = 0 then (jR.j0 k bt219.2.2.1 bt219.2.2.2 false a1_0 a1_1 a1_2 a1_3 bt219.1 bt219.2.1) else (jR.j0 k bt219.2.2.1 bt219.2.2.2 (bt219.2.2.2 == 0) a1_0 a1_1 a1_2 a1_3 bt219.1 bt219.2.1))
set_option maxRecDepth 100000 in
theorem jR.vc (k : Nat) (a0_0 : Int) (a0_1 : Int) (a1_0 : Int) (a1_1 : Int) (a1_2 : Int) (a1_3 : Int) (K : AV → Prop) : afv PA Tryz.prog (tab [(83, jZ.con k), (84, bV.con k), (85, zD.con), (86, bB.con k)]) noLoops 2 44 [.agg [.int .i64 a0_0, .int .i64 a0_1], .agg [.int .i64 a1_0, .int .i64 a1_1, .int .i64 a1_2, .int .i64 a1_3]] K = (brc (Option.isSome (jZ.f k a0_0 a0_1)) (∀ m0 : Int, m0 = Prod.fst (gd (jZ.f k a0_0 a0_1)) → ∀ m1 : Int, m1 = Prod.fst (Prod.snd (gd (jZ.f k a0_0 a0_1))) → ∀ m2 : Int, m2 = Prod.fst (Prod.snd (Prod.snd (gd (jZ.f k a0_0 a0_1)))) → ∀ m3 : Int, m3 = Prod.snd (Prod.snd (Prod.snd (gd (jZ.f k a0_0 a0_1)))) → brc (a1_1 != 0) (brc (m3 == 0) (brc (Option.isSome (bV.f k m0 m1 a1_1)) (∀ m4 : Int, m4 = Prod.fst (gd (bV.f k m0 m1 a1_1)) → ∀ m5 : Int, m5 = Prod.fst (Prod.snd (gd (bV.f k m0 m1 a1_1))) → ∀ m6 : Int, m6 = Prod.snd (Prod.snd (gd (bV.f k m0 m1 a1_1))) → brc (m6 == 0) (brc (Option.isSome (zD.f m4 m5 a1_2)) (∀ m7 : Int, m7 = Prod.fst (gd (zD.f m4 m5 a1_2)) → ∀ m8 : Int, m8 = Prod.fst (Prod.snd (gd (zD.f m4 m5 a1_2))) → ∀ m9 : Int, m9 = Prod.snd (Prod.snd (gd (zD.f m4 m5 a1_2))) → brc (m9 != 0) (K (AV.tup [.agg [.int .i64 0, .int .i64 0], .int .i64 m9])) (brc (Option.isSome (bB.f k m7 m8 m2)) (∀ m10 : Int, m10 = Prod.fst (gd (bB.f k m7 m8 m2)) → ∀ m11 : Int, m11 = Prod.fst (Prod.snd (gd (bB.f k m7 m8 m2))) → ∀ m12 : Int, m12 = Prod.snd (Prod.snd (gd (bB.f k m7 m8 m2))) → K (AV.tup [.agg [.int .i64 m10, .int .i64 m11], .int .i64 m12])) False)) False) (brc (m6 != 0) (K (AV.tup [.agg [.int .i64 0, .int .i64 0], .int .i64 m6])) (brc (Option.isSome (bB.f k m4 m5 m2)) (∀ m7 : Int, m7 = Prod.fst (gd (bB.f k m4 m5 m2)) → ∀ m8 : Int, m8 = Prod.fst (Prod.snd (gd (bB.f k m4 m5 m2))) → ∀ m9 : Int, m9 = Prod.snd (Prod.snd (gd (bB.f k m4 m5 m2))) → K (AV.tup [.agg [.int .i64 m7, .int .i64 m8], .int .i64 m9])) False))) False) (brc (m3 == 0) (brc (Option.isSome (zD.f m0 m1 a1_2)) (∀ m4 : Int, m4 = Prod.fst (gd (zD.f m0 m1 a1_2)) → ∀ m5 : Int, m5 = Prod.fst (Prod.snd (gd (zD.f m0 m1 a1_2))) → ∀ m6 : Int, m6 = Prod.snd (Prod.snd (gd (zD.f m0 m1 a1_2))) → brc (m6 != 0) (K (AV.tup [.agg [.int .i64 0, .int .i64 0], .int .i64 m6])) (brc (Option.isSome (bB.f k m4 m5 m2)) (∀ m7 : Int, m7 = Prod.fst (gd (bB.f k m4 m5 m2)) → ∀ m8 : Int, m8 = Prod.fst (Prod.snd (gd (bB.f k m4 m5 m2))) → ∀ m9 : Int, m9 = Prod.snd (Prod.snd (gd (bB.f k m4 m5 m2))) → K (AV.tup [.agg [.int .i64 m7, .int .i64 m8], .int .i64 m9])) False)) False) (brc (m3 != 0) (K (AV.tup [.agg [.int .i64 0, .int .i64 0], .int .i64 m3])) (brc (Option.isSome (bB.f k m0 m1 m2)) (∀ m4 : Int, m4 = Prod.fst (gd (bB.f k m0 m1 m2)) → ∀ m5 : Int, m5 = Prod.fst (Prod.snd (gd (bB.f k m0 m1 m2))) → ∀ m6 : Int, m6 = Prod.snd (Prod.snd (gd (bB.f k m0 m1 m2))) → K (AV.tup [.agg [.int .i64 m4, .int .i64 m5], .int .i64 m6])) False)))) (brc (m3 == 0) (brc (Option.isSome (zD.f m0 m1 a1_2)) (∀ m4 : Int, m4 = Prod.fst (gd (zD.f m0 m1 a1_2)) → ∀ m5 : Int, m5 = Prod.fst (Prod.snd (gd (zD.f m0 m1 a1_2))) → ∀ m6 : Int, m6 = Prod.snd (Prod.snd (gd (zD.f m0 m1 a1_2))) → brc (m6 != 0) (K (AV.tup [.agg [.int .i64 0, .int .i64 0], .int .i64 m6])) (brc (Option.isSome (bB.f k m4 m5 m2)) (∀ m7 : Int, m7 = Prod.fst (gd (bB.f k m4 m5 m2)) → ∀ m8 : Int, m8 = Prod.fst (Prod.snd (gd (bB.f k m4 m5 m2))) → ∀ m9 : Int, m9 = Prod.snd (Prod.snd (gd (bB.f k m4 m5 m2))) → K (AV.tup [.agg [.int .i64 m7, .int .i64 m8], .int .i64 m9])) False)) False) (brc (m3 != 0) (K (AV.tup [.agg [.int .i64 0, .int .i64 0], .int .i64 m3])) (brc (Option.isSome (bB.f k m0 m1 m2)) (∀ m4 : Int, m4 = Prod.fst (gd (bB.f k m0 m1 m2)) → ∀ m5 : Int, m5 = Prod.fst (Prod.snd (gd (bB.f k m0 m1 m2))) → ∀ m6 : Int, m6 = Prod.snd (Prod.snd (gd (bB.f k m0 m1 m2))) → K (AV.tup [.agg [.int .i64 m4, .int .i64 m5], .int .i64 m6])) False)))) False) := by kernel_rfl
set_option maxHeartbeats 1000000 in
set_option maxRecDepth 100000 in
theorem jR.calls (k : Nat) (a0_0 : Int) (a0_1 : Int) (a1_0 : Int) (a1_1 : Int) (a1_2 : Int) (a1_3 : Int) (r1 : Int) (r2 : Int) (r3 : Int) (w : World) (h : jR.f k a0_0 a0_1 a1_0 a1_1 a1_2 a1_3 = some (r1, r2, r3)) :
 Calls Tryz.prog 44 #[.agg #[.int .i64 a0_0, .int .i64 a0_1], .agg #[.int .i64 a1_0, .int .i64 a1_1, .int .i64 a1_2, .int .i64 a1_3]] w fun e w' => e = .returned (.tuple #[.agg #[.int .i64 r1, .int .i64 r2], .int .i64 r3]) ∧ Below w.heap.size w w' := by
 refine bW (A := [.agg #[.int .i64 a0_0, .int .i64 a0_1], .agg #[.int .i64 a1_0, .int .i64 a1_1, .int .i64 a1_2, .int .i64 a1_3]]) (v := .tup [.agg [.int .i64 r1, .int .i64 r2], .int .i64 r3]) (kD (jZ.cok k) (kD (bV.cok k) (kD (zD.cok) (kD (bB.cok k) (bE))))) ((jR.vc k a0_0 a0_1 a1_0 a1_1 a1_2 a1_3 _).mpr ?_) (by simp [kG, kL, kM, kN, kZ, kV, jP]) (fun ρ V' hV => by simpa [kG, kL, kM, kN, kZ, kV, bK] using hV)
 unfold jR.f at h
 cases k with
 | zero =>
  (try simp only [jR.j0, jR.j1] at h)
  (try simp only [bne, Option.bind_eq_some_iff, bN] at h)
  (try simp only [bne, jS, wrap_i64])
  first
   | grind (splits := 60) [kH]
   | ((repeat' (first | (have or_ : Or _ _ := h; clear or_; rcases h with h | h) | (have or_ : Exists _ := h; clear or_; obtain ⟨_, h⟩ := h) | (have or_ : And _ _ := h; clear or_; obtain ⟨hq_, h⟩ := h))) <;> (try simp only [Option.some.injEq, Prod.mk.injEq, reduceCtorEq] at h) <;> (try subst_vars) <;> first | (simp_all [kH] <;> (try omega) <;> done) | grind (splits := 60) [kH])
   | (intros; subst_vars; simp_all [kH]; done)
 | succ k =>
  cases k with
  | zero =>
   (try simp only [jR.j0, jR.j1] at h)
   (try simp only [bne, Option.bind_eq_some_iff, bN] at h)
   (try simp only [bne, jS, wrap_i64])
   first
    | grind (splits := 60) [kH, jZ.up, bV.up, bB.up]
    | ((repeat' (first | (have or_ : Or _ _ := h; clear or_; rcases h with h | h) | (have or_ : Exists _ := h; clear or_; obtain ⟨_, h⟩ := h) | (have or_ : And _ _ := h; clear or_; obtain ⟨hq_, h⟩ := h; (try first | replace hq_ := jZ.le (n := 0 + 1) hq_ (by omega) | replace hq_ := bV.le (n := 0 + 1) hq_ (by omega) | replace hq_ := bB.le (n := 0 + 1) hq_ (by omega))))) <;> (try simp only [Option.some.injEq, Prod.mk.injEq, reduceCtorEq] at h) <;> (try subst_vars) <;> first | (simp_all [kH] <;> (try omega) <;> done) | grind (splits := 60) [kH, jZ.up, bV.up, bB.up])
    | (intros; subst_vars; simp_all [kH]; done)
  | succ k =>
   (try simp only [jR.j0, jR.j1] at h)
   (try simp only [bne, Option.bind_eq_some_iff, bN] at h)
   (try simp only [bne, jS, wrap_i64])
   first
    | grind (splits := 60) [kH, jZ.up, bV.up, bB.up]
    | ((repeat' (first | (have or_ : Or _ _ := h; clear or_; rcases h with h | h) | (have or_ : Exists _ := h; clear or_; obtain ⟨_, h⟩ := h) | (have or_ : And _ _ := h; clear or_; obtain ⟨hq_, h⟩ := h; (try first | replace hq_ := jZ.le (n := k + 1 + 1) hq_ (by omega) | replace hq_ := bV.le (n := k + 1 + 1) hq_ (by omega) | replace hq_ := bB.le (n := k + 1 + 1) hq_ (by omega))))) <;> (try simp only [Option.some.injEq, Prod.mk.injEq, reduceCtorEq] at h) <;> (try subst_vars) <;> first | (simp_all [kH] <;> (try omega) <;> done) | grind (splits := 60) [kH, jZ.up, bV.up, bB.up])
    | (intros; subst_vars; simp_all [kH]; done)
def jA.j0 : Nat → Int → Int → Int → Int → Int → Int → Int → Option (Int × Int × Int)
 | 0, _, _, _, _, _, _, _ => none
 | k + 1, x7, x887000, x887001, x887002, x887003, x893000, x893001 => (kR.f k x893000 x893001 x887002).bind fun bt896 => (if bt896.2.2 = 0 then ((kF.f k bt896.1 bt896.2.1 x7).bind fun bt899 => (some (bt899.1, bt899.2.1, bt899.2.2))) else (some (0, 0, bt896.2.2)))
def jA.f (k : Nat) (a0_0 : Int) (a0_1 : Int) (a1_0 : Int) (a1_1 : Int) (a1_2 : Int) (a1_3 : Int) : Option (Int × Int × Int) := (kY.f k a0_0 a0_1).bind fun bt888 => (if a1_1 = 0 then (jA.j0 k bt888.2.2.1 a1_0 a1_1 a1_2 a1_3 bt888.1 bt888.2.1) else ((kQ.f k bt888.1 bt888.2.1 a1_1).bind fun bt893 => (if bt893.2.2 = 0 then (jA.j0 k bt888.2.2.1 a1_0 a1_1 a1_2 a1_3 bt893.1 bt893.2.1) else (some (0, 0, bt893.2.2)))))
set_option maxRecDepth 100000 in
theorem jA.vc (k : Nat) (a0_0 : Int) (a0_1 : Int) (a1_0 : Int) (a1_1 : Int) (a1_2 : Int) (a1_3 : Int) (K : AV → Prop) : afv PA Tryz.prog (tab [(60, kY.con k), (82, kF.con k), (88, kQ.con k), (89, kR.con k)]) noLoops 2 47 [.agg [.int .i64 a0_0, .int .i64 a0_1], .agg [.int .i64 a1_0, .int .i64 a1_1, .int .i64 a1_2, .int .i64 a1_3]] K = (brc (Option.isSome (kY.f k a0_0 a0_1)) (∀ m0 : Int, m0 = Prod.fst (gd (kY.f k a0_0 a0_1)) → ∀ m1 : Int, m1 = Prod.fst (Prod.snd (gd (kY.f k a0_0 a0_1))) → ∀ m2 : Int, m2 = Prod.fst (Prod.snd (Prod.snd (gd (kY.f k a0_0 a0_1)))) → ∀ m3 : Int, m3 = Prod.snd (Prod.snd (Prod.snd (gd (kY.f k a0_0 a0_1)))) → brc (a1_1 != 0) (brc (Option.isSome (kQ.f k m0 m1 a1_1)) (∀ m4 : Int, m4 = Prod.fst (gd (kQ.f k m0 m1 a1_1)) → ∀ m5 : Int, m5 = Prod.fst (Prod.snd (gd (kQ.f k m0 m1 a1_1))) → ∀ m6 : Int, m6 = Prod.snd (Prod.snd (gd (kQ.f k m0 m1 a1_1))) → brc (m6 != 0) (K (AV.tup [.agg [.int .i64 0, .int .i64 0], .int .i64 m6])) (brc (Option.isSome (kR.f k m4 m5 a1_2)) (∀ m7 : Int, m7 = Prod.fst (gd (kR.f k m4 m5 a1_2)) → ∀ m8 : Int, m8 = Prod.fst (Prod.snd (gd (kR.f k m4 m5 a1_2))) → ∀ m9 : Int, m9 = Prod.snd (Prod.snd (gd (kR.f k m4 m5 a1_2))) → brc (m9 != 0) (K (AV.tup [.agg [.int .i64 0, .int .i64 0], .int .i64 m9])) (brc (Option.isSome (kF.f k m7 m8 m2)) (∀ m10 : Int, m10 = Prod.fst (gd (kF.f k m7 m8 m2)) → ∀ m11 : Int, m11 = Prod.fst (Prod.snd (gd (kF.f k m7 m8 m2))) → ∀ m12 : Int, m12 = Prod.snd (Prod.snd (gd (kF.f k m7 m8 m2))) → K (AV.tup [.agg [.int .i64 m10, .int .i64 m11], .int .i64 m12])) False)) False)) False) (brc (Option.isSome (kR.f k m0 m1 a1_2)) (∀ m4 : Int, m4 = Prod.fst (gd (kR.f k m0 m1 a1_2)) → ∀ m5 : Int, m5 = Prod.fst (Prod.snd (gd (kR.f k m0 m1 a1_2))) → ∀ m6 : Int, m6 = Prod.snd (Prod.snd (gd (kR.f k m0 m1 a1_2))) → brc (m6 != 0) (K (AV.tup [.agg [.int .i64 0, .int .i64 0], .int .i64 m6])) (brc (Option.isSome (kF.f k m4 m5 m2)) (∀ m7 : Int, m7 = Prod.fst (gd (kF.f k m4 m5 m2)) → ∀ m8 : Int, m8 = Prod.fst (Prod.snd (gd (kF.f k m4 m5 m2))) → ∀ m9 : Int, m9 = Prod.snd (Prod.snd (gd (kF.f k m4 m5 m2))) → K (AV.tup [.agg [.int .i64 m7, .int .i64 m8], .int .i64 m9])) False)) False)) False) := by kernel_rfl
set_option maxHeartbeats 1000000 in
set_option maxRecDepth 100000 in
theorem jA.calls (k : Nat) (a0_0 : Int) (a0_1 : Int) (a1_0 : Int) (a1_1 : Int) (a1_2 : Int) (a1_3 : Int) (r1 : Int) (r2 : Int) (r3 : Int) (w : World) (h : jA.f k a0_0 a0_1 a1_0 a1_1 a1_2 a1_3 = some (r1, r2, r3)) :
 Calls Tryz.prog 47 #[.agg #[.int .i64 a0_0, .int .i64 a0_1], .agg #[.int .i64 a1_0, .int .i64 a1_1, .int .i64 a1_2, .int .i64 a1_3]] w fun e w' => e = .returned (.tuple #[.agg #[.int .i64 r1, .int .i64 r2], .int .i64 r3]) ∧ Below w.heap.size w w' := by
 refine bW (A := [.agg #[.int .i64 a0_0, .int .i64 a0_1], .agg #[.int .i64 a1_0, .int .i64 a1_1, .int .i64 a1_2, .int .i64 a1_3]]) (v := .tup [.agg [.int .i64 r1, .int .i64 r2], .int .i64 r3]) (kD (kY.cok k) (kD (kF.cok k) (kD (kQ.cok k) (kD (kR.cok k) (bE))))) ((jA.vc k a0_0 a0_1 a1_0 a1_1 a1_2 a1_3 _).mpr ?_) (by simp [kG, kL, kM, kN, kZ, kV, jP]) (fun ρ V' hV => by simpa [kG, kL, kM, kN, kZ, kV, bK] using hV)
 unfold jA.f at h
 cases k with
 | zero =>
  (try simp only [jA.j0] at h)
  (try simp only [bne, Option.bind_eq_some_iff, bN] at h)
  (try simp only [bne, jS, wrap_i64])
  first
   | grind (splits := 60) [kH]
   | ((repeat' (first | (have or_ : Or _ _ := h; clear or_; rcases h with h | h) | (have or_ : Exists _ := h; clear or_; obtain ⟨_, h⟩ := h) | (have or_ : And _ _ := h; clear or_; obtain ⟨hq_, h⟩ := h))) <;> (try simp only [Option.some.injEq, Prod.mk.injEq, reduceCtorEq] at h) <;> (try subst_vars) <;> first | (simp_all [kH] <;> (try omega) <;> done) | grind (splits := 60) [kH])
   | (intros; subst_vars; simp_all [kH]; done)
 | succ k =>
  (try simp only [jA.j0] at h)
  (try simp only [bne, Option.bind_eq_some_iff, bN] at h)
  (try simp only [bne, jS, wrap_i64])
  first
   | grind (splits := 60) [kH, kY.up, kF.up, kQ.up, kR.up]
   | ((repeat' (first | (have or_ : Or _ _ := h; clear or_; rcases h with h | h) | (have or_ : Exists _ := h; clear or_; obtain ⟨_, h⟩ := h) | (have or_ : And _ _ := h; clear or_; obtain ⟨hq_, h⟩ := h; (try first | replace hq_ := kY.le (n := k + 1) hq_ (by omega) | replace hq_ := kF.le (n := k + 1) hq_ (by omega) | replace hq_ := kQ.le (n := k + 1) hq_ (by omega) | replace hq_ := kR.le (n := k + 1) hq_ (by omega))))) <;> (try simp only [Option.some.injEq, Prod.mk.injEq, reduceCtorEq] at h) <;> (try subst_vars) <;> first | (simp_all [kH] <;> (try omega) <;> done) | grind (splits := 60) [kH, kY.up, kF.up, kQ.up, kR.up])
   | (intros; subst_vars; simp_all [kH]; done)
end Go.Proofs.YtimgphlfaninnaaGreat.P
